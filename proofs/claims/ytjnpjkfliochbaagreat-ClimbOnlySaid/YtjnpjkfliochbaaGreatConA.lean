import Derived.Test.YtjnpjkfliochbaaGreatEngE
import Derived.Test.YtjnpjkfliochbaaGreatProg
import Derived.KernelRfl
import Derived.Tactics2
import Derived.StillTactics
import Derived.Laws.Tables
set_option linter.unusedVariables false
set_option linter.unusedSimpArgs false
set_option maxRecDepth 20000
namespace Go.Proofs.YtjnpjkfliochbaaGreat
open Go.Eng Go.Tm
open Go.Eng Go.Tm
abbrev layV (l:Lay):Value:=.agg #[.int .i64 l.V,.int .i64 l.S,.int .i64 l.T]
abbrev zqN (t:Thing):Value:=.agg #[.bool t.arc,.int .i64 t.level,.int .i64 t.vertex,.int .i64 t.slot,.int .i64 t.side]
abbrev wdV (w:Wd):Value:=.agg #[.int .i64 w.old,.int .i64 w.new,.int .i64 w.thread,.int .i64 w.tag]
theorem zpR {x:Int} (_h0:0≤x) (_h1:x≤16):0≤levI x∧levI x≤5:=by
 unfold levI
 repeat' split
 all_goals omega
theorem zq1 {s:ByteArray} {x:Int} (h0:0≤x) (h1:x≤16) (hs:(List.range 17).map (fun i=>(s[i]?).map (·.toNat))=[0,1,2,2,3,3,3,3,4,4,4,4,4,4,4,4,5].map some):(s[x.toNat]?).map (fun b=>(b.toNat:Int))=some (levI x):=by
 have hx:x.toNat<17:=by omega
 have h2:=congrArg (fun l=>l[x.toNat]?) hs
 simp only [List.getElem?_map,List.getElem?_range hx,Option.map_some] at h2
 have h3:x=(x.toNat:Int):=by omega
 rw [h3,Int.toNat_natCast]
 generalize x.toNat=i at *
 have:i=0∨i=1∨i=2∨i=3∨i=4∨i=5∨i=6∨i=7∨i=8∨i=9∨i=10∨i=11∨i=12∨i=13∨i=14∨i=15∨i=16:=by omega
 cases hb:s[i]? with
 | none=>rw [hb] at h2; rcases this with rfl | rfl | rfl | rfl | rfl | rfl | rfl | rfl | rfl | rfl | rfl | rfl | rfl | rfl | rfl | rfl | rfl<;>simp at h2
 | some b=>rw [hb] at h2; rcases this with rfl | rfl | rfl | rfl | rfl | rfl | rfl | rfl | rfl | rfl | rfl | rfl | rfl | rfl | rfl | rfl | rfl<;>simp at h2<;>simp [h2,levI]
theorem zej {l:Lay} (h:l.Ok):1≤(l.V:Int)∧(l.V:Int)≤16∧(l.S:Int)≤48∧1≤(l.T:Int)∧(l.T:Int)≤8:=by
 obtain ⟨h1,h2,h3,h4,h5⟩:=h; omega
theorem zqY {l:Lay} (h:l.Ok):1≤l.lev∧l.lev≤5:=by
 have:=zej h
 unfold Lay.lev levI
 repeat' split
 all_goals omega
theorem za4 {l:Lay} (h:l.Ok):(1≤(l.V:Int)∧(l.V:Int)≤16∧(l.S:Int)≤48∧1≤(l.T:Int)∧(l.T:Int)≤8)∧(1≤l.lev∧l.lev≤5)∧l.arcs=2 * l.lev∧l.free=l.T∧(0≤l.lev * l.V∧l.lev * l.V≤5 * 16)∧(0≤(l.V:Int) * l.lev∧(l.V:Int) * l.lev≤16 * 5) ∧
  (0≤(l.S:Int) * l.arcs∧(l.S:Int) * l.arcs≤48 * 10)∧l.nodes=l.lev * l.V+l.S * l.arcs∧l.heads=l.T+1+l.S * 7∧l.edges=l.heads+l.V * l.lev∧(0≤(l.V:Int) * (l.V - 1)∧(l.V:Int) * (l.V - 1)≤16 * 15) ∧
  l.base=l.edges+(l.V:Int) * (l.V - 1) / 2∧l.cells=l.base+l.nodes * 7:=by
 have h1:=zej h
 have h2:=zqY h
 have h3:l.arcs=2 * l.lev:=rfl
 exact ⟨h1,h2,h3,rfl,zcK (by omega) (by omega) (by omega) (by omega),zcK (by omega) (by omega) (by omega) (by omega),zcK (by omega) (by omega) (by omega) (by omega),rfl,rfl,rfl,zcK (by omega) (by omega) (by omega) (by omega),rfl,rfl⟩
theorem zlD {a b:Int} (h0:0≤a) (hb:0<b) (ha:a<9223372036854775808):IntKind.i64.wrap (a.tdiv b)=a / b:=by
 rw [Int.tdiv_eq_ediv_of_nonneg h0]
 exact wr64 ⟨by have:=Int.ediv_nonneg h0 (Int.le_of_lt hb); omega,by have:=Int.ediv_le_self b h0; omega⟩
theorem zpx {a b:Int} (h0:0≤a):a.tmod b=a % b:=Int.tmod_eq_emod_of_nonneg h0
theorem zep {x V:Int} (h0:0≤x) (h1:x<V) (h2:V≤16):0≤x * (2 * V - x - 1)∧x * (2 * V - x - 1)≤16 * 32:=zcK h0 (by omega) (by omega) (by omega)
abbrev zaW (l:Lay) (mt:TypeId) (mv:Value) (p:Pen):Value:=.agg #[.int .i64 l.V,.int .i64 l.S,.int .i64 l.T,.iface mt mv,.int .i64 p.thread,.int .i64 p.tag]
abbrev zfw (l:Lay) (mt:TypeId) (mv:Value):Value:=.agg #[.int .i64 l.V,.int .i64 l.S,.int .i64 l.T,.iface mt mv]
abbrev adjV (l:Lay) (mt:TypeId) (mv:Value) (p:Pen):Value:=.agg #[.int .i64 l.V,.int .i64 l.S,.int .i64 l.T,.iface mt mv,.int .i64 p.thread,.int .i64 p.tag,.int .i64 l.V,.int .i64 l.S,.int .i64 l.T,.iface mt mv]
theorem zj2 (l:Lay) (x m:Int):0≤zd4 l x m∧zd4 l x m<18446744073709551616:=by
 unfold zd4; split<;>exact zcu _ _
theorem zkH {S:Type} [MemLike S] (l:Lay) (σ:S) (x m:Int) (i:Nat):0≤(zc7 l σ x m i).1∧(zc7 l σ x m i).1<18446744073709551616:=by
 cases i with
 | zero=>exact zj2 _ _ _
 | succ i=>exact zcu _ _
abbrev edgV (e:Edg):Value:=.agg #[.int .i64 e.u,.int .i64 e.v,.int .i64 e.level,.bool e.tree]
theorem quo2 (z:Int):IntKind.i64.wrap ((IntKind.i64.wrap z).tdiv 2)=(IntKind.i64.wrap z).tdiv 2:=by
 have h:-9223372036854775808≤IntKind.i64.wrap z∧IntKind.i64.wrap z<9223372036854775808:=by
  rw [IntKind.wrap_i64]; omega
 generalize IntKind.i64.wrap z=y at *
 refine wr64 ?_
 have h1:=Int.mul_tdiv_add_tmod y 2
 have h2:=Int.tmod_lt_of_pos y (show (0:Int)<2 by omega)
 have h3:=Int.lt_tmod_of_pos y (show (0:Int)<2 by omega)
 omega
theorem zdG:(Tryz.prog.underlying 71).isSome=true:=by kernel_rfl
theorem zop:intB Tryz.prog 5 .u8=true:=by kernel_rfl
theorem zrc:Tryz.prog.underlying 9=some .string:=by kernel_rfl
theorem fc_u5:(Tryz.prog.underlying 5).isSome=true:=by kernel_rfl
theorem za1:intB Tryz.prog 3 .i64=true:=by kernel_rfl
theorem zqk:zaj Tryz.prog 145=true:=by kernel_rfl
theorem zas:fldB Tryz.prog 23 0 0=true:=by kernel_rfl
theorem zaf:zb9 Tryz.prog 3=true:=by kernel_rfl
theorem zeR:(Tryz.prog.underlying 3).isSome=true:=by kernel_rfl
theorem zjq:intB Tryz.prog 170 .u64=true:=by kernel_rfl
theorem zqq:zaj Tryz.prog 116=true:=by kernel_rfl
theorem zaa:aggB Tryz.prog 23 3=true:=by kernel_rfl
theorem zd9:zaj Tryz.prog 77=true:=by kernel_rfl
theorem fc_m:Tryz.prog.follows .mixedOrders=true:=by kernel_rfl
theorem za9:fldB Tryz.prog 23 1 1=true:=by kernel_rfl
theorem zkf:zaj Tryz.prog 78=true:=by kernel_rfl
theorem zbh:zaj Tryz.prog 102=true:=by kernel_rfl
theorem zde:fldB Tryz.prog 23 2 2=true:=by kernel_rfl
theorem zhP:zaj Tryz.prog 122=true:=by kernel_rfl
theorem zgq:zaj Tryz.prog 149=true:=by kernel_rfl
theorem zmS:zaj Tryz.prog 148=true:=by kernel_rfl
theorem zm2:zaj Tryz.prog 120=true:=by kernel_rfl
theorem zea:zaj Tryz.prog 17=true:=by kernel_rfl
theorem zo1:zaj Tryz.prog 88=true:=by kernel_rfl
theorem zdE:zbv Tryz.prog 94=some (.agg #[.bool false,.int .i64 0,.int .i64 0,.int .i64 0,.int .i64 0]):=by kernel_rfl
theorem zms:za6 Tryz.prog 94 [(0,1),(1,1),(2,1),(3,1),(4,1)]=true:=by kernel_rfl
theorem zbz:aggB Tryz.prog 94 5=true:=by kernel_rfl
theorem zcN:fldB Tryz.prog 175 2 2=true:=by kernel_rfl
theorem za7:fldB Tryz.prog 175 0 0=true:=by kernel_rfl
theorem zfk:zaj Tryz.prog 163=true:=by kernel_rfl
theorem zaV:fldB Tryz.prog 175 1 1=true:=by kernel_rfl
theorem zcc:fldB Tryz.prog 175 3 3=true:=by kernel_rfl
theorem zaq:aggB Tryz.prog 175 4=true:=by kernel_rfl
theorem zjC:zaj Tryz.prog 132=true:=by kernel_rfl
theorem zmO:zaj Tryz.prog 162=true:=by kernel_rfl
theorem za0:intB Tryz.prog 71 .u64=true:=by kernel_rfl
theorem zbe:zbv Tryz.prog 175=some (.agg #[.int .i64 0,.int .i64 0,.int .i64 0,.int .i64 0]):=by kernel_rfl
theorem zjz:zaj Tryz.prog 161=true:=by kernel_rfl
theorem zfe:za6 Tryz.prog 175 [(0,1),(1,1),(2,1),(3,1)]=true:=by kernel_rfl
theorem zdd:fldB Tryz.prog 37 0 0=true:=by kernel_rfl
theorem zcb:fldB Tryz.prog 37 1 1=true:=by kernel_rfl
theorem zdH:zaj Tryz.prog 131=true:=by kernel_rfl
theorem zmY:zaj Tryz.prog 134=true:=by kernel_rfl
theorem zhN:zaj Tryz.prog 143=true:=by kernel_rfl
theorem zm4:zaj Tryz.prog 113=true:=by kernel_rfl
theorem zaU:fldB Tryz.prog 39 1 3=true:=by kernel_rfl
theorem zbj:zb9 Tryz.prog 35=true:=by kernel_rfl
theorem zax:fldB Tryz.prog 39 0 0=true:=by kernel_rfl
theorem zbH:zaj Tryz.prog 54=true:=by kernel_rfl
theorem zgk:zaj Tryz.prog 47=true:=by kernel_rfl
theorem zdV:fldB Tryz.prog 94 1 1=true:=by kernel_rfl
theorem zab:aggB Tryz.prog 39 6=true:=by kernel_rfl
theorem zmT:zaj Tryz.prog 146=true:=by kernel_rfl
theorem zqt:zaj Tryz.prog 107=true:=by kernel_rfl
theorem zcQ:zaj Tryz.prog 147=true:=by kernel_rfl
theorem zg2:fldB Tryz.prog 39 2 4=true:=by kernel_rfl
theorem zbB:aggB Tryz.prog 37 2=true:=by kernel_rfl
theorem zqu:zaj Tryz.prog 106=true:=by kernel_rfl
theorem zhM:zaj Tryz.prog 150=true:=by kernel_rfl
theorem zgX:fldB Tryz.prog 94 0 0=true:=by kernel_rfl
theorem zb3:zb9 Tryz.prog 4=true:=by kernel_rfl
theorem zmR:zaj Tryz.prog 152=true:=by kernel_rfl
theorem zp0:zbv Tryz.prog 128=some (.agg #[.int .i64 0,.int .i64 0]):=by kernel_rfl
theorem zeS:ziN Tryz.prog 128 2 3 1=true:=by kernel_rfl
theorem zgl:zaj Tryz.prog 195=true:=by kernel_rfl
theorem zp5:zaj Tryz.prog 196=true:=by kernel_rfl
theorem zgp:zaj Tryz.prog 151=true:=by kernel_rfl
theorem zfl:zaj Tryz.prog 119=true:=by kernel_rfl
theorem zhJ:zaj Tryz.prog 188=true:=by kernel_rfl
theorem zfh:zaj Tryz.prog 186=true:=by kernel_rfl
theorem zgm:zaj Tryz.prog 187=true:=by kernel_rfl
theorem zju:zaj Tryz.prog 189=true:=by kernel_rfl
theorem zhI:zaj Tryz.prog 194=true:=by kernel_rfl
theorem zp6:zaj Tryz.prog 193=true:=by kernel_rfl
theorem zjv:zaj Tryz.prog 185=true:=by kernel_rfl
theorem zmH:zaj Tryz.prog 197=true:=by kernel_rfl
theorem zmJ:zaj Tryz.prog 184=true:=by kernel_rfl
theorem zai:fldB Tryz.prog 41 0 0=true:=by kernel_rfl
theorem zgj:zaj Tryz.prog 51=true:=by kernel_rfl
theorem zgi:zaj Tryz.prog 86=true:=by kernel_rfl
theorem zjw:zaj Tryz.prog 175=true:=by kernel_rfl
theorem zdq:zaj Tryz.prog 176=true:=by kernel_rfl
theorem zfi:zaj Tryz.prog 171=true:=by kernel_rfl
theorem zp8:zaj Tryz.prog 190=true:=by kernel_rfl
theorem zjx:zaj Tryz.prog 174=true:=by kernel_rfl
theorem zbA:aggB Tryz.prog 41 6=true:=by kernel_rfl
theorem zmN:zaj Tryz.prog 170=true:=by kernel_rfl
theorem zmM:zaj Tryz.prog 172=true:=by kernel_rfl
theorem zgr:zaj Tryz.prog 123=true:=by kernel_rfl
theorem za8:fldB Tryz.prog 43 1 3=true:=by kernel_rfl
theorem zaw:fldB Tryz.prog 43 0 0=true:=by kernel_rfl
theorem zhQ:zaj Tryz.prog 109=true:=by kernel_rfl
theorem zmX:zaj Tryz.prog 135=true:=by kernel_rfl
theorem zjB:zaj Tryz.prog 136=true:=by kernel_rfl
theorem zmW:zaj Tryz.prog 137=true:=by kernel_rfl
theorem zdF:zbv Tryz.prog 183=some (.agg #[.int .i64 0,.int .i64 0,.int .i64 0,.bool false]):=by kernel_rfl
theorem zaN:aggB Tryz.prog 43 4=true:=by kernel_rfl
theorem zmQ:zaj Tryz.prog 153=true:=by kernel_rfl
theorem ziD:zaj Tryz.prog 73=true:=by kernel_rfl
theorem zp2:za6 Tryz.prog 183 [(0,1),(1,1),(2,1),(3,1)]=true:=by kernel_rfl
theorem zco:aggB Tryz.prog 183 4=true:=by kernel_rfl
theorem zap:fldB Tryz.prog 45 1 6=true:=by kernel_rfl
theorem zqa:zaj Tryz.prog 182=true:=by kernel_rfl
theorem zp9:zaj Tryz.prog 183=true:=by kernel_rfl
theorem zan:aggB Tryz.prog 45 10=true:=by kernel_rfl
theorem zhL:zaj Tryz.prog 164=true:=by kernel_rfl
theorem zgo:zaj Tryz.prog 165=true:=by kernel_rfl
theorem za5:fldB Tryz.prog 45 0 0=true:=by kernel_rfl
theorem zqv:zny Tryz.prog 4=true:=by kernel_rfl
theorem zmL:zaj Tryz.prog 173=true:=by kernel_rfl
theorem zjy:zaj Tryz.prog 167=true:=by kernel_rfl
theorem zdr:zaj Tryz.prog 166=true:=by kernel_rfl
theorem zgn:zaj Tryz.prog 168=true:=by kernel_rfl
theorem zfj:zaj Tryz.prog 169=true:=by kernel_rfl
theorem zdI:zaj Tryz.prog 125=true:=by kernel_rfl
theorem zbt:fldB Tryz.prog 183 0 0=true:=by kernel_rfl
theorem za2:fldB Tryz.prog 183 2 2=true:=by kernel_rfl
theorem zhO:zaj Tryz.prog 139=true:=by kernel_rfl
theorem zmV:zaj Tryz.prog 138=true:=by kernel_rfl
theorem zbs:fldB Tryz.prog 183 1 1=true:=by kernel_rfl
theorem zmP:zaj Tryz.prog 154=true:=by kernel_rfl
theorem zak:fldB Tryz.prog 47 0 0=true:=by kernel_rfl
theorem zql:zaj Tryz.prog 140=true:=by kernel_rfl
theorem zmU:zaj Tryz.prog 141=true:=by kernel_rfl
theorem za3:aggB Tryz.prog 47 10=true:=by kernel_rfl
theorem zjA:zaj Tryz.prog 142=true:=by kernel_rfl
theorem zeU:zom Tryz.prog 183 2 2 3=true:=by kernel_rfl
theorem zqj:zaj Tryz.prog 155=true:=by kernel_rfl
theorem zmI:zaj Tryz.prog 192=true:=by kernel_rfl
theorem zjD:zaj Tryz.prog 126=true:=by kernel_rfl
theorem zm6:zaj Tryz.prog 111=true:=by kernel_rfl
theorem zp7:zaj Tryz.prog 191=true:=by kernel_rfl
theorem zhK:zaj Tryz.prog 178=true:=by kernel_rfl
theorem zkW:fldB Tryz.prog 94 3 3=true:=by kernel_rfl
theorem zqd:zaj Tryz.prog 179=true:=by kernel_rfl
theorem zkX:fldB Tryz.prog 94 2 2=true:=by kernel_rfl
theorem zqc:zaj Tryz.prog 180=true:=by kernel_rfl
theorem zm8:zaj Tryz.prog 100=true:=by kernel_rfl
theorem zqb:zaj Tryz.prog 181=true:=by kernel_rfl
theorem zmK:zaj Tryz.prog 177=true:=by kernel_rfl
theorem ziB:zbv Tryz.prog 49=some (.agg #[.int .i64 0,.int .i64 0,.int .i64 0,.nilIface,.int .i64 0,.int .i64 0,.int .i64 0,.int .i64 0,.int .i64 0,.nilIface]):=by kernel_rfl
theorem zmt:za6 Tryz.prog 39 [(0,3),(3,1),(4,2)]=true:=by kernel_rfl
theorem ziC:zbv Tryz.prog 39=some (.agg #[.int .i64 0,.int .i64 0,.int .i64 0,.nilIface,.int .i64 0,.int .i64 0]):=by kernel_rfl
theorem zrj:za6 Tryz.prog 41 [(0,6)]=true:=by kernel_rfl
theorem zoY:zbv Tryz.prog 41=some (.agg #[.int .i64 0,.int .i64 0,.int .i64 0,.nilIface,.int .i64 0,.int .i64 0]):=by kernel_rfl
theorem zri:za6 Tryz.prog 43 [(0,3),(3,1)]=true:=by kernel_rfl
theorem zra:zbv Tryz.prog 43=some (.agg #[.int .i64 0,.int .i64 0,.int .i64 0,.nilIface]):=by kernel_rfl
theorem zrh:za6 Tryz.prog 45 [(0,6),(6,4)]=true:=by kernel_rfl
theorem zq9:zbv Tryz.prog 45=some (.agg #[.int .i64 0,.int .i64 0,.int .i64 0,.nilIface,.int .i64 0,.int .i64 0,.int .i64 0,.int .i64 0,.int .i64 0,.nilIface]):=by kernel_rfl
theorem zrg:za6 Tryz.prog 47 [(0,10)]=true:=by kernel_rfl
theorem zq8:zbv Tryz.prog 47=some (.agg #[.int .i64 0,.int .i64 0,.int .i64 0,.nilIface,.int .i64 0,.int .i64 0,.int .i64 0,.int .i64 0,.int .i64 0,.nilIface]):=by kernel_rfl
theorem zrf:za6 Tryz.prog 49 [(0,10)]=true:=by kernel_rfl
theorem zaL:aggB Tryz.prog 49 10=true:=by kernel_rfl
theorem zaE:fldB Tryz.prog 49 0 0=true:=by kernel_rfl
theorem zrv:zaj Tryz.prog 42=true:=by kernel_rfl
theorem zqs:zaj Tryz.prog 110=true:=by kernel_rfl
theorem zm5:zaj Tryz.prog 112=true:=by kernel_rfl
theorem zqi:zaj Tryz.prog 156=true:=by kernel_rfl
theorem zqh:zaj Tryz.prog 157=true:=by kernel_rfl
theorem zqg:zaj Tryz.prog 158=true:=by kernel_rfl
theorem zjt:fldB Tryz.prog 183 3 3=true:=by kernel_rfl
theorem zm0:zaj Tryz.prog 127=true:=by kernel_rfl
theorem zqo:zaj Tryz.prog 128=true:=by kernel_rfl
theorem zqn:zaj Tryz.prog 129=true:=by kernel_rfl
theorem zcd:fldB Tryz.prog 140 0 0=true:=by kernel_rfl
theorem zfv:zb9 Tryz.prog 24=true:=by kernel_rfl
theorem zaG:zck Tryz.prog 24 71 1=true:=by kernel_rfl
theorem zcP:fldB Tryz.prog 140 1 1=true:=by kernel_rfl
theorem zg1:fldB Tryz.prog 62 0 0=true:=by kernel_rfl
theorem zke:zaj Tryz.prog 89=true:=by kernel_rfl
theorem zhH:ptrB Tryz.prog 143=true:=by kernel_rfl
theorem zkb:zb9 Tryz.prog 71=true:=by kernel_rfl
theorem zg0:fldB Tryz.prog 62 1 1=true:=by kernel_rfl
theorem zgY:fldB Tryz.prog 88 0 0=true:=by kernel_rfl
theorem zgW:zb9 Tryz.prog 33=true:=by kernel_rfl
theorem zmG:zaj Tryz.prog 31=true:=by kernel_rfl
theorem zo3:zaj Tryz.prog 55=true:=by kernel_rfl
theorem zgc:appB Tryz.prog 24 71 1=true:=by kernel_rfl
theorem zq7:zbv Tryz.prog 71=some (.int .u64 0):=by kernel_rfl
theorem zmu:za6 Tryz.prog 140 [(0,1),(1,5)]=true:=by kernel_rfl
theorem zmq:zbv Tryz.prog 140=some (.agg #[.slice none 0 0,.int .i64 0,.int .i64 0,.int .i64 0,.int .i64 0,.int .i64 0]):=by kernel_rfl
theorem zmo:zbv Tryz.prog 88=some (.agg #[.pointer none]):=by kernel_rfl
theorem zrd:za6 Tryz.prog 88 [(0,1)]=true:=by kernel_rfl
theorem zds:aggB Tryz.prog 88 1=true:=by kernel_rfl
theorem zqf:zaj Tryz.prog 159=true:=by kernel_rfl
theorem zqe:zaj Tryz.prog 160=true:=by kernel_rfl
theorem zqr:zaj Tryz.prog 115=true:=by kernel_rfl
theorem zm3:zaj Tryz.prog 114=true:=by kernel_rfl
theorem zmZ:zaj Tryz.prog 133=true:=by kernel_rfl
theorem zmz:zaj Tryz.prog 53=true:=by kernel_rfl
theorem zm7:zaj Tryz.prog 104=true:=by kernel_rfl
theorem zqm:zaj Tryz.prog 130=true:=by kernel_rfl
theorem zp1:za6 Tryz.prog 189 [(0,3),(3,1),(4,4),(8,1),(9,1),(10,1)]=true:=by kernel_rfl
theorem zpY:zbv Tryz.prog 189=some (.agg #[.int .i64 0,.int .i64 0,.int .i64 0,.int .i64 0,.int .i64 0,.int .i64 0,.int .i64 0,.int .i64 0,.bool false,.bool false,.int .i64 0]):=by kernel_rfl
theorem zcV:fldB Tryz.prog 189 5 10=true:=by kernel_rfl
theorem zbf:fldB Tryz.prog 189 4 9=true:=by kernel_rfl
theorem zgd:fldB Tryz.prog 189 3 8=true:=by kernel_rfl
theorem zjs:fldB Tryz.prog 189 0 0=true:=by kernel_rfl
theorem zek:fldB Tryz.prog 189 2 4=true:=by kernel_rfl
theorem zjr:fldB Tryz.prog 189 1 3=true:=by kernel_rfl
theorem zm1:zaj Tryz.prog 121=true:=by kernel_rfl
theorem zo2:zaj Tryz.prog 75=true:=by kernel_rfl
theorem zbL:zfB Tryz.prog 88 "Store" 215=true:=by kernel_rfl
theorem zrq:zaj Tryz.prog 91=true:=by kernel_rfl
theorem zo8:zaj Tryz.prog 30=true:=by kernel_rfl
theorem zrp:zaj Tryz.prog 92=true:=by kernel_rfl
theorem zg5:zaj Tryz.prog 38=true:=by kernel_rfl
theorem zeT:zhq Tryz.prog 88=true:=by kernel_rfl
theorem zro:zaj Tryz.prog 93=true:=by kernel_rfl
theorem zo0:za6 Tryz.prog 37 [(0,1),(1,1)]=true:=by kernel_rfl
theorem zmp:zbv Tryz.prog 37=some (.agg #[.int .i64 0,.int .i64 0]):=by kernel_rfl
theorem zkd:zaj Tryz.prog 94=true:=by kernel_rfl
theorem zkc:zaj Tryz.prog 97=true:=by kernel_rfl
theorem zp3:za6 Tryz.prog 157 [(0,3),(3,1),(4,1),(5,1),(6,1),(7,1),(8,1)]=true:=by kernel_rfl
theorem zpZ:zbv Tryz.prog 157=some (.agg #[.int .i64 0,.int .i64 0,.int .i64 0,.int .i64 0,.pointer none,.bool false,.bool false,.int .i64 0,.int .i64 0]):=by kernel_rfl
theorem zbu:fldB Tryz.prog 157 4 6=true:=by kernel_rfl
theorem zge:fldB Tryz.prog 157 5 7=true:=by kernel_rfl
theorem zel:fldB Tryz.prog 157 6 8=true:=by kernel_rfl
theorem zdp:fldB Tryz.prog 157 1 3=true:=by kernel_rfl
theorem zcO:fldB Tryz.prog 157 2 4=true:=by kernel_rfl
theorem zgb:zb9 Tryz.prog 154=true:=by kernel_rfl
theorem zrn:zaj Tryz.prog 98=true:=by kernel_rfl
theorem zrm:zaj Tryz.prog 99=true:=by kernel_rfl
theorem zem:fldB Tryz.prog 157 3 5=true:=by kernel_rfl
theorem zbM:fldB Tryz.prog 157 0 0=true:=by kernel_rfl
theorem zff:zck Tryz.prog 59 3 1=true:=by kernel_rfl
theorem zkU:appB Tryz.prog 59 3 1=true:=by kernel_rfl
theorem zoq:aggB Tryz.prog 62 5=true:=by kernel_rfl
theorem zrs:zaj Tryz.prog 87=true:=by kernel_rfl
theorem fc_z3:zbv Tryz.prog 3=some (.int .i64 0):=by kernel_rfl
theorem zbP:fldB Tryz.prog 84 0 0=true:=by kernel_rfl
theorem zkV:appB Tryz.prog 54 4 1=true:=by kernel_rfl
theorem zrb:zbv Tryz.prog 4=some (.bool false):=by kernel_rfl
theorem zqp:zaj Tryz.prog 124=true:=by kernel_rfl
theorem zfg:zck Tryz.prog 54 4 1=true:=by kernel_rfl
theorem zdW:fldB Tryz.prog 84 1 3=true:=by kernel_rfl
theorem zmF:zaj Tryz.prog 37=true:=by kernel_rfl
theorem zaZ:zck Tryz.prog 75 150 3=true:=by kernel_rfl
theorem zdf:aggB Tryz.prog 150 3=true:=by kernel_rfl
theorem zjp:zbv Tryz.prog 150=some (.agg #[.int .i64 0,.int .i64 0,.int .i64 0]):=by kernel_rfl
theorem zaI:fldB Tryz.prog 150 1 1=true:=by kernel_rfl
theorem zaH:fldB Tryz.prog 150 2 2=true:=by kernel_rfl
theorem zbg:fldB Tryz.prog 150 0 0=true:=by kernel_rfl
theorem zg3:zaj Tryz.prog 96=true:=by kernel_rfl
theorem zmx:zaj Tryz.prog 95=true:=by kernel_rfl
theorem zmy:zaj Tryz.prog 74=true:=by kernel_rfl
theorem zgh:fldB Tryz.prog 123 0 0=true:=by kernel_rfl
theorem zgg:fldB Tryz.prog 123 1 1=true:=by kernel_rfl
theorem zgf:fldB Tryz.prog 123 2 2=true:=by kernel_rfl
theorem zmr:zbv Tryz.prog 123=some (.agg #[.int .i64 0,.int .i64 0,.int .i64 0]):=by kernel_rfl
theorem zp4:za6 Tryz.prog 123 [(0,1),(1,1),(2,1)]=true:=by kernel_rfl
theorem ziE:aggB Tryz.prog 123 3=true:=by kernel_rfl
theorem zav:fldB Tryz.prog 77 0 0=true:=by kernel_rfl
theorem zrr:zaj Tryz.prog 90=true:=by kernel_rfl
theorem zru:zaj Tryz.prog 72=true:=by kernel_rfl
theorem zgZ:fldB Tryz.prog 77 1 3=true:=by kernel_rfl
theorem zdX:fldB Tryz.prog 77 2 4=true:=by kernel_rfl
theorem zka:zb9 Tryz.prog 75=true:=by kernel_rfl
theorem zo6:zaj Tryz.prog 35=true:=by kernel_rfl
theorem zmw:ptrB Tryz.prog 33=true:=by kernel_rfl
theorem zre:za6 Tryz.prog 84 [(0,3),(3,1)]=true:=by kernel_rfl
theorem zq6:zbv Tryz.prog 84=some (.agg #[.int .i64 0,.int .i64 0,.int .i64 0,.pointer none]):=by kernel_rfl
theorem zo5:zaj Tryz.prog 36=true:=by kernel_rfl
theorem zo4:zaj Tryz.prog 49=true:=by kernel_rfl
theorem zrt:zaj Tryz.prog 76=true:=by kernel_rfl
theorem zkY:fldB Tryz.prog 77 3 5=true:=by kernel_rfl
theorem zrk:za6 Tryz.prog 23 [(0,1),(1,1),(2,1)]=true:=by kernel_rfl
theorem zoZ:zbv Tryz.prog 23=some (.agg #[.int .i64 0,.int .i64 0,.int .i64 0]):=by kernel_rfl
theorem zmE:zaj Tryz.prog 39=true:=by kernel_rfl
theorem zmv:ptrB Tryz.prog 90=true:=by kernel_rfl
theorem zg4:zaj Tryz.prog 40=true:=by kernel_rfl
theorem zmD:zaj Tryz.prog 41=true:=by kernel_rfl
theorem zmB:zaj Tryz.prog 50=true:=by kernel_rfl
theorem zmA:zaj Tryz.prog 52=true:=by kernel_rfl
theorem zmC:zaj Tryz.prog 46=true:=by kernel_rfl
theorem zhR:aggB Tryz.prog 77 6=true:=by kernel_rfl
theorem zo7:zaj Tryz.prog 32=true:=by kernel_rfl
theorem zkg:zaj Tryz.prog 33=true:=by kernel_rfl
theorem zrw:zaj Tryz.prog 34=true:=by kernel_rfl
theorem zrl:ptrB Tryz.prog 79=true:=by kernel_rfl
theorem zrx:zaj Tryz.prog 29=true:=by kernel_rfl
theorem zdt:zkM Tryz.prog 100 3 4=true:=by kernel_rfl
theorem zaX {n m:Int}:FnD Tryz.prog 102 [.int .i64 n,.int .i64 m] [] (.bool (decide (0≤n∧n<m))) []:=by
 refine Fn.enter (Tryz.func102) rfl rfl (fun w0 R=>?_)
 refine sA (xaf rfl (dA (xmi rfl (TL.geq rfl rfl rfl rfl (fun q1=>?_) (fun q1=>?_)))))
 refine xmt rfl (xmi rfl (xmi rfl (TL.lssV rfl rfl rfl rfl (TL.pickT (.bool _) rfl rfl rfl rfl (xab rfl (dR ?_))))))
 refine FQ.ret1 (v:=(.bool _)) (Bs:=[]) [] rfl rfl rfl trivial ?_
 first | exact ⟨bT (by omega),rfl⟩ | exact ⟨bF (by omega),rfl⟩ | exact ⟨congrArg Value.bool (decide_eq_decide.2 (by omega)),rfl⟩
 refine xmf rfl (xo rfl (xo rfl (xo rfl (xpF rfl (xaf rfl (dR ?_))))))
 refine FQ.ret1 (v:=(.bool false)) (Bs:=[]) [] rfl rfl rfl trivial ?_
 first | exact ⟨bT (by omega),rfl⟩ | exact ⟨bF (by omega),rfl⟩ | exact ⟨congrArg Value.bool (decide_eq_decide.2 (by omega)),rfl⟩
theorem zoh {x:Int} (h0:0≤x) (h1:x≤16):FnD Tryz.prog 145 [.int .u64 x] [] (.int .i64 (levI x)) []:=by
 have hl:=zpR h0 h1
 refine Fn.enter (Tryz.func145) rfl rfl (fun w0 R=>?_)
 refine sA (xai rfl (dB (xmi rfl (TL.geqF rfl rfl (by omega) rfl rfl (TL.done (TQ.then (TC.condF rfl (TC.skip ?_))))))))
 refine TQ.then (sB (xmi rfl (TL.geqF rfl rfl (by omega) rfl rfl (TL.done (TQ.then (TC.condF rfl (TC.skip (TQ.then ?_))))))))
 refine sB (xmi rfl (TL.geqF rfl rfl (by omega) rfl rfl (dF rfl (xmi rfl (xmi rfl (TL.conv _ rfl zdG zop (wru8 (by omega)) rfl rfl (TL.ixS (levI x) rfl rfl zrc (by omega) (zq1 h0 h1 (by kernel_rfl)) rfl rfl (TL.conv _ rfl fc_u5 za1 (wr64 (by omega)) rfl rfl ?_))))))))
 refine TL.add _ rfl rfl (wr64 (by omega)) rfl rfl (xai rfl (dR ?_))
 refine FQ.ret1 (v:=(.int _ _)) (Bs:=[]) [] rfl rfl rfl trivial ?_
 exact ⟨iE (by omega),rfl⟩
theorem zqZ {x:Int} (h0:0≤x) (h1:x≤16):FnD Tryz.prog 116 [.int .u64 x] [] (.int .i64 (levI x)) []:=by
 refine Fn.enter (Tryz.func116) rfl rfl (fun w0 R=>?_)
 refine sA (xai rfl (dS (TC.condF rfl (TC.skip (TQ.then (sA (xmi rfl (TL.callD [] [] (zoh (by omega) (by omega)) ⟨rfl,trivial⟩ trivial zqk rfl rfl rfl rfl rfl trivial ?_))))))))
 refine xai rfl (dR ?_)
 refine FQ.ret1 (v:=(.int _ _)) (Bs:=[]) [] rfl rfl rfl trivial ?_
 exact ⟨rfl,rfl⟩
theorem zbG {l:Lay} (hl:l.Ok)  : FnD Tryz.prog 77 [layV l] [] (.int .i64 l.lev) []:=by
 have hb:=zej hl
 refine Fn.enter (Tryz.func77) rfl rfl (fun w0 R=>?_)
 refine sA (xB 0 rfl (fun bk0=>(xai rfl (dA (xf 0 zas rfl (xli 0 zaf rfl rfl (TL.conv _ rfl zeR zjq (zqJ (by omega)) rfl rfl (TL.callD [] [] (zqZ (by omega) (by omega)) ⟨rfl,trivial⟩ trivial zqq rfl rfl rfl rfl rfl trivial (xai rfl ?_)))))))))
 refine dR ?_
 refine FQ.ret1 (v:=(.int _ _)) (Bs:=[]) [] rfl rfl rfl trivial ?_
 exact ⟨rfl,rfl⟩
theorem zh4 {l:Lay} (hl:l.Ok)  : FnD Tryz.prog 78 [layV l] [] (.int .i64 l.arcs) []:=by
 have hb:=za4 hl
 refine Fn.enter (Tryz.func78) rfl rfl (fun w0 R=>?_)
 refine sA (xB 0 rfl (fun bk0=>(xai rfl (dA (xL3 0 zaa rfl rfl (TL.callD [] [] (zbG hl) ⟨rfl,trivial⟩ trivial zd9 rfl rfl rfl rfl rfl trivial (TL.mul _ rfl rfl (wr64 (by omega)) rfl rfl (xai rfl (dR ?_)))))))))
 refine FQ.ret1 (v:=(.int _ _)) (Bs:=[]) [] rfl rfl rfl trivial ?_
 exact ⟨rfl,rfl⟩
theorem zch {l:Lay} (hl:l.Ok)  : FnD Tryz.prog 17 [layV l] [] (.int .i64 l.nodes) []:=by
 have hb:=za4 hl
 refine Fn.enter (Tryz.func17) rfl rfl (fun w0 R=>?_)
 refine sA (xB 0 rfl (fun bk0=>(xai rfl (dS (TC.draw [(0,true),(2,true),(3,true),(5,true),(6,true),(7,true),(1,false),(4,true),(8,false),(9,true),(10,true),(11,true)] [0] fc_m (by kernel_rfl) (xL3 0 zaa rfl rfl (xf 0 zas rfl (xli 0 zaf rfl rfl (xf 1 za9 rfl ?_)))))))))
 refine xli 0 zaf rfl rfl (xL3 0 zaa rfl rfl (TL.callD [] [] (zbG hl) ⟨rfl,trivial⟩ trivial zd9 rfl rfl rfl rfl rfl (kL1 rfl trivial) (TL.mul _ rfl rfl (wr64 (by omega)) rfl rfl (TL.callD [] [] (zh4 hl) ⟨rfl,trivial⟩ trivial zkf rfl rfl rfl rfl rfl (kL1 rfl trivial) (TL.mul _ rfl rfl (wr64 (by omega)) rfl rfl (TL.add _ rfl rfl (wr64 (by omega)) rfl rfl (xai rfl (dR ?_))))))))
 refine FQ.ret1 (v:=(.int _ _)) (Bs:=[]) [] rfl rfl rfl trivial ?_
 exact ⟨rfl,rfl⟩
theorem zcC {l:Lay} (hl:l.Ok) {i v:Int}:FnD Tryz.prog 51 [layV l,.int .i64 i,.int .i64 v] [] (.int .i64 (l.vertex i v)) []:=by
 have hb:=za4 hl
 refine Fn.enter (Tryz.func51) rfl rfl (fun w0 R=>?_)
 refine sA (xB 0 rfl (fun bk0=>(xai rfl (dB (xmi rfl (xL3 0 zaa rfl rfl (TL.callD [] [] (zbG hl) ⟨rfl,trivial⟩ trivial zd9 rfl rfl rfl rfl rfl trivial (TL.callD [] [] zaX ⟨rfl,rfl,trivial⟩ trivial zbh rfl rfl rfl rfl rfl trivial (TL.casesP rfl (fun q1=>?_) (fun q1=>?_))))))))))
 refine xnt rfl (xmf rfl (xmi rfl (xf 0 zas rfl (xli 0 zaf rfl rfl (TL.callD [] [] zaX ⟨rfl,rfl,trivial⟩ trivial zbh rfl rfl rfl rfl rfl trivial (TL.casesP rfl (fun q2=>?_) (fun q2=>?_)))))))
 refine xnt rfl (xpF rfl (dF rfl (xmi rfl (xf 0 zas rfl (xli 0 zaf rfl rfl (TL.mul _ rfl rfl (wr64 (by have:=zcK (a:=i) (A:=5) (b:=(l.V:Int)) (B:=16) (by omega) (by omega) (by omega) (by omega); omega)) rfl rfl (TL.add _ rfl rfl (wr64 (by have:=zcK (a:=i) (A:=5) (b:=(l.V:Int)) (B:=16) (by omega) (by omega) (by omega) (by omega); omega)) rfl rfl (xmi rfl ?_))))))))
 refine TL.add _ rfl rfl (wr64 (by have:=zcK (a:=i) (A:=5) (b:=(l.V:Int)) (B:=16) (by omega) (by omega) (by omega) (by omega); omega)) rfl rfl (xai rfl (dR ?_))
 refine FQ.ret1 (v:=(.int _ _)) (Bs:=[]) [] rfl rfl rfl trivial ?_
 first | exact ⟨iE (by unfold Lay.vertex; rw [if_pos (by omega)]),rfl⟩ | exact ⟨iE (by unfold Lay.vertex; rw [if_neg (by omega)]),rfl⟩
 refine xnf rfl (xpH rfl (dT rfl (xai rfl (dRR ?_))))
 refine FQ.ret1 (v:=(.int _ _)) (Bs:=[]) [] rfl rfl rfl trivial ?_
 first | exact ⟨iE (by unfold Lay.vertex; rw [if_pos (by omega)]),rfl⟩ | exact ⟨iE (by unfold Lay.vertex; rw [if_neg (by omega)]),rfl⟩
 refine xnf rfl (xmt rfl (xo rfl (xo rfl (xo rfl (xo rfl (xo rfl (xpT rfl (dT rfl ?_))))))))
 refine xai rfl (dRR ?_)
 refine FQ.ret1 (v:=(.int _ _)) (Bs:=[]) [] rfl rfl rfl trivial ?_
 first | exact ⟨iE (by unfold Lay.vertex; rw [if_pos (by omega)]),rfl⟩ | exact ⟨iE (by unfold Lay.vertex; rw [if_neg (by omega)]),rfl⟩
theorem znC {l:Lay} (hl:l.Ok) {s i d:Int}:FnD Tryz.prog 174 [layV l,.int .i64 s,.int .i64 i,.int .i64 d] [] (.int .i64 (l.arc s i d)) []:=by
 have hb:=za4 hl
 refine Fn.enter (Tryz.func174) rfl rfl (fun w0 R=>?_)
 refine sA (xB 0 rfl (fun bk0=>(xai rfl (dB (xmi rfl (xf 1 za9 rfl (xli 0 zaf rfl rfl (TL.callD [] [] zaX ⟨rfl,rfl,trivial⟩ trivial zbh rfl rfl rfl rfl rfl trivial (TL.casesP rfl (fun q1=>?_) (fun q1=>?_))))))))))
 refine xnt rfl (xmf rfl (xmi rfl (xL3 0 zaa rfl rfl (TL.callD [] [] (zbG hl) ⟨rfl,trivial⟩ trivial zd9 rfl rfl rfl rfl rfl trivial (TL.callD [] [] zaX ⟨rfl,rfl,trivial⟩ trivial zbh rfl rfl rfl rfl rfl trivial (TL.casesP rfl (fun q2=>?_) (fun q2=>?_)))))))
 refine xnt rfl (xpF rfl (xmf rfl (xmi rfl (TL.callD [] [] zaX ⟨rfl,rfl,trivial⟩ trivial zbh rfl rfl rfl rfl rfl trivial (TL.casesP rfl (fun q3=>?_) (fun q3=>?_))))))
 refine xnt rfl (xpF rfl (TL.done (TQ.then (TC.condF rfl (TC.skip (TQ.then (TC.seq (TC.draw [(0,true),(2,true),(3,true),(6,true),(7,true),(11,true),(12,true),(14,true),(1,false),(4,true),(5,true),(8,false),(9,true),(10,true),(13,true),(15,true),(16,true)] [0] fc_m (by kernel_rfl) ?_))))))))
 refine xL3 0 zaa rfl rfl (xf 0 zas rfl (xli 0 zaf rfl rfl (xmi rfl (xL3 0 zaa rfl rfl (xmi rfl (TL.mul _ rfl rfl (wr64 (by omega)) rfl rfl (xmi rfl (TL.callD [] [] (zbG hl) ⟨rfl,trivial⟩ trivial zd9 rfl rfl rfl rfl rfl (kL1 rfl trivial) ?_))))))))
 refine TL.mul _ rfl rfl (wr64 (by omega)) rfl rfl (TL.add _ rfl rfl (wr64 (by omega)) rfl rfl (TL.callD [] [] (zh4 hl) ⟨rfl,trivial⟩ trivial zkf rfl rfl rfl rfl rfl (kL1 rfl trivial) (TL.mul _ rfl rfl (wr64 (by have:=zcK (a:=s) (A:=48) (b:=l.arcs) (B:=10) (by omega) (by omega) (by omega) (by omega); omega)) rfl rfl (TL.add _ rfl rfl (wr64 (by have:=zcK (a:=s) (A:=48) (b:=l.arcs) (B:=10) (by omega) (by omega) (by omega) (by omega); omega)) rfl rfl (TL.add _ rfl rfl (wr64 (by have:=zcK (a:=s) (A:=48) (b:=l.arcs) (B:=10) (by omega) (by omega) (by omega) (by omega); omega)) rfl rfl ?_)))))
 refine TL.add _ rfl rfl (wr64 (by have:=zcK (a:=s) (A:=48) (b:=l.arcs) (B:=10) (by omega) (by omega) (by omega) (by omega); omega)) rfl rfl (xai rfl (dR ?_))
 refine FQ.ret1 (v:=(.int _ _)) (Bs:=[]) [] rfl rfl rfl trivial ?_
 first | exact ⟨iE (by unfold Lay.arc; rw [if_pos (by omega)]),rfl⟩ | exact ⟨iE (by unfold Lay.arc; rw [if_neg (by omega)]),rfl⟩
 refine xnf rfl (xpH rfl (dT rfl (xai rfl (dRR ?_))))
 refine FQ.ret1 (v:=(.int _ _)) (Bs:=[]) [] rfl rfl rfl trivial ?_
 first | exact ⟨iE (by unfold Lay.arc; rw [if_pos (by omega)]),rfl⟩ | exact ⟨iE (by unfold Lay.arc; rw [if_neg (by omega)]),rfl⟩
 refine xnf rfl (xpH rfl (xmt rfl (xo rfl (xo rfl (xo rfl (xpT rfl (dT rfl (xai rfl ?_))))))))
 refine dRR ?_
 refine FQ.ret1 (v:=(.int _ _)) (Bs:=[]) [] rfl rfl rfl trivial ?_
 first | exact ⟨iE (by unfold Lay.arc; rw [if_pos (by omega)]),rfl⟩ | exact ⟨iE (by unfold Lay.arc; rw [if_neg (by omega)]),rfl⟩
 refine xnf rfl (xmt rfl (xo rfl (xo rfl (xo rfl (xo rfl (xo rfl (xpT rfl (xmt rfl ?_))))))))
 refine xo rfl (xo rfl (xo rfl (xpT rfl (dT rfl (xai rfl (dRR ?_))))))
 refine FQ.ret1 (v:=(.int _ _)) (Bs:=[]) [] rfl rfl rfl trivial ?_
 first | exact ⟨iE (by unfold Lay.arc; rw [if_pos (by omega)]),rfl⟩ | exact ⟨iE (by unfold Lay.arc; rw [if_neg (by omega)]),rfl⟩
theorem zhE {l:Lay} (hl:l.Ok)  : FnD Tryz.prog 122 [layV l] [] (.int .i64 l.free) []:=by
 have hb:=za4 hl
 refine Fn.enter (Tryz.func122) rfl rfl (fun w0 R=>?_)
 refine sA (xB 0 rfl (fun bk0=>(xai rfl (dA (xf 2 zde rfl (xli 0 zaf rfl rfl (xai rfl (dR ?_))))))))
 refine FQ.ret1 (v:=(.int _ _)) (Bs:=[]) [] rfl rfl rfl trivial ?_
 exact ⟨rfl,rfl⟩
theorem zlT {l:Lay} (hl:l.Ok) {s f:Int} (hf:0≤f∧f≤8):FnD Tryz.prog 149 [layV l,.int .i64 s,.int .i64 f] [] (.int .i64 (l.of s f)) []:=by
 have hb:=za4 hl
 refine Fn.enter (Tryz.func149) rfl rfl (fun w0 R=>?_)
 refine sA (xB 0 rfl (fun bk0=>(xai rfl (dB (xmi rfl (xf 1 za9 rfl (xli 0 zaf rfl rfl (TL.callD [] [] zaX ⟨rfl,rfl,trivial⟩ trivial zbh rfl rfl rfl rfl rfl trivial (TL.casesP rfl (fun q1=>?_) (fun q1=>?_))))))))))
 refine xnt rfl (dF rfl (xL3 0 zaa rfl rfl (TL.callD [] [] (zhE hl) ⟨rfl,trivial⟩ trivial zhP rfl rfl rfl rfl rfl trivial (TL.add _ rfl rfl (wr64 (by omega)) rfl rfl (xmi rfl (TL.mul _ rfl rfl (wr64 (by omega)) rfl rfl (TL.add _ rfl rfl (wr64 (by omega)) rfl rfl (xmi rfl ?_))))))))
 refine TL.add _ rfl rfl (wr64 (by omega)) rfl rfl (xai rfl (dR ?_))
 refine FQ.ret1 (v:=(.int _ _)) (Bs:=[]) [] rfl rfl rfl trivial ?_
 first | exact ⟨iE (by unfold Lay.of Lay.free at *; rw [if_pos (by omega)]),rfl⟩ | exact ⟨iE (by unfold Lay.of Lay.free at *; rw [if_neg (by omega)]),rfl⟩
 refine xnf rfl (dT rfl (xai rfl (dRR ?_)))
 refine FQ.ret1 (v:=(.int _ _)) (Bs:=[]) [] rfl rfl rfl trivial ?_
 first | exact ⟨iE (by unfold Lay.of Lay.free at *; rw [if_pos (by omega)]),rfl⟩ | exact ⟨iE (by unfold Lay.of Lay.free at *; rw [if_neg (by omega)]),rfl⟩
theorem znb {l:Lay} (hl:l.Ok) {s:Int}:FnD Tryz.prog 135 [layV l,.int .i64 s] [] (.int .i64 (l.ends s)) []:=by
 have hb:=za4 hl
 refine Fn.enter (Tryz.func135) rfl rfl (fun w0 R=>?_)
 refine sA (xB 0 rfl (fun bk0=>(xai rfl (dA (xL3 0 zaa rfl rfl (xmi rfl (TL.callD [] [] (zlT hl (by omega)) ⟨rfl,rfl,rfl,trivial⟩ trivial zgq rfl rfl rfl rfl rfl trivial (xai rfl (dR ?_)))))))))
 refine FQ.ret1 (v:=(.int _ _)) (Bs:=[]) [] rfl rfl rfl trivial ?_
 exact ⟨rfl,rfl⟩
theorem zhx {l:Lay} (hl:l.Ok) {s:Int}:FnD Tryz.prog 136 [layV l,.int .i64 s] [] (.int .i64 (l.level s)) []:=by
 have hb:=za4 hl
 refine Fn.enter (Tryz.func136) rfl rfl (fun w0 R=>?_)
 refine sA (xB 0 rfl (fun bk0=>(xai rfl (dA (xL3 0 zaa rfl rfl (xmi rfl (TL.callD [] [] (zlT hl (by omega)) ⟨rfl,rfl,rfl,trivial⟩ trivial zgq rfl rfl rfl rfl rfl trivial (xai rfl (dR ?_)))))))))
 refine FQ.ret1 (v:=(.int _ _)) (Bs:=[]) [] rfl rfl rfl trivial ?_
 exact ⟨rfl,rfl⟩
theorem zpN {l:Lay} (hl:l.Ok) {s d:Int}:FnD Tryz.prog 182 [layV l,.int .i64 s,.int .i64 d] [] (.int .i64 (l.next s d)) []:=by
 have hb:=za4 hl
 refine Fn.enter (Tryz.func182) rfl rfl (fun w0 R=>?_)
 refine sA (xB 0 rfl (fun bk0=>(xai rfl (dB (xmi rfl (TL.callD [] [] zaX ⟨rfl,rfl,trivial⟩ trivial zbh rfl rfl rfl rfl rfl trivial (TL.casesP rfl (fun q1=>?_) (fun q1=>?_))))))))
 refine xnt rfl (dF rfl (xL3 0 zaa rfl rfl (xmi rfl (xmi rfl (TL.add _ rfl rfl (wr64 (by omega)) rfl rfl (TL.callD [] [] (zlT hl (by omega)) ⟨rfl,rfl,rfl,trivial⟩ trivial zgq rfl rfl rfl rfl rfl trivial (xai rfl (dR ?_))))))))
 refine FQ.ret1 (v:=(.int _ _)) (Bs:=[]) [] rfl rfl rfl trivial ?_
 first | exact ⟨iE (by unfold Lay.next; rw [if_pos (by omega)]),rfl⟩ | exact ⟨iE (by unfold Lay.next; rw [if_neg (by omega)]),rfl⟩
 refine xnf rfl (dT rfl (xai rfl (dRR ?_)))
 refine FQ.ret1 (v:=(.int _ _)) (Bs:=[]) [] rfl rfl rfl trivial ?_
 first | exact ⟨iE (by unfold Lay.next; rw [if_pos (by omega)]),rfl⟩ | exact ⟨iE (by unfold Lay.next; rw [if_neg (by omega)]),rfl⟩
theorem zpA {l:Lay} (hl:l.Ok) {s d:Int}:FnD Tryz.prog 183 [layV l,.int .i64 s,.int .i64 d] [] (.int .i64 (l.prev s d)) []:=by
 have hb:=za4 hl
 refine Fn.enter (Tryz.func183) rfl rfl (fun w0 R=>?_)
 refine sA (xB 0 rfl (fun bk0=>(xai rfl (dB (xmi rfl (TL.callD [] [] zaX ⟨rfl,rfl,trivial⟩ trivial zbh rfl rfl rfl rfl rfl trivial (TL.casesP rfl (fun q1=>?_) (fun q1=>?_))))))))
 refine xnt rfl (dF rfl (xL3 0 zaa rfl rfl (xmi rfl (xmi rfl (TL.add _ rfl rfl (wr64 (by omega)) rfl rfl (TL.callD [] [] (zlT hl (by omega)) ⟨rfl,rfl,rfl,trivial⟩ trivial zgq rfl rfl rfl rfl rfl trivial (xai rfl (dR ?_))))))))
 refine FQ.ret1 (v:=(.int _ _)) (Bs:=[]) [] rfl rfl rfl trivial ?_
 first | exact ⟨iE (by unfold Lay.prev; rw [if_pos (by omega)]),rfl⟩ | exact ⟨iE (by unfold Lay.prev; rw [if_neg (by omega)]),rfl⟩
 refine xnf rfl (dT rfl (xai rfl (dRR ?_)))
 refine FQ.ret1 (v:=(.int _ _)) (Bs:=[]) [] rfl rfl rfl trivial ?_
 first | exact ⟨iE (by unfold Lay.prev; rw [if_pos (by omega)]),rfl⟩ | exact ⟨iE (by unfold Lay.prev; rw [if_neg (by omega)]),rfl⟩
theorem zj9 {l:Lay} (hl:l.Ok)  : FnD Tryz.prog 148 [layV l] [] (.int .i64 l.heads) []:=by
 have hb:=za4 hl
 refine Fn.enter (Tryz.func148) rfl rfl (fun w0 R=>?_)
 refine sA (xB 0 rfl (fun bk0=>(xai rfl (dS (TC.draw [(0,true),(3,true),(4,true),(5,true),(1,false),(2,true),(6,true),(7,true)] [0] fc_m (by kernel_rfl) (xL3 0 zaa rfl rfl (xf 1 za9 rfl (xli 0 zaf rfl rfl (TL.mul _ rfl rfl (wr64 (by omega)) rfl rfl ?_)))))))))
 refine TL.callD [] [] (zhE hl) ⟨rfl,trivial⟩ trivial zhP rfl rfl rfl rfl rfl (kL1 rfl trivial) (TL.add _ rfl rfl (wr64 (by omega)) rfl rfl (TL.add _ rfl rfl (wr64 (by omega)) rfl rfl (xai rfl (dR ?_))))
 refine FQ.ret1 (v:=(.int _ _)) (Bs:=[]) [] rfl rfl rfl trivial ?_
 exact ⟨rfl,rfl⟩
theorem zhB {l:Lay} (hl:l.Ok) {v i:Int}:FnD Tryz.prog 164 [layV l,.int .i64 v,.int .i64 i] [] (.int .i64 (l.head v i)) []:=by
 have hb:=za4 hl
 refine Fn.enter (Tryz.func164) rfl rfl (fun w0 R=>?_)
 refine sA (xB 0 rfl (fun bk0=>(xai rfl (dB (xmi rfl (xf 0 zas rfl (xli 0 zaf rfl rfl (TL.callD [] [] zaX ⟨rfl,rfl,trivial⟩ trivial zbh rfl rfl rfl rfl rfl trivial (TL.casesP rfl (fun q1=>?_) (fun q1=>?_))))))))))
 refine xnt rfl (xmf rfl (xmi rfl (xL3 0 zaa rfl rfl (TL.callD [] [] (zbG hl) ⟨rfl,trivial⟩ trivial zd9 rfl rfl rfl rfl rfl trivial (TL.callD [] [] zaX ⟨rfl,rfl,trivial⟩ trivial zbh rfl rfl rfl rfl rfl trivial (TL.casesP rfl (fun q2=>?_) (fun q2=>?_)))))))
 refine xnt rfl (xpF rfl (TL.done (TQ.then (TC.condF rfl (TC.skip (TQ.then (TC.seq (TC.draw [(0,true),(2,true),(3,true),(7,true),(1,false),(4,false),(5,true),(6,true),(8,true),(9,true)] [0] fc_m (by kernel_rfl) ?_))))))))
 refine xL3 0 zaa rfl rfl (xmi rfl (xL3 0 zaa rfl rfl (xmi rfl (TL.callD [] [] (zj9 hl) ⟨rfl,trivial⟩ trivial zmS rfl rfl rfl rfl rfl (kL1 rfl trivial) (TL.callD [] [] (zbG hl) ⟨rfl,trivial⟩ trivial zd9 rfl rfl rfl rfl rfl (kL1 rfl trivial) (TL.mul _ rfl rfl (wr64 (by have:=zcK (a:=v) (A:=16) (b:=l.lev) (B:=5) (by omega) (by omega) (by omega) (by omega); omega)) rfl rfl (TL.add _ rfl rfl (wr64 (by have:=zcK (a:=v) (A:=16) (b:=l.lev) (B:=5) (by omega) (by omega) (by omega) (by omega); omega)) rfl rfl (TL.add _ rfl rfl (wr64 (by have:=zcK (a:=v) (A:=16) (b:=l.lev) (B:=5) (by omega) (by omega) (by omega) (by omega); omega)) rfl rfl ?_))))))))
 refine xai rfl (dR ?_)
 refine FQ.ret1 (v:=(.int _ _)) (Bs:=[]) [] rfl rfl rfl trivial ?_
 first | exact ⟨iE (by unfold Lay.head; rw [if_pos (by omega)]),rfl⟩ | exact ⟨iE (by unfold Lay.head; rw [if_neg (by omega)]),rfl⟩
 refine xnf rfl (xpH rfl (dT rfl (xai rfl (dRR ?_))))
 refine FQ.ret1 (v:=(.int _ _)) (Bs:=[]) [] rfl rfl rfl trivial ?_
 first | exact ⟨iE (by unfold Lay.head; rw [if_pos (by omega)]),rfl⟩ | exact ⟨iE (by unfold Lay.head; rw [if_neg (by omega)]),rfl⟩
 refine xnf rfl (xmt rfl (xo rfl (xo rfl (xo rfl (xo rfl (xo rfl (xpT rfl (dT rfl ?_))))))))
 refine xai rfl (dRR ?_)
 refine FQ.ret1 (v:=(.int _ _)) (Bs:=[]) [] rfl rfl rfl trivial ?_
 first | exact ⟨iE (by unfold Lay.head; rw [if_pos (by omega)]),rfl⟩ | exact ⟨iE (by unfold Lay.head; rw [if_neg (by omega)]),rfl⟩
theorem zkk {l:Lay} (hl:l.Ok)  : FnD Tryz.prog 120 [layV l] [] (.int .i64 l.edges) []:=by
 have hb:=za4 hl
 refine Fn.enter (Tryz.func120) rfl rfl (fun w0 R=>?_)
 refine sA (xB 0 rfl (fun bk0=>(xai rfl (dS (TC.draw [(0,true),(2,true),(3,true),(4,true),(1,false),(5,false),(6,true),(7,true),(8,true)] [0] fc_m (by kernel_rfl) (xL3 0 zaa rfl rfl (xf 0 zas rfl (xli 0 zaf rfl rfl (xL3 0 zaa rfl rfl ?_)))))))))
 refine TL.callD [] [] (zj9 hl) ⟨rfl,trivial⟩ trivial zmS rfl rfl rfl rfl rfl (kL1 rfl trivial) (TL.callD [] [] (zbG hl) ⟨rfl,trivial⟩ trivial zd9 rfl rfl rfl rfl rfl (kL1 rfl trivial) (TL.mul _ rfl rfl (wr64 (by omega)) rfl rfl (TL.add _ rfl rfl (wr64 (by omega)) rfl rfl (xai rfl (dR ?_)))))
 refine FQ.ret1 (v:=(.int _ _)) (Bs:=[]) [] rfl rfl rfl trivial ?_
 exact ⟨rfl,rfl⟩
theorem zhV {l:Lay} (hl:l.Ok) {a b:Int}:FnD Tryz.prog 109 [layV l,.int .i64 a,.int .i64 b] [] (.int .i64 (l.edge a b)) []:=by
 have hb:=za4 hl
 refine Fn.enter (Tryz.func109) rfl rfl (fun w0 R=>?_)
 refine sA (xB 0 rfl (fun bk0=>(xai rfl (dA (xmi rfl (xmi rfl (TL.min2 rfl rfl rfl rfl (xmi rfl (xmi rfl ?_)))))))))
 refine TL.max2 rfl rfl rfl rfl (xai rfl (xai rfl (dB (xmi rfl (xmi rfl (TL.eql rfl rfl rfl rfl (fun q1=>?_) (fun q1=>?_)))))))
 refine xmt rfl (xo rfl (xo rfl (xo rfl (xo rfl (xo rfl (xpT rfl (xmt rfl (xo rfl ?_))))))))
 refine xo rfl (xo rfl (xo rfl (xo rfl (xpT rfl (dT rfl (xai rfl (dRR ?_)))))))
 refine FQ.ret1 (v:=(.int _ _)) (Bs:=[]) [] rfl rfl rfl trivial ?_
 first | exact ⟨iE (by unfold Lay.edge; rw [if_neg (by omega)]),rfl⟩ | exact ⟨iE (by unfold Lay.edge; rw [if_pos (by omega)]),rfl⟩
 refine xmf rfl (xmi rfl (xf 0 zas rfl (xli 0 zaf rfl rfl (TL.callD [] [] zaX ⟨rfl,rfl,trivial⟩ trivial zbh rfl rfl rfl rfl rfl trivial (TL.casesP rfl (fun q2=>?_) (fun q2=>?_))))))
 refine xnt rfl (xpF rfl (xmf rfl (xmi rfl (xf 0 zas rfl (xli 0 zaf rfl rfl (TL.callD [] [] zaX ⟨rfl,rfl,trivial⟩ trivial zbh rfl rfl rfl rfl rfl trivial (TL.casesP rfl (fun q3=>?_) (fun q3=>?_))))))))
 refine xnt rfl (xpF rfl (TL.done (TQ.then (TC.condF rfl (TC.skip (TQ.then (TC.seq (TC.draw [(0,true),(2,true),(3,true),(4,true),(5,true),(6,true),(7,true),(8,true),(9,true),(10,true),(12,true),(14,true),(1,false),(11,true),(13,true),(15,true),(16,true),(17,true)] [0] fc_m (by kernel_rfl) ?_))))))))
 refine xL3 0 zaa rfl rfl (xmi rfl (xf 0 zas rfl (xli 0 zaf rfl rfl (TL.mul _ rfl rfl (wr64 (by omega)) rfl rfl (xmi rfl (TL.sub _ rfl rfl (wr64 (by omega)) rfl rfl (TL.sub _ rfl rfl (wr64 (by omega)) rfl rfl (TL.mul _ rfl rfl (wr64 (by have h9:=zep (x:=min a b) (V:=(l.V:Int)) (by omega) (by omega) (by omega); omega)) rfl rfl ?_))))))))
 refine TL.quo _ rfl rfl (by omega) (zlD (by have h9:=zep (x:=min a b) (V:=(l.V:Int)) (by omega) (by omega) (by omega); omega) (by omega) (by have h9:=zep (x:=min a b) (V:=(l.V:Int)) (by omega) (by omega) (by omega); omega)) rfl rfl (xmi rfl (xmi rfl (TL.callD [] [] (zkk hl) ⟨rfl,trivial⟩ trivial zm2 rfl rfl rfl rfl rfl (kL1 rfl trivial) (TL.add _ rfl rfl (wr64 (by have h9:=zep (x:=min a b) (V:=(l.V:Int)) (by omega) (by omega) (by omega); omega)) rfl rfl (TL.add _ rfl rfl (wr64 (by have h9:=zep (x:=min a b) (V:=(l.V:Int)) (by omega) (by omega) (by omega); omega)) rfl rfl ?_)))))
 refine TL.sub _ rfl rfl (wr64 (by have h9:=zep (x:=min a b) (V:=(l.V:Int)) (by omega) (by omega) (by omega); omega)) rfl rfl (TL.sub _ rfl rfl (wr64 (by have h9:=zep (x:=min a b) (V:=(l.V:Int)) (by omega) (by omega) (by omega); omega)) rfl rfl (xai rfl (dR ?_)))
 refine FQ.ret1 (v:=(.int _ _)) (Bs:=[]) [] rfl rfl rfl trivial ?_
 first | exact ⟨iE (by unfold Lay.edge; rw [if_neg (by omega)]),rfl⟩ | exact ⟨iE (by unfold Lay.edge; rw [if_pos (by omega)]),rfl⟩
 refine xnf rfl (xpH rfl (dT rfl (xai rfl (dRR ?_))))
 refine FQ.ret1 (v:=(.int _ _)) (Bs:=[]) [] rfl rfl rfl trivial ?_
 first | exact ⟨iE (by unfold Lay.edge; rw [if_neg (by omega)]),rfl⟩ | exact ⟨iE (by unfold Lay.edge; rw [if_pos (by omega)]),rfl⟩
 refine xnf rfl (xpH rfl (xmt rfl (xo rfl (xo rfl (xo rfl (xo rfl (xo rfl (xpT rfl ?_))))))))
 refine dT rfl (xai rfl (dRR ?_))
 refine FQ.ret1 (v:=(.int _ _)) (Bs:=[]) [] rfl rfl rfl trivial ?_
 first | exact ⟨iE (by unfold Lay.edge; rw [if_neg (by omega)]),rfl⟩ | exact ⟨iE (by unfold Lay.edge; rw [if_pos (by omega)]),rfl⟩
theorem znB {l:Lay} (hl:l.Ok)  : FnD Tryz.prog 88 [layV l] [] (.int .i64 l.base) []:=by
 have hb:=za4 hl
 refine Fn.enter (Tryz.func88) rfl rfl (fun w0 R=>?_)
 refine sA (xB 0 rfl (fun bk0=>(xai rfl (dS (TC.draw [(0,true),(2,true),(3,true),(4,true),(5,true),(6,true),(7,true),(8,true),(1,false),(9,true),(10,true)] [0] fc_m (by kernel_rfl) (xL3 0 zaa rfl rfl (xf 0 zas rfl (xli 0 zaf rfl rfl (xf 0 zas rfl ?_)))))))))
 refine xli 0 zaf rfl rfl (TL.sub _ rfl rfl (wr64 (by omega)) rfl rfl (TL.mul _ rfl rfl (wr64 (by omega)) rfl rfl (TL.quo _ rfl rfl (by omega) (zlD (by omega) (by omega) (by omega)) rfl rfl (TL.callD [] [] (zkk hl) ⟨rfl,trivial⟩ trivial zm2 rfl rfl rfl rfl rfl (kL1 rfl trivial) (TL.add _ rfl rfl (wr64 (by omega)) rfl rfl (xai rfl (dR ?_)))))))
 refine FQ.ret1 (v:=(.int _ _)) (Bs:=[]) [] rfl rfl rfl trivial ?_
 exact ⟨rfl,rfl⟩
theorem zaP {l:Lay} (hl:l.Ok) {x f:Int}:FnD Tryz.prog 54 [layV l,.int .i64 x,.int .i64 f] [] (.int .i64 (l.field x f)) []:=by
 have hb:=za4 hl
 refine Fn.enter (Tryz.func54) rfl rfl (fun w0 R=>?_)
 refine sA (xB 0 rfl (fun bk0=>(xai rfl (dB (xmi rfl (TL.sub _ rfl rfl (rfl) rfl rfl (xL3 0 zaa rfl rfl (TL.callD [] [] (zch hl) ⟨rfl,trivial⟩ trivial zea rfl rfl rfl rfl rfl trivial (TL.callD [] [] zaX ⟨rfl,rfl,trivial⟩ trivial zbh rfl rfl rfl rfl rfl trivial ?_)))))))))
 refine TL.casesP rfl (fun q1=>?_) (fun q1=>?_)
 refine xnt rfl (xmf rfl (xmi rfl (TL.callD [] [] zaX ⟨rfl,rfl,trivial⟩ trivial zbh rfl rfl rfl rfl rfl trivial (TL.casesP rfl (fun q2=>?_) (fun q2=>?_)))))
 refine xnt rfl (xpF rfl (dF rfl (xL3 0 zaa rfl rfl (TL.callD [] [] (znB hl) ⟨rfl,trivial⟩ trivial zo1 rfl rfl rfl rfl rfl trivial (xmi rfl (TL.sub _ rfl rfl (rfl) rfl rfl (TL.mul _ rfl rfl (wr64 (by omega)) rfl rfl (TL.add _ rfl rfl (wr64 (by omega)) rfl rfl ?_))))))))
 refine xmi rfl (TL.add _ rfl rfl (wr64 (by omega)) rfl rfl (xai rfl (dR ?_)))
 refine FQ.ret1 (v:=(.int _ _)) (Bs:=[]) [] rfl rfl rfl trivial ?_
 first | exact ⟨iE (by unfold Lay.field; rw [if_pos (by omega)]),rfl⟩ | exact ⟨iE (by unfold Lay.field; rw [if_neg (by omega)]),rfl⟩
 refine xnf rfl (xpH rfl (dT rfl (xai rfl (dRR ?_))))
 refine FQ.ret1 (v:=(.int _ _)) (Bs:=[]) [] rfl rfl rfl trivial ?_
 first | exact ⟨iE (by unfold Lay.field; rw [if_pos (by omega)]),rfl⟩ | exact ⟨iE (by unfold Lay.field; rw [if_neg (by omega)]),rfl⟩
 refine xnf rfl (xmt rfl (xo rfl (xo rfl (xo rfl (xpT rfl (dT rfl (xai rfl (dRR ?_))))))))
 refine FQ.ret1 (v:=(.int _ _)) (Bs:=[]) [] rfl rfl rfl trivial ?_
 first | exact ⟨iE (by unfold Lay.field; rw [if_pos (by omega)]),rfl⟩ | exact ⟨iE (by unfold Lay.field; rw [if_neg (by omega)]),rfl⟩
theorem zkp {l:Lay} (hl:l.Ok)  : FnD Tryz.prog 30 [layV l] [] (.int .i64 l.cells) []:=by
 have hb:=za4 hl
 refine Fn.enter (Tryz.func30) rfl rfl (fun w0 R=>?_)
 refine sA (xB 0 rfl (fun bk0=>(xai rfl (dS (TC.draw [(0,true),(2,true),(1,false),(3,false),(4,true),(5,true),(6,true)] [0] fc_m (by kernel_rfl) (xL3 0 zaa rfl rfl (xL3 0 zaa rfl rfl (TL.callD [] [] (znB hl) ⟨rfl,trivial⟩ trivial zo1 rfl rfl rfl rfl rfl (kL1 rfl trivial) (TL.callD [] [] (zch hl) ⟨rfl,trivial⟩ trivial zea rfl rfl rfl rfl rfl (kL1 rfl trivial) ?_)))))))))
 refine TL.mul _ rfl rfl (wr64 (by omega)) rfl rfl (TL.add _ rfl rfl (wr64 (by omega)) rfl rfl (xai rfl (dR ?_)))
 refine FQ.ret1 (v:=(.int _ _)) (Bs:=[]) [] rfl rfl rfl trivial ?_
 exact ⟨rfl,rfl⟩
theorem zei {l:Lay} (hl:l.Ok) {x:Int}:FnD Tryz.prog 47 [layV l,.int .i64 x] [] (.tuple #[zqN (l.node x).1,.bool (l.node x).2]) []:=by
 have hb:=za4 hl
 refine Fn.enter (Tryz.func47) rfl rfl (fun w0 R=>?_)
 refine sA (xB 0 rfl (fun bk0=>(TL.alloc 1 (cs:=#[.bool false,.int .i64 0,.int .i64 0,.int .i64 0,.int .i64 0]) zdE rfl rfl rfl (fun _=>trivial) (fun bk1=>(xaf rfl (dB (xmi rfl (TL.sub _ rfl rfl (rfl) rfl rfl (xL3 0 zaa rfl rfl (TL.callD [] [] (zch hl) ⟨rfl,trivial⟩ trivial zea rfl rfl rfl rfl rfl trivial ?_))))))))))
 refine TL.callD [] [] zaX ⟨rfl,rfl,trivial⟩ trivial zbh rfl rfl rfl rfl rfl trivial (TL.casesP rfl (fun q1=>?_) (fun q1=>?_))
 refine xnt rfl (dF rfl (xmi rfl (TL.sub _ rfl rfl (rfl) rfl rfl (xai rfl (dS (TC.draw [(0,true),(2,true),(3,true),(1,false),(4,true),(5,true)] [0] fc_m (by kernel_rfl) (xL3 0 zaa rfl rfl (xf 0 zas rfl ?_))))))))
 refine xli 0 zaf rfl rfl (TL.callD [] [] (zbG hl) ⟨rfl,trivial⟩ trivial zd9 rfl rfl rfl rfl rfl (kL1 rfl trivial) (TL.mul _ rfl rfl (wr64 (by omega)) rfl rfl (xai rfl (dB (xmi rfl (xmi rfl (TL.lss rfl rfl rfl rfl (fun q2=>?_) (fun q2=>?_))))))))
 refine TL.done (TQ.then (TC.condT rfl (TC.seq (TC.draw [(0,true),(1,true),(2,true),(3,true),(4,true),(5,true),(6,true),(7,true),(8,true),(9,false),(10,true)] [0] fc_m (by kernel_rfl) (xmi rfl (xf 0 zas rfl (xli 0 zaf rfl rfl (TL.quo _ rfl rfl (by omega) (zlD (by omega) (by omega) (by omega)) rfl rfl ?_))))))))
 refine xmi rfl (xf 0 zas rfl (xli 0 zaf rfl rfl (TL.rem _ rfl rfl (by omega) (zpx (by omega)) rfl rfl (TL.bld [.bool false,.int .i64 0,.int .i64 0,.int .i64 0,.int .i64 0] [(.int _ _),(.int _ _)] [_,_,_,_,_] zdE zms ⟨rfl,rfl,trivial⟩ ⟨rfl,rfl⟩ rfl rfl (TL.stW 1 5 [_,_,_,_,_] rfl rfl rfl rfl rfl rfl zbz rfl rfl (kL1 rfl trivial) (xat rfl (dRR ?_)))))))
 refine FQ.retG (rs:=[.cell 4 94,.tmp 5]) [(.agg _),(.bool true)] (Bs:=[]) [] rfl ⟨⟨_,_,_,_,_,1,rfl,rfl,.inr ⟨5,[_,_,_,_,_],zbz,rfl,rfl⟩⟩,rfl,trivial⟩ rfl rfl trivial ?_
 first | exact ⟨by unfold Lay.node; simp only []; rw [if_neg (by omega)]; rfl,rfl⟩ | exact ⟨by unfold Lay.node; simp only []; rw [if_pos (by omega),if_pos (by omega)]; rfl,rfl⟩ | exact ⟨by unfold Lay.node; simp only []; rw [if_pos (by omega),if_neg (by omega)]; rfl,rfl⟩
 refine dF rfl (xmi rfl (xmi rfl (TL.sub _ rfl rfl (wr64 (by omega)) rfl rfl (xai rfl (dS (TC.draw [(0,true),(1,true),(4,true),(5,true),(9,true),(10,true),(2,false),(3,true),(6,false),(7,true),(8,true),(11,true),(12,false),(13,true)] [0] fc_m (by kernel_rfl) (xmi rfl (xL3 0 zaa rfl rfl ?_))))))))
 refine xmi rfl (xL3 0 zaa rfl rfl (xmi rfl (TL.rem _ rfl rfl (by omega) (zpx (by omega)) rfl rfl (TL.callD [] [] (zh4 hl) ⟨rfl,trivial⟩ trivial zkf rfl rfl rfl rfl rfl (kL1 rfl trivial) (TL.quo _ rfl rfl (by omega) (zlD (by omega) (by omega) (by omega)) rfl rfl (TL.callD [] [] (zh4 hl) ⟨rfl,trivial⟩ trivial zkf rfl rfl rfl rfl rfl (kL1 rfl trivial) (TL.rem _ rfl rfl (by omega) (zpx (by omega)) rfl rfl (TL.quo _ rfl rfl (by omega) (zlD (Int.emod_nonneg _ (by omega)) (by omega) (by have:=Int.emod_lt_of_pos (IntKind.i64.wrap (x - 1) - l.lev * l.V) (b:=l.arcs) (by omega); omega)) rfl rfl ?_))))))))
 refine TL.bld [.bool false,.int .i64 0,.int .i64 0,.int .i64 0,.int .i64 0] [(.bool true),(.int _ _),(.int _ _),(.int _ _)] [_,_,_,_,_] zdE zms ⟨rfl,rfl,rfl,rfl,trivial⟩ ⟨rfl,rfl⟩ rfl rfl (TL.stW 1 5 [_,_,_,_,_] rfl rfl rfl rfl rfl rfl zbz rfl rfl (kL1 rfl trivial) (xat rfl (dR ?_)))
 refine FQ.retG (rs:=[.cell 4 94,.tmp 5]) [(.agg _),(.bool true)] (Bs:=[]) [] rfl ⟨⟨_,_,_,_,_,1,rfl,rfl,.inr ⟨5,[_,_,_,_,_],zbz,rfl,rfl⟩⟩,rfl,trivial⟩ rfl rfl trivial ?_
 first | exact ⟨by unfold Lay.node; simp only []; rw [if_neg (by omega)]; rfl,rfl⟩ | exact ⟨by unfold Lay.node; simp only []; rw [if_pos (by omega),if_pos (by omega)]; rfl,rfl⟩ | exact ⟨by unfold Lay.node; simp only []; rw [if_pos (by omega),if_neg (by omega)]; rfl,rfl⟩
 refine xnf rfl (dT rfl (TL.bld [.bool false,.int .i64 0,.int .i64 0,.int .i64 0,.int .i64 0] [] [_,_,_,_,_] zdE zms trivial ⟨rfl,rfl⟩ rfl rfl (TL.stW 1 5 [_,_,_,_,_] rfl rfl rfl rfl rfl rfl zbz rfl rfl trivial (xaf rfl (dRR ?_)))))
 refine FQ.retG (rs:=[.cell 4 94,.tmp 5]) [(.agg _),(.bool false)] (Bs:=[]) [] rfl ⟨⟨_,_,_,_,_,1,rfl,rfl,.inr ⟨5,[_,_,_,_,_],zbz,rfl,rfl⟩⟩,rfl,trivial⟩ rfl rfl trivial ?_
 first | exact ⟨by unfold Lay.node; simp only []; rw [if_neg (by omega)]; rfl,rfl⟩ | exact ⟨by unfold Lay.node; simp only []; rw [if_pos (by omega),if_pos (by omega)]; rfl,rfl⟩ | exact ⟨by unfold Lay.node; simp only []; rw [if_pos (by omega),if_neg (by omega)]; rfl,rfl⟩
theorem zc1 {n m:Int}:FnD Tryz.prog 163 [.int .i64 n,.int .i64 m] [] (.bool (decide (0≤n∧n≤m))) []:=by
 refine Fn.enter (Tryz.func163) rfl rfl (fun w0 R=>?_)
 refine sA (xaf rfl (dA (xmi rfl (TL.geq rfl rfl rfl rfl (fun q1=>?_) (fun q1=>?_)))))
 refine xmt rfl (xmi rfl (xmi rfl (TL.leqV rfl rfl rfl rfl (TL.pickT (.bool _) rfl rfl rfl rfl (xab rfl (dR ?_))))))
 refine FQ.ret1 (v:=(.bool _)) (Bs:=[]) [] rfl rfl rfl trivial ?_
 first | exact ⟨bT (by omega),rfl⟩ | exact ⟨bF (by omega),rfl⟩ | exact ⟨congrArg Value.bool (decide_eq_decide.2 (by omega)),rfl⟩
 refine xmf rfl (xo rfl (xo rfl (xo rfl (xpF rfl (xaf rfl (dR ?_))))))
 refine FQ.ret1 (v:=(.bool false)) (Bs:=[]) [] rfl rfl rfl trivial ?_
 first | exact ⟨bT (by omega),rfl⟩ | exact ⟨bF (by omega),rfl⟩ | exact ⟨congrArg Value.bool (decide_eq_decide.2 (by omega)),rfl⟩
theorem zfZ {o m t g:Int}:FnD Tryz.prog 132 [.agg #[.int .i64 o,.int .i64 m,.int .i64 t,.int .i64 g]] [] (.bool (decide (t=0))) []:=by
 refine Fn.enter (Tryz.func132) rfl rfl (fun w0 R=>?_)
 refine sA (xB 0 rfl (fun bk0=>(xaf rfl (dA (xf 2 zcN rfl (xli 0 zaf rfl rfl (TL.eqlV rfl rfl rfl rfl (xab rfl (dR ?_)))))))))
 refine FQ.ret1 (v:=(.bool _)) (Bs:=[]) [] rfl rfl rfl trivial ?_
 exact ⟨rfl,rfl⟩
theorem zh7 {o m t g:Int}:FnD Tryz.prog 162 [.agg #[.int .i64 o,.int .i64 m,.int .i64 t,.int .i64 g]] [] (.bool (⟨o,m,t,g⟩:Wd).right) []:=by
 refine Fn.enter (Tryz.func162) rfl rfl (fun w0 R=>?_)
 refine sA (xB 0 rfl (fun bk0=>(xaf rfl (dB (xf 0 za7 rfl (xli 0 zaf rfl rfl (TL.callD [] [] zc1 ⟨rfl,rfl,trivial⟩ trivial zfk rfl rfl rfl rfl rfl trivial (TL.casesP rfl (fun q1=>?_) (fun q1=>?_)))))))))
 refine xnt rfl (xmf rfl (xf 1 zaV rfl (xli 0 zaf rfl rfl (TL.callD [] [] zc1 ⟨rfl,rfl,trivial⟩ trivial zfk rfl rfl rfl rfl rfl trivial (TL.casesP rfl (fun q2=>?_) (fun q2=>?_))))))
 refine xnt rfl (xpF rfl (xmf rfl (xf 2 zcN rfl (xli 0 zaf rfl rfl (TL.callD [] [] zc1 ⟨rfl,rfl,trivial⟩ trivial zfk rfl rfl rfl rfl rfl trivial (TL.casesP rfl (fun q3=>?_) (fun q3=>?_)))))))
 refine xnt rfl (xpF rfl (xmf rfl (xf 3 zcc rfl (xli 0 zaf rfl rfl (TL.callD [] [] zc1 ⟨rfl,rfl,trivial⟩ trivial zfk rfl rfl rfl rfl rfl trivial (TL.casesP rfl (fun q4=>?_) (fun q4=>?_)))))))
 refine xnt rfl (xpF rfl (dF rfl (xL4 0 zaq rfl rfl (TL.callD [] [] zfZ ⟨rfl,trivial⟩ trivial zjC rfl rfl rfl rfl rfl trivial (TL.casesP rfl (fun q5=>?_) (fun q5=>?_))))))
 refine xnt rfl (xmf rfl (xf 0 za7 rfl (xli 0 zaf rfl rfl (xf 1 zaV rfl (xli 0 zaf rfl rfl (TL.eql rfl rfl rfl rfl (fun q6=>?_) (fun q6=>?_)))))))
 refine xmt rfl (xf 3 zcc rfl (xli 0 zaf rfl rfl (TL.eqlV rfl rfl rfl rfl (TL.pickT (.bool _) rfl rfl rfl rfl (TL.pickF (.bool _) rfl rfl rfl rfl (xab rfl (dR ?_)))))))
 refine FQ.ret1 (v:=(.bool _)) (Bs:=[]) [] rfl rfl rfl trivial ?_
 exact ⟨congrArg Value.bool (by simp [Wd.right, *]),rfl⟩
 refine xmf rfl (xo rfl (xo rfl (xo rfl (xpF rfl (xpF rfl (xaf rfl (dR ?_)))))))
 refine FQ.ret1 (v:=(.bool false)) (Bs:=[]) [] rfl rfl rfl trivial ?_
 exact ⟨congrArg Value.bool (by simp [Wd.right, *]),rfl⟩
 refine xnf rfl (xmt rfl (xo rfl (xo rfl (xo rfl (xo rfl (xo rfl (xo rfl (xo rfl ?_))))))))
 refine xo rfl (xo rfl (xo rfl (xpT rfl (xat rfl (dR ?_)))))
 refine FQ.ret1 (v:=(.bool true)) (Bs:=[]) [] rfl rfl rfl trivial ?_
 exact ⟨congrArg Value.bool (by simp [Wd.right, *]),rfl⟩
 refine xnf rfl (xpH rfl (dT rfl (xaf rfl (dRR ?_))))
 refine FQ.ret1 (v:=(.bool false)) (Bs:=[]) [] rfl rfl rfl trivial ?_
 exact ⟨congrArg Value.bool (by simp [Wd.right, *]),rfl⟩
 refine xnf rfl (xpH rfl (xmt rfl (xo rfl (xo rfl (xo rfl (xo rfl (xpT rfl (dT rfl ?_))))))))
 refine xaf rfl (dRR ?_)
 refine FQ.ret1 (v:=(.bool false)) (Bs:=[]) [] rfl rfl rfl trivial ?_
 exact ⟨congrArg Value.bool (by simp [Wd.right, *]),rfl⟩
 refine xnf rfl (xpH rfl (xmt rfl (xo rfl (xo rfl (xo rfl (xo rfl (xpT rfl (xmt rfl ?_))))))))
 refine xo rfl (xo rfl (xo rfl (xo rfl (xpT rfl (dT rfl (xaf rfl (dRR ?_)))))))
 refine FQ.ret1 (v:=(.bool false)) (Bs:=[]) [] rfl rfl rfl trivial ?_
 exact ⟨congrArg Value.bool (by simp [Wd.right, *]),rfl⟩
 refine xnf rfl (xmt rfl (xo rfl (xo rfl (xo rfl (xo rfl (xpT rfl (xmt rfl (xo rfl ?_))))))))
 refine xo rfl (xo rfl (xo rfl (xpT rfl (xmt rfl (xo rfl (xo rfl (xo rfl (xo rfl ?_))))))))
 refine xpT rfl (dT rfl (xaf rfl (dRR ?_)))
 refine FQ.ret1 (v:=(.bool false)) (Bs:=[]) [] rfl rfl rfl trivial ?_
 exact ⟨congrArg Value.bool (by simp [Wd.right, *]),rfl⟩
theorem zhm {o m t g:Int}:FnD Tryz.prog 143 [.agg #[.int .i64 o,.int .i64 m,.int .i64 t,.int .i64 g]] [] (.tuple #[.int .u64 (if (⟨o,m,t,g⟩:Wd).right then (⟨o,m,t,g⟩:Wd).pack else 0),.int .i64 (if (⟨o,m,t,g⟩:Wd).right then 0 else 11)]) []:=by
 refine Fn.enter (Tryz.func143) rfl rfl (fun w0 R=>?_)
 refine sA (xB 0 rfl (fun bk0=>(xai rfl (xai rfl (dB (xL4 0 zaq rfl rfl (TL.callD [] [] zh7 ⟨rfl,trivial⟩ trivial zmO rfl rfl rfl rfl rfl trivial (TL.cases rfl (fun q1=>?_) (fun q1=>?_)))))))))
 refine xnt rfl (dF rfl (xf 1 zaV rfl (xli 0 zaf rfl rfl (TL.conv _ rfl zeR za0 (rfl) rfl rfl (xf 0 za7 rfl (xli 0 zaf rfl rfl (TL.conv _ rfl zeR za0 (rfl) rfl rfl (TL.shl _ rfl rfl (by decide) rfl rfl rfl ?_))))))))
 refine TL.or _ rfl rfl rfl rfl rfl (xf 2 zcN rfl (xli 0 zaf rfl rfl (TL.conv _ rfl zeR za0 (rfl) rfl rfl (TL.shl _ rfl rfl (by decide) rfl rfl rfl (TL.or _ rfl rfl rfl rfl rfl (xf 3 zcc rfl (xli 0 zaf rfl rfl (TL.conv _ rfl zeR za0 (rfl) rfl rfl ?_))))))))
 refine TL.shl _ rfl rfl (by decide) rfl rfl rfl (TL.or _ rfl rfl rfl rfl rfl (xai rfl (xai rfl (dR ?_))))
 refine FQ.ret2 (v:=(.int _ _)) (x:=(.int _ _)) (Bs:=[]) [] rfl rfl rfl rfl trivial ?_
 exact ⟨by simp only [*,if_true,Bool.false_eq_true,if_false]<;>rfl,rfl⟩
 refine xnf rfl (dT rfl (xai rfl (xai rfl (dRR ?_))))
 refine FQ.ret2 (v:=(.int _ _)) (x:=(.int _ _)) (Bs:=[]) [] rfl rfl rfl rfl trivial ?_
 exact ⟨by simp only [*,if_true,Bool.false_eq_true,if_false]<;>rfl,rfl⟩
theorem zjH {v a n:Int} (ha:0≤a) (hn:0≤n):FnD Tryz.prog 161 [.int .u64 v,.int .i64 a,.int .i64 n] [] (.int .i64 (zgH v a n)) []:=by
 refine Fn.enter (Tryz.func161) rfl rfl (fun w0 R=>?_)
 refine sA (xai rfl (dS (TC.draw [(0,true),(1,true),(2,true),(3,true),(4,true),(5,true),(6,true),(7,true),(8,true)] [] fc_m (by kernel_rfl) (xmi rfl (xmi rfl (TL.shr _ rfl rfl (by omega) rfl rfl rfl (xmi rfl (TL.shl _ rfl rfl (by omega) rfl rfl rfl ?_))))))))
 refine TL.sub _ rfl rfl (rfl) rfl rfl (TL.and _ rfl rfl rfl rfl rfl (TL.conv _ rfl zdG za1 (rfl) rfl rfl (xai rfl (dR ?_))))
 refine FQ.ret1 (v:=(.int _ _)) (Bs:=[]) [] rfl rfl rfl trivial ?_
 exact ⟨iE (by unfold zgH andU shrU shlU; rw [Int.one_mul]),rfl⟩
theorem zcj {v:Int}:FnD Tryz.prog 131 [.int .u64 v] [] (.tuple #[wdV (zae v).1,.int .i64 (if (zae v).2 then 0 else 21)]) []:=by
 refine Fn.enter (Tryz.func131) rfl rfl (fun w0 R=>?_)
 refine sA (TL.alloc 0 (cs:=#[.int .i64 0,.int .i64 0,.int .i64 0,.int .i64 0]) zbe rfl rfl rfl (fun _=>trivial) (fun bk0=>(xai rfl (dA (xmi rfl (TL.callD [] [] (zjH (by decide) (by decide)) ⟨rfl,rfl,rfl,trivial⟩ trivial zjz rfl rfl rfl rfl rfl trivial (xmi rfl (TL.callD [] [] (zjH (by decide) (by decide)) ⟨rfl,rfl,rfl,trivial⟩ trivial zjz rfl rfl rfl rfl rfl trivial (xmi rfl ?_)))))))))
 refine TL.callD [] [] (zjH (by decide) (by decide)) ⟨rfl,rfl,rfl,trivial⟩ trivial zjz rfl rfl rfl rfl rfl trivial (xmi rfl (TL.shr _ rfl rfl (by decide) rfl rfl rfl (TL.conv _ rfl zdG za1 (rfl) rfl rfl (TL.bld [.int .i64 0,.int .i64 0,.int .i64 0,.int .i64 0] [(.int _ _),(.int _ _),(.int _ _),(.int _ _)] [_,_,_,_] zbe zfe ⟨rfl,rfl,rfl,rfl,trivial⟩ ⟨rfl,rfl⟩ rfl rfl (TL.alloc 1 (cs:=#[.int .i64 0,.int .i64 0,.int .i64 0,.int .i64 0]) zbe rfl rfl rfl (fun _=>trivial) (fun bk1=>(TL.stW 1 4 [_,_,_,_] rfl rfl rfl rfl rfl rfl zaq rfl rfl trivial (dB (xL4 1 zaq rfl rfl ?_)))))))))
 refine TL.callD [] [] zh7 ⟨rfl,trivial⟩ trivial zmO rfl rfl rfl rfl rfl trivial (TL.cases rfl (fun q1=>?_) (fun q1=>?_))
 refine xnt rfl (dF rfl (xL4 1 zaq rfl rfl (TL.stW 0 4 [_,_,_,_] rfl rfl rfl rfl rfl rfl zaq rfl rfl trivial (xai rfl (dR ?_)))))
 refine FQ.retG (rs:=[.cell 2 175,.tmp 3]) [(.agg _),(.int _ _)] (Bs:=[]) [] rfl ⟨⟨_,_,_,_,_,0,rfl,rfl,.inr ⟨4,[_,_,_,_],zaq,rfl,rfl⟩⟩,rfl,trivial⟩ rfl rfl trivial ?_
 first | exact ⟨(by have q:(zbU v).right=true:=‹(zbU v).right=true›; simp only [zae,q,if_true]; rfl),rfl⟩ | exact ⟨(by have q:(zbU v).right=false:=‹(zbU v).right=false›; simp only [zae,q,Bool.false_eq_true,if_false]; rfl),rfl⟩
 refine xnf rfl (dT rfl (TL.bld [.int .i64 0,.int .i64 0,.int .i64 0,.int .i64 0] [] [_,_,_,_] zbe zfe trivial ⟨rfl,rfl⟩ rfl rfl (TL.stW 0 4 [_,_,_,_] rfl rfl rfl rfl rfl rfl zaq rfl rfl trivial (xai rfl (dRR ?_)))))
 refine FQ.retG (rs:=[.cell 2 175,.tmp 3]) [(.agg _),(.int _ _)] (Bs:=[]) [] rfl ⟨⟨_,_,_,_,_,0,rfl,rfl,.inr ⟨4,[_,_,_,_],zaq,rfl,rfl⟩⟩,rfl,trivial⟩ rfl rfl trivial ?_
 first | exact ⟨(by have q:(zbU v).right=true:=‹(zbU v).right=true›; simp only [zae,q,if_true]; rfl),rfl⟩ | exact ⟨(by have q:(zbU v).right=false:=‹(zbU v).right=false›; simp only [zae,q,Bool.false_eq_true,if_false]; rfl),rfl⟩
theorem zh6 {p:Pen} {x o m t g:Int} {b1 b2:Nat}:FnD Tryz.prog 134 [.agg #[.int .i64 o,.int .i64 m,.int .i64 t,.int .i64 g],.pointer (some ⟨b1,0,none⟩),.pointer (some ⟨b2,0,none⟩)] [pt b1 (.cells #[.int .i64 p.thread,.int .i64 p.tag] 37),pt b2 (.cells #[.int .i64 x] 3)] (wdV (p.to x (⟨o,m,t,g⟩:Wd))) [pt b1 (.cells #[.int .i64 p.thread,.int .i64 p.tag] 37),pt b2 (.cells #[.int .i64 x] 3)]:=by
 refine Fn.enter (Tryz.func134) rfl rfl (fun w0 R=>?_)
 refine sA (xB 2 rfl (fun bk2=>(TL.alloc 3 (cs:=#[.int .i64 0,.int .i64 0,.int .i64 0,.int .i64 0]) zbe rfl rfl rfl (fun _=>trivial) (fun bk3=>(dB (xf 2 zcN rfl (xli 2 zaf rfl rfl (xf 0 zdd rfl (xli 0 zaf rfl rfl (TL.neq rfl rfl rfl rfl (fun q1=>?_) (fun q1=>?_)))))))))))
 refine xmt rfl (xo rfl (xo rfl (xo rfl (xo rfl (xo rfl (xpT rfl (TL.done (TQ.then ?_))))))))
 refine TC.condT rfl (TC.region (xf 1 zaV rfl (xli 2 zaf rfl rfl (xf 0 za7 rfl (TL.st 2 #[_,_,_,_] (.int _ _) rfl rfl rfl rfl rfl rfl zaf rfl rfl trivial (dA (xf 0 za7 rfl (xli 2 zaf rfl rfl ?_))))))))
 refine xli 1 zaf rfl rfl (xf 0 zdd rfl (xli 0 zaf rfl rfl (xf 1 zcb rfl (xli 0 zaf rfl rfl (TL.bld [.int .i64 0,.int .i64 0,.int .i64 0,.int .i64 0] [(.int _ _),(.int _ _),(.int _ _),(.int _ _)] [_,_,_,_] zbe zfe ⟨rfl,rfl,rfl,rfl,trivial⟩ ⟨rfl,rfl⟩ rfl rfl (TL.stW 3 4 [_,_,_,_] rfl rfl rfl rfl rfl rfl zaq rfl rfl trivial (dR ?_)))))))
 refine FQ.retG (rs:=[.cell 4 175]) [(.agg _)] (Bs:=[pt b1 (.cells #[.int .i64 p.thread,.int .i64 p.tag] 37),pt b2 (.cells #[.int .i64 x] 3)]) [0,1] rfl ⟨⟨_,_,_,_,_,3,rfl,rfl,.inr ⟨4,[_,_,_,_],zaq,rfl,rfl⟩⟩,trivial⟩ rfl rfl ⟨rfl,rfl,trivial⟩ ?_
 first | exact ⟨(by unfold Pen.to; dsimp only; rw [if_pos (by omega)]; rfl),rfl⟩ | exact ⟨(by unfold Pen.to; dsimp only; rw [if_neg (by omega)]; rfl),rfl⟩
 refine xmf rfl (xf 3 zcc rfl (xli 2 zaf rfl rfl (xf 1 zcb rfl (xli 0 zaf rfl rfl (TL.neq rfl rfl rfl rfl (fun q2=>?_) (fun q2=>?_))))))
 refine xpH rfl (TL.done (TQ.then (TC.condT rfl (TC.region (xf 1 zaV rfl (xli 2 zaf rfl rfl (xf 0 za7 rfl (TL.st 2 #[_,_,_,_] (.int _ _) rfl rfl rfl rfl rfl rfl zaf rfl rfl trivial ?_))))))))
 refine dA (xf 0 za7 rfl (xli 2 zaf rfl rfl (xli 1 zaf rfl rfl (xf 0 zdd rfl (xli 0 zaf rfl rfl (xf 1 zcb rfl (xli 0 zaf rfl rfl (TL.bld [.int .i64 0,.int .i64 0,.int .i64 0,.int .i64 0] [(.int _ _),(.int _ _),(.int _ _),(.int _ _)] [_,_,_,_] zbe zfe ⟨rfl,rfl,rfl,rfl,trivial⟩ ⟨rfl,rfl⟩ rfl rfl ?_))))))))
 refine TL.stW 3 4 [_,_,_,_] rfl rfl rfl rfl rfl rfl zaq rfl rfl trivial (dR ?_)
 refine FQ.retG (rs:=[.cell 4 175]) [(.agg _)] (Bs:=[pt b1 (.cells #[.int .i64 p.thread,.int .i64 p.tag] 37),pt b2 (.cells #[.int .i64 x] 3)]) [0,1] rfl ⟨⟨_,_,_,_,_,3,rfl,rfl,.inr ⟨4,[_,_,_,_],zaq,rfl,rfl⟩⟩,trivial⟩ rfl rfl ⟨rfl,rfl,trivial⟩ ?_
 first | exact ⟨(by unfold Pen.to; dsimp only; rw [if_pos (by omega)]; rfl),rfl⟩ | exact ⟨(by unfold Pen.to; dsimp only; rw [if_neg (by omega)]; rfl),rfl⟩
 refine xpF rfl (dF rfl (xf 0 za7 rfl (xli 2 zaf rfl rfl (xli 1 zaf rfl rfl (xf 0 zdd rfl (xli 0 zaf rfl rfl (xf 1 zcb rfl (xli 0 zaf rfl rfl ?_))))))))
 refine TL.bld [.int .i64 0,.int .i64 0,.int .i64 0,.int .i64 0] [(.int _ _),(.int _ _),(.int _ _),(.int _ _)] [_,_,_,_] zbe zfe ⟨rfl,rfl,rfl,rfl,trivial⟩ ⟨rfl,rfl⟩ rfl rfl (TL.stW 3 4 [_,_,_,_] rfl rfl rfl rfl rfl rfl zaq rfl rfl trivial (dR ?_))
 refine FQ.retG (rs:=[.cell 4 175]) [(.agg _)] (Bs:=[pt b1 (.cells #[.int .i64 p.thread,.int .i64 p.tag] 37),pt b2 (.cells #[.int .i64 x] 3)]) [0,1] rfl ⟨⟨_,_,_,_,_,3,rfl,rfl,.inr ⟨4,[_,_,_,_],zaq,rfl,rfl⟩⟩,trivial⟩ rfl rfl ⟨rfl,rfl,trivial⟩ ?_
 first | exact ⟨(by unfold Pen.to; dsimp only; rw [if_pos (by omega)]; rfl),rfl⟩ | exact ⟨(by unfold Pen.to; dsimp only; rw [if_neg (by omega)]; rfl),rfl⟩
theorem znr {S:Type} [MemLike S] {mt:TypeId} {mv:Value} {A:S→Assn} (hM:MemI Tryz.prog mt mv A) {σ:S} {p:Pen} {c x:Int} {b1 b2:Nat} (h:(zae (MemLike.get σ c)).2=false):FnD Tryz.prog 113 [.iface mt mv,.int .i64 c,.func (.func 134) #[] #[.pointer (some ⟨b1,0,none⟩),.pointer (some ⟨b2,0,none⟩)]] [A σ,pt b1 (.cells #[.int .i64 p.thread,.int .i64 p.tag] 37),pt b2 (.cells #[.int .i64 x] 3)] (.tuple #[]) [A (MemLike.ld σ c),pt b1 (.cells #[.int .i64 p.thread,.int .i64 p.tag] 37),pt b2 (.cells #[.int .i64 x] 3)]:=by
 refine Fn.enter (Tryz.func113) rfl rfl (fun w0 R=>?_)
 refine sA (xmc rfl (xmi rfl (TL.mload 0 hM rfl rfl rfl rfl rfl trivial (TL.callD [] [] zcj ⟨rfl,trivial⟩ trivial zdH rfl rfl rfl rfl rfl trivial (xmu rfl (TL.ext (.agg _) rfl rfl rfl rfl (xei rfl rfl (TL.alloc 3 (cs:=#[.int .i64 0,.int .i64 0,.int .i64 0,.int .i64 0]) zbe rfl rfl rfl (fun _=>trivial) (fun bk3=>?_)))))))))
 refine TL.stW 3 4 [_,_,_,_] rfl rfl rfl rfl rfl rfl zaq rfl rfl trivial (xai rfl (dB (xmi rfl (TL.neqT rfl rfl (by rw [h]; decide) rfl rfl (TL.done (TQ.then (TC.condT rfl (TC.ret ?_))))))))
 refine TQ.thenRet ?_
 refine FQ.ret0 (Bs:=[A (MemLike.ld σ c),pt b1 (.cells #[.int .i64 p.thread,.int .i64 p.tag] 37),pt b2 (.cells #[.int .i64 x] 3)]) [0,1,2] rfl rfl ⟨rfl,rfl,rfl,trivial⟩ ?_
 exact ⟨rfl,rfl⟩
theorem znq {S:Type} [MemLike S] {mt:TypeId} {mv:Value} {A:S→Assn} (hM:MemI Tryz.prog mt mv A) {σ:S} {p:Pen} {c x:Int} {b1 b2:Nat} (h:(zae (MemLike.get σ c)).2=true) (h2:(p.to x (zae (MemLike.get σ c)).1).right=false):FnD Tryz.prog 113 [.iface mt mv,.int .i64 c,.func (.func 134) #[] #[.pointer (some ⟨b1,0,none⟩),.pointer (some ⟨b2,0,none⟩)]] [A σ,pt b1 (.cells #[.int .i64 p.thread,.int .i64 p.tag] 37),pt b2 (.cells #[.int .i64 x] 3)] (.tuple #[]) [A (MemLike.ld σ c),pt b1 (.cells #[.int .i64 p.thread,.int .i64 p.tag] 37),pt b2 (.cells #[.int .i64 x] 3)]:=by
 refine Fn.enter (Tryz.func113) rfl rfl (fun w0 R=>?_)
 refine sA (xmc rfl (xmi rfl (TL.mload 0 hM rfl rfl rfl rfl rfl trivial (TL.callD [] [] zcj ⟨rfl,trivial⟩ trivial zdH rfl rfl rfl rfl rfl trivial (xmu rfl (TL.ext (.agg _) rfl rfl rfl rfl (xei rfl rfl (TL.alloc 3 (cs:=#[.int .i64 0,.int .i64 0,.int .i64 0,.int .i64 0]) zbe rfl rfl rfl (fun _=>trivial) (fun bk3=>?_)))))))))
 refine TL.stW 3 4 [_,_,_,_] rfl rfl rfl rfl rfl rfl zaq rfl rfl trivial (xai rfl (dB (xmi rfl (TL.neqF rfl rfl (by rw [h]; decide) rfl rfl (dF rfl (TL.mv (.func _ _ _) rfl rfl rfl (xL4 3 zaq rfl rfl (TL.callC (c1:=[]) (c2:=[_,_]) (vs:=[_]) [1,2] [1,2] rfl zh6 ⟨rfl,trivial⟩ ⟨rfl,rfl,trivial⟩ zmY rfl rfl rfl rfl rfl trivial ?_))))))))
 refine TL.callD [] [] zhm ⟨rfl,trivial⟩ trivial zhN rfl rfl rfl rfl rfl trivial (xmu rfl (xei rfl rfl (xei rfl rfl (xai rfl (xai rfl (dA (xmi rfl (TL.eqlF rfl rfl (by rw [h2]; decide) rfl rfl ?_))))))))
 refine TL.done (TQ.then (TC.condF rfl (TC.skip ?_)))
 refine FQ.end0 (Bs:=[A (MemLike.ld σ c),pt b1 (.cells #[.int .i64 p.thread,.int .i64 p.tag] 37),pt b2 (.cells #[.int .i64 x] 3)]) [0,1,2] rfl rfl ⟨rfl,rfl,rfl,trivial⟩ ?_
 exact ⟨rfl,rfl⟩
theorem znp {S:Type} [MemLike S] {mt:TypeId} {mv:Value} {A:S→Assn} (hM:MemI Tryz.prog mt mv A) {σ:S} {p:Pen} {c x:Int} {b1 b2:Nat} (h:(zae (MemLike.get σ c)).2=true) (h2:(p.to x (zae (MemLike.get σ c)).1).right=true):FnD Tryz.prog 113 [.iface mt mv,.int .i64 c,.func (.func 134) #[] #[.pointer (some ⟨b1,0,none⟩),.pointer (some ⟨b2,0,none⟩)]] [A σ,pt b1 (.cells #[.int .i64 p.thread,.int .i64 p.tag] 37),pt b2 (.cells #[.int .i64 x] 3)] (.tuple #[]) [A (MemLike.st (MemLike.ld σ c) c (p.to x (zae (MemLike.get σ c)).1).pack),pt b1 (.cells #[.int .i64 p.thread,.int .i64 p.tag] 37),pt b2 (.cells #[.int .i64 x] 3)]:=by
 refine Fn.enter (Tryz.func113) rfl rfl (fun w0 R=>?_)
 refine sA (xmc rfl (xmi rfl (TL.mload 0 hM rfl rfl rfl rfl rfl trivial (TL.callD [] [] zcj ⟨rfl,trivial⟩ trivial zdH rfl rfl rfl rfl rfl trivial (xmu rfl (TL.ext (.agg _) rfl rfl rfl rfl (xei rfl rfl (TL.alloc 3 (cs:=#[.int .i64 0,.int .i64 0,.int .i64 0,.int .i64 0]) zbe rfl rfl rfl (fun _=>trivial) (fun bk3=>?_)))))))))
 refine TL.stW 3 4 [_,_,_,_] rfl rfl rfl rfl rfl rfl zaq rfl rfl trivial (xai rfl (dB (xmi rfl (TL.neqF rfl rfl (by rw [h]; decide) rfl rfl (dF rfl (TL.mv (.func _ _ _) rfl rfl rfl (xL4 3 zaq rfl rfl (TL.callC (c1:=[]) (c2:=[_,_]) (vs:=[_]) [1,2] [1,2] rfl zh6 ⟨rfl,trivial⟩ ⟨rfl,rfl,trivial⟩ zmY rfl rfl rfl rfl rfl trivial ?_))))))))
 refine TL.callD [] [] zhm ⟨rfl,trivial⟩ trivial zhN rfl rfl rfl rfl rfl trivial (xmu rfl (xei rfl rfl (xei rfl rfl (xai rfl (xai rfl (dA (xmi rfl (TL.eqlT rfl rfl (by rw [h2]; decide) rfl rfl ?_))))))))
 refine TL.done (TQ.then (TC.condT rfl (TC.region (xmc rfl (xmi rfl (xmi rfl (TL.mstore 0 hM rfl rfl rfl (by rw [h2]; exact zcu _ _) rfl rfl rfl trivial (TL.done ?_))))))))
 refine FQ.end0 (Bs:=[A _,pt b1 (.cells #[.int .i64 p.thread,.int .i64 p.tag] 37),pt b2 (.cells #[.int .i64 x] 3)]) [0,1,2] rfl rfl ⟨rfl,rfl,rfl,trivial⟩ ?_
 exact ⟨rfl,by rw [h2]; rfl⟩
theorem zns {S:Type} [MemLike S] {mt:TypeId} {mv:Value} {A:S→Assn} (hM:MemI Tryz.prog mt mv A) {σ:S} {p:Pen} {c x:Int} {b1 b2:Nat}:FnD Tryz.prog 113 [.iface mt mv,.int .i64 c,.func (.func 134) #[] #[.pointer (some ⟨b1,0,none⟩),.pointer (some ⟨b2,0,none⟩)]] [A σ,pt b1 (.cells #[.int .i64 p.thread,.int .i64 p.tag] 37),pt b2 (.cells #[.int .i64 x] 3)] (.tuple #[]) [A (p.write σ c x),pt b1 (.cells #[.int .i64 p.thread,.int .i64 p.tag] 37),pt b2 (.cells #[.int .i64 x] 3)]:=by
 unfold Pen.write
 cases h:(zae (MemLike.get σ c)).2
 ·exact znr hM h
 ·rw [if_pos rfl]
  cases h2:(p.to x (zae (MemLike.get σ c)).1).right
  ·exact znq hM h h2
  ·exact znp hM h h2
theorem znK {S:Type} [MemLike S] {mt:TypeId} {mv:Value} {A:S→Assn} (hM:MemI Tryz.prog mt mv A) {σ:S} {p:Pen} {c x:Int}:FnD Tryz.prog 106 [.agg #[.int .i64 p.thread,.int .i64 p.tag],.iface mt mv,.int .i64 c,.int .i64 x] [A σ] (.tuple #[]) [A (p.write σ c x)]:=by
 refine Fn.enter (Tryz.func106) rfl rfl (fun w0 R=>?_)
 refine sA (xB 1 rfl (fun bk1=>(TL.box1 2 (.int _ _) rfl rfl rfl rfl (fun _=>trivial) (fun bk2=>(dG (xmc rfl (xmi rfl (TL.mf (xs:=[]) (ys:=[_,_]) [] [_,_] trivial ⟨rfl,rfl,trivial⟩ rfl rfl (TL.callD [0,1,2] [0,1,2] (zns hM) ⟨rfl,rfl,rfl,trivial⟩ ⟨rfl,rfl,rfl,trivial⟩ zm4 rfl rfl rfl rfl rfl trivial (TL.done ?_))))))))))
 refine FQ.end0 (Bs:=[A (p.write σ c x)]) [0] rfl rfl ⟨rfl,trivial⟩ ?_
 exact ⟨rfl,rfl⟩
theorem zqW {S:Type} [MemLike S] {mt:TypeId} {mv:Value} {A:S→Assn} (hM:MemI Tryz.prog mt mv A) {σ:S} {c:Int}:FnD Tryz.prog 107 [.iface mt mv,.int .i64 c] [A σ] (.int .i64 (pnew σ c)) [A (MemLike.ld σ c)]:=by
 refine Fn.enter (Tryz.func107) rfl rfl (fun w0 R=>?_)
 refine sA (xai rfl (dA (xmc rfl (xmi rfl (TL.mload 0 hM rfl rfl rfl rfl rfl trivial (TL.callD [] [] zcj ⟨rfl,trivial⟩ trivial zdH rfl rfl rfl rfl rfl trivial (xmu rfl (TL.ext (.agg _) rfl rfl rfl rfl ?_))))))))
 refine xei rfl rfl (TL.alloc 1 (cs:=#[.int .i64 0,.int .i64 0,.int .i64 0,.int .i64 0]) zbe rfl rfl rfl (fun _=>trivial) (fun bk1=>(TL.stW 1 4 [_,_,_,_] rfl rfl rfl rfl rfl rfl zaq rfl rfl trivial (xai rfl (dA (xf 1 zaV rfl (xli 1 zaf rfl rfl (xai rfl (dR ?_)))))))))
 refine FQ.ret1 (v:=(.int _ _)) (Bs:=[A (MemLike.ld σ c)]) [0] rfl rfl rfl ⟨rfl,trivial⟩ ?_
 exact ⟨rfl,rfl⟩
theorem zcD {S:Type} [MemLike S] {mt:TypeId} {mv:Value} {A:S→Assn} (hM:MemI Tryz.prog mt mv A) {l:Lay} (hl:l.Ok) {p:Pen} {σ:S} {x f:Int}:FnD Tryz.prog 147 [zaW l mt mv p,.int .i64 x,.int .i64 f] [A σ] (.int .i64 (tget l σ x f)) [A (ze3 l σ x f)]:=by
 refine Fn.enter (Tryz.func147) rfl rfl (fun w0 R=>?_)
 refine sA (xB 1 rfl (fun bk1=>(xai rfl (dS (TC.draw [(0,true),(1,true),(2,true),(3,true),(4,true),(5,true),(7,true),(8,true),(6,false),(9,false),(10,true),(11,true)] [1] fc_m (by kernel_rfl) (xf 3 zaU rfl (xlc 1 zbj rfl rfl (xf 0 zax rfl (xL3 1 zaa rfl rfl ?_)))))))))
 refine xmi rfl (xmi rfl (TL.ncI rfl rfl rfl (xmc rfl (TL.callD [] [] (zaP hl) ⟨rfl,rfl,rfl,trivial⟩ trivial zbH rfl rfl rfl rfl rfl (kL1 rfl trivial) (TL.mload 0 hM rfl rfl rfl rfl rfl (kL1 rfl trivial) (TL.conv _ rfl zdG za1 (rfl) rfl rfl (xai rfl (dR ?_))))))))
 refine FQ.ret1 (v:=(.int _ _)) (Bs:=[A _]) [0] rfl rfl rfl ⟨rfl,trivial⟩ ?_
 exact ⟨rfl,rfl⟩
theorem zhb {S:Type} [MemLike S] {mt:TypeId} {mv:Value} {A:S→Assn} (hM:MemI Tryz.prog mt mv A) {l:Lay} (hl:l.Ok) {p:Pen} {σ:S} {x f v:Int}:FnD Tryz.prog 150 [zaW l mt mv p,.int .i64 x,.int .i64 f,.int .i64 v] [A σ] (.tuple #[]) [A (tput l σ x f v)]:=by
 refine Fn.enter (Tryz.func150) rfl rfl (fun w0 R=>?_)
 refine sA (xB 1 rfl (fun bk1=>(TL.done (TQ.then (TC.draw [(0,true),(1,true),(2,true),(3,true),(4,true),(5,true),(7,true),(8,true),(9,true),(10,true),(6,false),(11,false)] [1] fc_m (by kernel_rfl) (xf 3 zaU rfl (xlc 1 zbj rfl rfl (xf 0 zax rfl (xL3 1 zaa rfl rfl ?_)))))))))
 refine xmi rfl (xmi rfl (xmi rfl (TL.conv _ rfl zeR za0 (rfl) rfl rfl (TL.ncI rfl rfl rfl (xmc rfl (TL.callD [] [] (zaP hl) ⟨rfl,rfl,rfl,trivial⟩ trivial zbH rfl rfl rfl rfl rfl (kL1 rfl trivial) (TL.mstore 0 hM rfl rfl rfl (by first | exact zet _ | exact zcu _ _ | exact MemLike.rng _ _ | decide | assumption) rfl rfl rfl (kL1 rfl trivial) (TL.done ?_))))))))
 refine FQ.end0 (Bs:=[A _]) [0] rfl rfl ⟨rfl,trivial⟩ ?_
 exact ⟨rfl,rfl⟩
theorem zjN {mt:TypeId} {mv:Value} {l:Lay} (hl:l.Ok) {p:Pen} {x:Int}:FnD Tryz.prog 146 [zaW l mt mv p,.int .i64 x] [] (.bool (zb7 l x)) []:=by
 refine Fn.enter (Tryz.func146) rfl rfl (fun w0 R=>?_)
 refine sA (xB 0 rfl (fun bk0=>(xaf rfl (dA (xf 0 zax rfl (xL3 0 zaa rfl rfl (xmi rfl (TL.callD [] [] (zei hl) ⟨rfl,rfl,trivial⟩ trivial zgk rfl rfl rfl rfl rfl trivial (xmu rfl ?_)))))))))
 refine TL.ext (.agg _) rfl rfl rfl rfl (TL.ext (.bool _) rfl rfl rfl rfl (TL.alloc 1 (cs:=#[.bool false,.int .i64 0,.int .i64 0,.int .i64 0,.int .i64 0]) zdE rfl rfl rfl (fun _=>trivial) (fun bk1=>(TL.stW 1 5 [_,_,_,_,_] rfl rfl rfl rfl rfl rfl zbz rfl rfl trivial (xab rfl (dA (xf 1 zdV rfl (xli 1 zaf rfl rfl (TL.eqlV rfl rfl rfl rfl ?_)))))))))
 refine xab rfl (dR ?_)
 refine FQ.ret1 (v:=(.bool _)) (Bs:=[]) [] rfl rfl rfl trivial ?_
 exact ⟨rfl,rfl⟩
theorem zc9 {S:Type} [MemLike S] {mt:TypeId} {mv:Value} {A:S→Assn} (hM:MemI Tryz.prog mt mv A) {l:Lay} (hl:l.Ok) {p:Pen} {σ:S} {x:Int}:FnD Tryz.prog 119 [zaW l mt mv p,.int .i64 x] [A σ] (.int .i64 (parent l σ x)) [A (zcZ l σ x)]:=by
 refine Fn.enter (Tryz.func119) rfl rfl (fun w0 R=>?_)
 refine sA (xB 1 rfl (fun bk1=>(xai rfl (dB (xL6 1 zab rfl rfl (xmi rfl (TL.callD [] [] (zjN hl) ⟨rfl,rfl,trivial⟩ trivial zmT rfl rfl rfl rfl rfl trivial (TL.cases rfl (fun q1=>?_) (fun q1=>?_)))))))))
 refine TL.done (TQ.then (TC.condT rfl (TC.seq (TC.draw [(0,true),(1,true),(2,true),(3,true),(4,true),(5,false),(6,false),(7,true)] [1] fc_m (by kernel_rfl) (xf 3 zaU rfl (xlc 1 zbj rfl rfl (xf 0 zax rfl (xL3 1 zaa rfl rfl ?_))))))))
 refine xmi rfl (TL.callD [] [] (zaP hl) ⟨rfl,rfl,rfl,trivial⟩ trivial zbH rfl rfl rfl rfl rfl (kL1 rfl trivial) (TL.callD [0] [0] (zqW hM) ⟨rfl,rfl,trivial⟩ ⟨rfl,trivial⟩ zqt rfl rfl rfl rfl rfl (kL1 rfl trivial) (xai rfl (dRR ?_))))
 refine FQ.ret1 (v:=(.int _ _)) (Bs:=[A _]) [0] rfl rfl rfl ⟨rfl,trivial⟩ ?_
 exact ⟨(by simp only [parent, *,if_true,Bool.false_eq_true,if_false]),rfl⟩
 refine dF rfl (xL6 1 zab rfl rfl (xmi rfl (TL.callD [0] [0] (zcD hM hl) ⟨rfl,rfl,rfl,trivial⟩ ⟨rfl,trivial⟩ zcQ rfl rfl rfl rfl rfl trivial (xai rfl (dR ?_)))))
 refine FQ.ret1 (v:=(.int _ _)) (Bs:=[A _]) [0] rfl rfl rfl ⟨rfl,trivial⟩ ?_
 exact ⟨(by simp only [parent, *,if_true,Bool.false_eq_true,if_false]),rfl⟩
theorem zf6 {S:Type} [MemLike S] {mt:TypeId} {mv:Value} {A:S→Assn} (hM:MemI Tryz.prog mt mv A) {l:Lay} (hl:l.Ok) {p:Pen} {σ:S} {x q:Int}:FnD Tryz.prog 151 [zaW l mt mv p,.int .i64 x,.int .i64 q] [A σ] (.tuple #[]) [A (hang l p σ x q)]:=by
 refine Fn.enter (Tryz.func151) rfl rfl (fun w0 R=>?_)
 refine sA (xB 1 rfl (fun bk1=>(dK (sA (xmi rfl (TL.eql rfl rfl rfl rfl (fun q1=>?_) (fun q1=>?_)))))))
 refine xat rfl (TL.done (TQ.then (TC.condT rfl (TC.skip (TQ.inBlock ?_)))))
 refine FQ.end0 (Bs:=[A _]) [0] rfl rfl ⟨rfl,trivial⟩ ?_
 first | exact ⟨rfl,(by simp only [hang, *,if_true,Bool.false_eq_true,if_false])⟩ | exact ⟨rfl,(by simp only [hang]; rw [if_pos (by assumption)])⟩
 refine xaf rfl (TL.done (TQ.then (TC.condF rfl (sA (xL6 1 zab rfl rfl (xmi rfl (TL.callD [] [] (zjN hl) ⟨rfl,rfl,trivial⟩ trivial zmT rfl rfl rfl rfl rfl trivial (TL.cases rfl (fun q2=>?_) (fun q2=>?_)))))))))
 refine xat rfl (TL.done (TQ.then (TC.condT rfl (TC.draw [(0,true),(1,true),(2,true),(3,true),(4,true),(5,true),(6,true),(8,true),(7,false),(9,false)] [1] fc_m (by kernel_rfl) (xf 4 zg2 rfl (xL2 1 zbB rfl rfl (xf 3 zaU rfl (xlc 1 zbj rfl rfl ?_))))))))
 refine xf 0 zax rfl (xL3 1 zaa rfl rfl (xmi rfl (xmi rfl (TL.callD [] [] (zaP hl) ⟨rfl,rfl,rfl,trivial⟩ trivial zbH rfl rfl rfl rfl rfl (kL1 rfl trivial) (TL.callD [0] [0] (znK hM) ⟨rfl,rfl,rfl,rfl,trivial⟩ ⟨rfl,trivial⟩ zqu rfl rfl rfl rfl rfl (kL1 rfl trivial) (TL.done (TQ.inBlock ?_)))))))
 refine FQ.end0 (Bs:=[A _]) [0] rfl rfl ⟨rfl,trivial⟩ ?_
 first | exact ⟨rfl,(by simp only [hang, *,if_true,Bool.false_eq_true,if_false])⟩ | exact ⟨rfl,(by simp only [hang]; rw [if_pos (by assumption)])⟩
 refine xaf rfl (TL.done (TQ.then (TC.condF rfl (TC.region (xL6 1 zab rfl rfl (xmi rfl (xmi rfl (TL.callD [0] [0] (zhb hM hl) ⟨rfl,rfl,rfl,rfl,trivial⟩ ⟨rfl,trivial⟩ zhM rfl rfl rfl rfl rfl trivial ?_))))))))
 refine TL.done (TQ.inBlock ?_)
 refine FQ.end0 (Bs:=[A _]) [0] rfl rfl ⟨rfl,trivial⟩ ?_
 first | exact ⟨rfl,(by simp only [hang, *,if_true,Bool.false_eq_true,if_false])⟩ | exact ⟨rfl,(by simp only [hang]; rw [if_pos (by assumption)])⟩
theorem zfN {S:Type} [MemLike S] {mt:TypeId} {mv:Value} {A:S→Assn} (hM:MemI Tryz.prog mt mv A) {l:Lay} (hl:l.Ok) {p:Pen} {σ:S} {x:Int}:FnD Tryz.prog 195 [zaW l mt mv p,.int .i64 x] [A σ] (.int .u64 (tsum l σ x)) [A (zb6 l σ x)]:=by
 refine Fn.enter (Tryz.func195) rfl rfl (fun w0 R=>?_)
 refine sA (xB 1 rfl (fun bk1=>(xai rfl (dB (xmi rfl (TL.eql rfl rfl rfl rfl (fun q1=>?_) (fun q1=>?_)))))))
 refine dT rfl (xai rfl (dRR ?_))
 refine FQ.ret1 (v:=(.int _ _)) (Bs:=[A _]) [0] rfl rfl rfl ⟨rfl,trivial⟩ ?_
 first | exact ⟨(by simp only [tsum]; rw [if_pos (by assumption)]),(by simp only [zb6]; rw [if_pos (by assumption)])⟩ | exact ⟨(by simp only [tsum]; rw [if_neg (by assumption)]),(by simp only [zb6]; rw [if_neg (by assumption)])⟩
 refine TL.done (TQ.then (TC.condF rfl (TC.skip (TQ.then (TC.seq (TC.draw [(0,true),(1,true),(2,true),(3,true),(4,true),(6,true),(7,true),(5,false),(8,false),(9,true)] [1] fc_m (by kernel_rfl) (xf 3 zaU rfl (xlc 1 zbj rfl rfl ?_))))))))
 refine xf 0 zax rfl (xL3 1 zaa rfl rfl (xmi rfl (TL.ncI rfl rfl rfl (xmc rfl (TL.callD [] [] (zaP hl) ⟨rfl,rfl,rfl,trivial⟩ trivial zbH rfl rfl rfl rfl rfl (kL1 rfl trivial) (TL.mload 0 hM rfl rfl rfl rfl rfl (kL1 rfl trivial) (xai rfl (dR ?_))))))))
 refine FQ.ret1 (v:=(.int _ _)) (Bs:=[A _]) [0] rfl rfl rfl ⟨rfl,trivial⟩ ?_
 first | exact ⟨(by simp only [tsum]; rw [if_pos (by assumption)]),(by simp only [zb6]; rw [if_pos (by assumption)])⟩ | exact ⟨(by simp only [tsum]; rw [if_neg (by assumption)]),(by simp only [zb6]; rw [if_neg (by assumption)])⟩
theorem znh {v:Int}:FnD Tryz.prog 196 [.int .u64 v] [] (.int .u64 (zkm v)) []:=by
 refine Fn.enter (Tryz.func196) rfl rfl (fun w0 R=>?_)
 refine sA (xai rfl (dA (xmi rfl (TL.and _ rfl rfl rfl rfl rfl (xai rfl (dR ?_))))))
 refine FQ.ret1 (v:=(.int _ _)) (Bs:=[]) [] rfl rfl rfl trivial ?_
 exact ⟨rfl,rfl⟩
theorem zl0 {mt:TypeId} {mv:Value} {l:Lay} (hl:l.Ok) {p:Pen} {x m:Int}:FnD Tryz.prog 152 [zaW l mt mv p,.int .i64 x,.int .u64 m] [] (.int .u64 (zd4 l x m)) []:=by
 refine Fn.enter (Tryz.func152) rfl rfl (fun w0 R=>?_)
 refine sA (xB 0 rfl (fun bk0=>(xai rfl (dA (xmi rfl (TL.shl _ rfl rfl (by decide) rfl rfl rfl (TL.or _ rfl rfl rfl rfl rfl (xmi rfl (TL.shl _ rfl rfl (by decide) rfl rfl rfl ?_)))))))))
 refine TL.or _ rfl rfl rfl rfl rfl (xai rfl (dB (xf 0 zax rfl (xL3 0 zaa rfl rfl (xmi rfl (TL.callD [] [] (zei hl) ⟨rfl,rfl,trivial⟩ trivial zgk rfl rfl rfl rfl rfl trivial (xmu rfl (TL.ext (.agg _) rfl rfl rfl rfl ?_))))))))
 refine TL.ext (.bool _) rfl rfl rfl rfl (TL.alloc 1 (cs:=#[.bool false,.int .i64 0,.int .i64 0,.int .i64 0,.int .i64 0]) zdE rfl rfl rfl (fun _=>trivial) (fun bk1=>(TL.stW 1 5 [_,_,_,_,_] rfl rfl rfl rfl rfl rfl zbz rfl rfl trivial (xab rfl (dA (xf 0 zgX rfl (xlb 1 zb3 rfl rfl (TL.not _ _ rfl rfl rfl rfl (TL.done ?_)))))))))
 refine TQ.then (TC.cond rfl (fun q1=>?_) (fun q1=>?_))
 refine TC.region (xmi rfl (TL.or _ rfl rfl rfl rfl rfl (xai rfl (dA (xmi rfl (xai rfl (dR ?_)))))))
 refine FQ.ret1 (v:=(.int _ _)) (Bs:=[]) [] rfl rfl rfl trivial ?_
 first | exact ⟨(by have q:(l.node x).1.arc=false:=(by simpa using ‹(!(l.node x).1.arc)=true›); simp only [zd4,q,Bool.false_eq_true,if_false]; rfl),rfl⟩ | exact ⟨(by have q:(l.node x).1.arc=true:=(by simpa using ‹(!(l.node x).1.arc)=false›); simp only [zd4,q,if_true]; rfl),rfl⟩
 refine TC.skip (TQ.then (sA (xmi rfl (xai rfl (dR ?_)))))
 refine FQ.ret1 (v:=(.int _ _)) (Bs:=[]) [] rfl rfl rfl trivial ?_
 first | exact ⟨(by have q:(l.node x).1.arc=false:=(by simpa using ‹(!(l.node x).1.arc)=true›); simp only [zd4,q,Bool.false_eq_true,if_false]; rfl),rfl⟩ | exact ⟨(by have q:(l.node x).1.arc=true:=(by simpa using ‹(!(l.node x).1.arc)=false›); simp only [zd4,q,if_true]; rfl),rfl⟩
theorem zey {S:Type} [MemLike S] {mt:TypeId} {mv:Value} {A:S→Assn} (hM:MemI Tryz.prog mt mv A) {l:Lay} (hl:l.Ok) {p:Pen} {σ:S} {x m:Int}:FnD Tryz.prog 187 [zaW l mt mv p,.int .i64 x,.int .u64 m] [A σ] (.tuple #[]) [A (zfX l σ x m)]:=by
 refine Fn.enter (Tryz.func187) rfl rfl (fun w0 R=>?_)
 refine sA (xB 1 rfl (fun bk1=>(dA (xL6 1 zab rfl rfl (xmi rfl (xmi rfl (TL.callD [] [] (zl0 hl) ⟨rfl,rfl,rfl,trivial⟩ trivial zmR rfl rfl rfl rfl rfl trivial (xai rfl (dB ?_)))))))))
 refine TL.bldA [.int .i64 0,.int .i64 0] [(.int _ _),(.int _ _)] [_,_] zp0 zeS ⟨rfl,rfl,trivial⟩ ⟨rfl,rfl⟩ rfl rfl (xmi rfl (dK (TC.loopK (X:=Nat) [1,3,14] [1] (fun i=>[(6,.int .u64 (zc7 l σ x m i).1),(15,.int .i64 (i:Int))]) (fun i=>[(0,A (zc7 l σ x m i).2)]) (fun i=>i≤2) (fun i=>2 - i) (0) (by decide) ⟨rfl,rfl,trivial⟩ ⟨rfl,trivial⟩ (fun i hI=>(TC.sub (env':=[(6,_),(15,_),(1,_),(3,_),(14,_)]) (L':=[(0,_),(1,_)]) ⟨rfl,rfl,rfl,rfl,rfl,trivial⟩ ⟨rfl,rfl,trivial⟩ (sA (TL.lss rfl rfl rfl rfl (fun q1=>?_) (fun q1=>?_))))))))
 refine dS (TC.condT rfl (TC.skip (TQ.then (TC.seq (TC.block (sA (TL.ixA (.int .i64 (3+(i:Int))) rfl rfl zeS zaf (by omega) (by omega) (by have:i=0∨i=1:=(by omega); rcases this with rfl | rfl<;>rfl) rfl rfl (xai rfl ?_))))))))
 refine dS (TC.draw [(0,true),(1,true),(2,true),(3,true),(4,false),(5,false),(6,true)] [1] fc_m (by kernel_rfl) (xL6 1 zab rfl rfl (xL6 1 zab rfl rfl (xmi rfl (xmi rfl (TL.callD [0] [0] (zcD hM hl) ⟨rfl,rfl,rfl,trivial⟩ ⟨rfl,trivial⟩ zcQ rfl rfl rfl rfl rfl (kL1 rfl trivial) (TL.callD [0] [0] (zfN hM hl) ⟨rfl,rfl,trivial⟩ ⟨rfl,trivial⟩ zgl rfl rfl rfl rfl rfl (kL1 rfl trivial) (xai rfl ?_))))))))
 refine dG (xmi rfl (xmi rfl (TL.callD [] [] znh ⟨rfl,trivial⟩ trivial zp5 rfl rfl rfl rfl rfl trivial (TL.add _ rfl rfl (rfl) rfl rfl (xmi rfl (TL.shr _ rfl rfl (by decide) rfl rfl rfl (TL.and _ rfl rfl rfl rfl rfl (TL.shl _ rfl rfl (by decide) rfl rfl rfl ?_))))))))
 refine TL.or _ rfl rfl rfl rfl rfl (xai rfl (dI (TL.add _ rfl rfl (wr64 (by omega)) rfl rfl (xmi rfl (TL.done (TQ.roundK (i+1) ⟨by omega,by omega⟩ ⟨rfl,rfl,trivial⟩ ⟨rfl,trivial⟩ (kE3 rfl rfl rfl trivial) (kL1 rfl trivial)))))))
 refine dS (TC.condF rfl (TC.exit (TQ.thenExit (TQ.thenExit (TQ.blockHere (TQ.then (TC.draw [(0,true),(1,true),(2,true),(3,true),(4,true),(6,true),(7,true),(8,true),(5,false),(9,false)] [1] fc_m (by kernel_rfl) (xf 3 zaU rfl ?_))))))))
 refine xlc 1 zbj rfl rfl (xf 0 zax rfl (xL3 1 zaa rfl rfl (xmi rfl (xmi rfl (TL.ncI rfl rfl rfl (xmc rfl (TL.callD [] [] (zaP hl) ⟨rfl,rfl,rfl,trivial⟩ trivial zbH rfl rfl rfl rfl rfl (kL1 rfl trivial) (TL.mstore 0 hM rfl rfl rfl (zkH _ _ _ _ _) rfl rfl rfl (kL1 rfl trivial) ?_))))))))
 refine TL.done ?_
 refine FQ.end0 (Bs:=[A _]) [0] rfl rfl ⟨rfl,trivial⟩ ?_
 obtain rfl:i=2:=by omega
 refine ⟨rfl,?_⟩
 unfold zfX
 rfl
theorem zdU {S:Type} [MemLike S] {mt:TypeId} {mv:Value} {A:S→Assn} (hM:MemI Tryz.prog mt mv A) {l:Lay} (hl:l.Ok) {p:Pen} {σ:S} {x:Int}:FnD Tryz.prog 186 [zaW l mt mv p,.int .i64 x] [A σ] (.int .u64 (zf2 l σ x)) [A (zfr l σ x)]:=by
 refine Fn.enter (Tryz.func186) rfl rfl (fun w0 R=>?_)
 refine sA (xB 1 rfl (fun bk1=>(xai rfl (dA (xL6 1 zab rfl rfl (xmi rfl (TL.callD [0] [0] (zfN hM hl) ⟨rfl,rfl,trivial⟩ ⟨rfl,trivial⟩ zgl rfl rfl rfl rfl rfl trivial (TL.shr _ rfl rfl (by decide) rfl rfl rfl (TL.and _ rfl rfl rfl rfl rfl ?_)))))))))
 refine xai rfl (dR ?_)
 refine FQ.ret1 (v:=(.int _ _)) (Bs:=[A _]) [0] rfl rfl rfl ⟨rfl,trivial⟩ ?_
 exact ⟨rfl,rfl⟩
theorem zeY {S:Type} [MemLike S] {mt:TypeId} {mv:Value} {A:S→Assn} (hM:MemI Tryz.prog mt mv A) {l:Lay} (hl:l.Ok) {p:Pen} {σ:S} {x:Int}:FnD Tryz.prog 123 [zaW l mt mv p,.int .i64 x] [A σ] (.tuple #[]) [A (alone l p σ x)]:=by
 refine Fn.enter (Tryz.func123) rfl rfl (fun w0 R=>?_)
 refine sA (xB 1 rfl (fun bk1=>(dA (xL6 1 zab rfl rfl (xmi rfl (TL.callD [0] [0] (zhb hM hl) ⟨rfl,rfl,rfl,rfl,trivial⟩ ⟨rfl,trivial⟩ zhM rfl rfl rfl rfl rfl trivial (dA (xL6 1 zab rfl rfl (xmi rfl ?_)))))))))
 refine TL.callD [0] [0] (zhb hM hl) ⟨rfl,rfl,rfl,rfl,trivial⟩ ⟨rfl,trivial⟩ zhM rfl rfl rfl rfl rfl trivial (dA (xL6 1 zab rfl rfl (xmi rfl (TL.callD [0] [0] (zf6 hM hl) ⟨rfl,rfl,rfl,trivial⟩ ⟨rfl,trivial⟩ zgp rfl rfl rfl rfl rfl trivial (TL.done (TQ.then (TC.draw [(0,true),(1,true),(2,true),(3,true),(4,true),(6,true),(7,true),(9,true),(10,true),(5,false),(8,false),(11,false)] [1] fc_m (by kernel_rfl) (xf 3 zaU rfl ?_))))))))
 refine xlc 1 zbj rfl rfl (xf 0 zax rfl (xL3 1 zaa rfl rfl (xmi rfl (xL6 1 zab rfl rfl (xmi rfl (TL.ncI rfl rfl rfl (xmc rfl (TL.callD [] [] (zaP hl) ⟨rfl,rfl,rfl,trivial⟩ trivial zbH rfl rfl rfl rfl rfl (kL1 rfl trivial) ?_))))))))
 refine TL.callD [] [] (zl0 hl) ⟨rfl,rfl,rfl,trivial⟩ trivial zmR rfl rfl rfl rfl rfl (kL1 rfl trivial) (TL.mstore 0 hM rfl rfl rfl (by first | exact zj2 _ _ _) rfl rfl rfl (kL1 rfl trivial) (TL.done ?_))
 refine FQ.end0 (Bs:=[A _]) [0] rfl rfl ⟨rfl,trivial⟩ ?_
 exact ⟨rfl,rfl⟩
theorem zhe {S:Type} [MemLike S] {mt:TypeId} {mv:Value} {A:S→Assn} (hM:MemI Tryz.prog mt mv A) {l:Lay} (hl:l.Ok) {p:Pen} {σ:S} {x:Int}:FnD Tryz.prog 188 [zaW l mt mv p,.int .i64 x] [A σ] (.int .i64 (size l σ x)) [A (zb6 l σ x)]:=by
 refine Fn.enter (Tryz.func188) rfl rfl (fun w0 R=>?_)
 refine sA (xB 1 rfl (fun bk1=>(xai rfl (dA (xL6 1 zab rfl rfl (xmi rfl (TL.callD [0] [0] (zfN hM hl) ⟨rfl,rfl,trivial⟩ ⟨rfl,trivial⟩ zgl rfl rfl rfl rfl rfl trivial (TL.and _ rfl rfl rfl rfl rfl (TL.conv _ rfl zdG za1 (rfl) rfl rfl ?_)))))))))
 refine xai rfl (dR ?_)
 refine FQ.ret1 (v:=(.int _ _)) (Bs:=[A _]) [0] rfl rfl rfl ⟨rfl,trivial⟩ ?_
 exact ⟨rfl,rfl⟩
theorem znM {S:Type} [MemLike S] {mt:TypeId} {mv:Value} {A:S→Assn} (hM:MemI Tryz.prog mt mv A) {l:Lay} (hl:l.Ok) {p:Pen} {σ:S} {x:Int}:FnD Tryz.prog 190 [zaW l mt mv p,.int .i64 x] [A σ] (.int .i64 (verts l σ x)) [A (zb6 l σ x)]:=by
 refine Fn.enter (Tryz.func190) rfl rfl (fun w0 R=>?_)
 refine sA (xB 1 rfl (fun bk1=>(xai rfl (dA (xL6 1 zab rfl rfl (xmi rfl (TL.callD [0] [0] (zfN hM hl) ⟨rfl,rfl,trivial⟩ ⟨rfl,trivial⟩ zgl rfl rfl rfl rfl rfl trivial (TL.shr _ rfl rfl (by decide) rfl rfl rfl (TL.and _ rfl rfl rfl rfl rfl ?_)))))))))
 refine TL.conv _ rfl zdG za1 (rfl) rfl rfl (xai rfl (dR ?_))
 refine FQ.ret1 (v:=(.int _ _)) (Bs:=[A _]) [0] rfl rfl rfl ⟨rfl,trivial⟩ ?_
 exact ⟨rfl,rfl⟩
theorem zef {S:Type} [MemLike S] {mt:TypeId} {mv:Value} {A:S→Assn} (hM:MemI Tryz.prog mt mv A) {l:Lay} (hl:l.Ok) {p:Pen} {σ:S} {x r:Int} {k:Nat} {σ2:S} (h:root l k σ x=some (r,σ2)):FnD Tryz.prog 86 [zaW l mt mv p,.int .i64 x] [A σ] (.int .i64 r) [A σ2]:=by
 refine Fn.enter (Tryz.func86) rfl rfl (fun w0 R=>?_)
 refine sA (xB 1 rfl (fun bk1=>(xai rfl (dS (TC.block (TC.loopK (X:=Nat×S×Int) [2,4] [1] (fun y=>[(1,.int .i64 y.2.2)]) (fun y=>[(0,A y.2.1)]) (fun y=>root l y.1 y.2.1 y.2.2=some (r,σ2)) (fun y=>y.1) ((k,σ,x)) h ⟨rfl,trivial⟩ ⟨rfl,trivial⟩ (fun y hI=>?_)))))))
 obtain ⟨k,σ1,z⟩:=y
 rcases k with _ | k
 ·simp [root] at hI
 dsimp only at hI
 refine TC.sub (env':=[(1,_),(2,_),(4,_)]) (L':=[(0,_),(1,_)]) ⟨rfl,rfl,rfl,trivial⟩ ⟨rfl,rfl,trivial⟩ (sB (xmi rfl (TL.neq rfl rfl rfl rfl (fun q1=>?_) (fun q1=>?_))))
 refine TL.done (TQ.then (TC.condT rfl (TC.skip (TQ.then (TC.block (sA (xL6 1 zab rfl rfl (xmi rfl ?_))))))))
 refine TL.callD [0] [0] (zc9 hM hl) ⟨rfl,rfl,trivial⟩ ⟨rfl,trivial⟩ zfl rfl rfl rfl rfl rfl trivial (xai rfl (dB (xmi rfl (TL.eql rfl rfl rfl rfl (fun q2=>?_) (fun q2=>?_)))))
 refine TL.done (TQ.then (TC.condT rfl (TC.exit (TQ.thenExit (TQ.blockOut rfl (TQ.thenExit (TQ.blockHere (TQ.then ?_))))))))
 refine sA (xmi rfl (xai rfl (dR ?_)))
 refine FQ.ret1 (v:=(.int _ _)) (Bs:=[A _]) [0] rfl rfl rfl ⟨rfl,trivial⟩ ?_
 rw [root,if_pos q1,if_pos q2] at hI; cases hI; exact ⟨rfl,rfl⟩
 refine TL.done (TQ.then (TC.condF rfl (TC.skip (TQ.then (TC.region (xmi rfl (xai rfl (TL.done ?_))))))))
 refine TQ.inBlock (TQ.roundK ((k,zcZ l σ1 z,parent l σ1 z)) ⟨(by rw [root,if_pos q1,if_neg q2] at hI; exact hI),Nat.lt_succ_self _⟩ ⟨rfl,trivial⟩ ⟨rfl,trivial⟩ (kE2 rfl rfl trivial) (kL1 rfl trivial))
 refine dE rfl (sA (xmi rfl (xai rfl (dR ?_))))
 refine FQ.ret1 (v:=(.int _ _)) (Bs:=[A _]) [0] rfl rfl rfl ⟨rfl,trivial⟩ ?_
 rw [root,if_neg q1] at hI; cases hI; exact ⟨rfl,rfl⟩
theorem zhz {S:Type} [MemLike S] {mt:TypeId} {mv:Value} {A:S→Assn} (hM:MemI Tryz.prog mt mv A) {l:Lay} (hl:l.Ok) {p:Pen} {σ:S} {x r:Int} {k:Nat} {σ2:S} (h:index l k σ x=some (r,σ2)):FnD Tryz.prog 175 [zaW l mt mv p,.int .i64 x] [A σ] (.int .i64 r) [A σ2]:=by
 unfold index at h
 dsimp only at h
 refine Fn.enter (Tryz.func175) rfl rfl (fun w0 R=>?_)
 refine sA (xB 1 rfl (fun bk1=>(xai rfl (dS (TC.draw [(0,true),(1,true),(2,true),(3,false),(4,false),(5,true)] [1] fc_m (by kernel_rfl) (xL6 1 zab rfl rfl (xL6 1 zab rfl rfl (xmi rfl (TL.callD [0] [0] (zcD hM hl) ⟨rfl,rfl,rfl,trivial⟩ ⟨rfl,trivial⟩ zcQ rfl rfl rfl rfl rfl (kL1 rfl trivial) ?_)))))))))
 refine TL.callD [0] [0] (zhe hM hl) ⟨rfl,rfl,trivial⟩ ⟨rfl,trivial⟩ zhJ rfl rfl rfl rfl rfl (kL1 rfl trivial) (xai rfl (dK (TC.loopK (X:=Nat×S×Int×Int) [2] [1] (fun y=>[(1,.int .i64 y.2.2.1),(5,.int .i64 y.2.2.2)]) (fun y=>[(0,A y.2.1)]) (fun y=>zcn l y.1 y.2.1 y.2.2.1 y.2.2.2=some (r,σ2)) (fun y=>y.1) ((k,_,_,_)) h ⟨rfl,rfl,trivial⟩ ⟨rfl,trivial⟩ (fun y hI=>?_))))
 obtain ⟨k,σ1,z,n⟩:=y
 rcases k with _ | k
 ·simp [zcn] at hI
 dsimp only at hI
 refine TC.sub (env':=[(1,_),(5,_),(2,_)]) (L':=[(0,_),(1,_)]) ⟨rfl,rfl,rfl,trivial⟩ ⟨rfl,rfl,trivial⟩ (TC.block (sA (xL6 1 zab rfl rfl (xmi rfl (TL.callD [0] [0] (zc9 hM hl) ⟨rfl,rfl,trivial⟩ ⟨rfl,trivial⟩ zfl rfl rfl rfl rfl rfl trivial (xai rfl (dB (xmi rfl ?_))))))))
 refine TL.eql rfl rfl rfl rfl (fun q1=>?_) (fun q1=>?_)
 refine dT rfl (xmi rfl (xai rfl (dRR (TQ.blockRet (TQ.thenRet (TQ.blockRet ?_))))))
 refine FQ.ret1 (v:=(.int _ _)) (Bs:=[A _]) [0] rfl rfl rfl ⟨rfl,trivial⟩ ?_
 rw [zcn,if_pos q1] at hI; cases hI; exact ⟨rfl,rfl⟩
 refine TL.done (TQ.then (TC.condF rfl (TC.skip (TQ.then (sB (xL6 1 zab rfl rfl (xmi rfl (TL.callD [0] [0] (zcD hM hl) ⟨rfl,rfl,rfl,trivial⟩ ⟨rfl,trivial⟩ zcQ rfl rfl rfl rfl rfl trivial ?_))))))))
 refine xmi rfl (TL.eql rfl rfl rfl rfl (fun q2=>?_) (fun q2=>?_))
 refine TL.done (TQ.then (TC.condT rfl (TC.draw [(0,true),(1,true),(2,true),(3,true),(4,false),(5,false),(6,true),(7,true),(8,true)] [1] fc_m (by kernel_rfl) (xmi rfl (xL6 1 zab rfl rfl (xL6 1 zab rfl rfl (xmi rfl (TL.callD [0] [0] (zcD hM hl) ⟨rfl,rfl,rfl,trivial⟩ ⟨rfl,trivial⟩ zcQ rfl rfl rfl rfl rfl (kL1 rfl trivial) ?_))))))))
 refine TL.callD [0] [0] (zhe hM hl) ⟨rfl,rfl,trivial⟩ ⟨rfl,trivial⟩ zhJ rfl rfl rfl rfl rfl (kL1 rfl trivial) (TL.add _ rfl rfl (rfl) rfl rfl (TL.add _ rfl rfl (rfl) rfl rfl (xai rfl (dG (xmi rfl (xai rfl (TL.done (TQ.inBlock ?_))))))))
 refine TQ.roundK ((k,_,_,_)) ⟨(by rw [zcn,if_neg q1] at hI; dsimp only at hI; rw [if_pos q2] at hI; exact hI),Nat.lt_succ_self _⟩ ⟨rfl,rfl,trivial⟩ ⟨rfl,trivial⟩ (kE1 rfl trivial) (kL1 rfl trivial)
 refine TL.done (TQ.then (TC.condF rfl (TC.skip (TQ.then (TC.region (xmi rfl (xai rfl (TL.done ?_))))))))
 refine TQ.inBlock (TQ.roundK ((k,_,_,_)) ⟨(by rw [zcn,if_neg q1] at hI; dsimp only at hI; rw [if_neg q2] at hI; exact hI),Nat.lt_succ_self _⟩ ⟨rfl,rfl,trivial⟩ ⟨rfl,trivial⟩ (kE1 rfl trivial) (kL1 rfl trivial))
theorem zjO {S:Type} [MemLike S] {mt:TypeId} {mv:Value} {A:S→Assn} (hM:MemI Tryz.prog mt mv A) {l:Lay} (hl:l.Ok) {p:Pen} {σ:S} {x f c:Int}:FnD Tryz.prog 194 [zaW l mt mv p,.int .i64 x,.int .i64 f,.int .i64 c] [A σ] (.tuple #[]) [A (setC l p σ x f c)]:=by
 refine Fn.enter (Tryz.func194) rfl rfl (fun w0 R=>?_)
 refine sA (xB 1 rfl (fun bk1=>(dA (xL6 1 zab rfl rfl (xmi rfl (xmi rfl (xmi rfl (TL.callD [0] [0] (zhb hM hl) ⟨rfl,rfl,rfl,rfl,trivial⟩ ⟨rfl,trivial⟩ zhM rfl rfl rfl rfl rfl trivial (dA ?_)))))))))
 refine xL6 1 zab rfl rfl (xmi rfl (xmi rfl (TL.callD [0] [0] (zf6 hM hl) ⟨rfl,rfl,rfl,trivial⟩ ⟨rfl,trivial⟩ zgp rfl rfl rfl rfl rfl trivial (TL.done (TQ.then (TC.draw [(0,true),(1,true),(2,true),(3,true),(4,false),(5,false)] [1] fc_m (by kernel_rfl) (xL6 1 zab rfl rfl (xmi rfl ?_))))))))
 refine xL6 1 zab rfl rfl (xmi rfl (TL.callD [0] [0] (zdU hM hl) ⟨rfl,rfl,trivial⟩ ⟨rfl,trivial⟩ zfh rfl rfl rfl rfl rfl (kL1 rfl trivial) (TL.callD [0] [0] (zey hM hl) ⟨rfl,rfl,rfl,trivial⟩ ⟨rfl,trivial⟩ zgm rfl rfl rfl rfl rfl (kL1 rfl trivial) (TL.done ?_))))
 refine FQ.end0 (Bs:=[A _]) [0] rfl rfl ⟨rfl,trivial⟩ ?_
 exact ⟨rfl,(by unfold setC zfr; rfl)⟩
theorem znQ {S:Type} [MemLike S] {mt:TypeId} {mv:Value} {A:S→Assn} (hM:MemI Tryz.prog mt mv A) {l:Lay} (hl:l.Ok) {p:Pen} {σ:S} {x n:Int} {r:Int×Int} {k:Nat} {σ2:S} (h:split l p k σ x n=some (r,σ2)):FnD Tryz.prog 189 [zaW l mt mv p,.int .i64 x,.int .i64 n] [A σ] (.tuple #[.int .i64 r.1,.int .i64 r.2]) [A σ2]:=by
 induction k generalizing σ x n r σ2
 case zero=>simp [split] at h
 case succ k ih =>
  refine Fn.enter (Tryz.func189) rfl rfl (fun w0 R=>?_)
  refine sA (xB 1 rfl (fun bk1=>(xai rfl (xai rfl (dB (xmi rfl (TL.eql rfl rfl rfl rfl (fun q1=>?_) (fun q1=>?_))))))))
  refine dT rfl (xai rfl (xai rfl (dRR ?_)))
  refine FQ.ret2 (v:=(.int _ _)) (x:=(.int _ _)) (Bs:=[A _]) [0] rfl rfl rfl rfl ⟨rfl,trivial⟩ ?_
  rw [split,if_pos q1] at h; cases h; exact ⟨rfl,rfl⟩
  refine dF rfl (xL6 1 zab rfl rfl (xmi rfl (TL.callD [0] [0] (zcD hM hl) ⟨rfl,rfl,rfl,trivial⟩ ⟨rfl,trivial⟩ zcQ rfl rfl rfl rfl rfl trivial (xai rfl (dA (xL6 1 zab rfl rfl (xmi rfl (TL.callD [0] [0] (zhe hM hl) ⟨rfl,rfl,trivial⟩ ⟨rfl,trivial⟩ zhJ rfl rfl rfl rfl rfl trivial ?_))))))))
  refine xai rfl (dB (xmi rfl (xmi rfl (TL.leq rfl rfl rfl rfl (fun q2=>?_) (fun q2=>?_)))))
  refine dT rfl (xL6 1 zab rfl rfl (xmi rfl (xmi rfl ?_)))
  rw [split,if_neg q1] at h
  dsimp only at h
  rw [if_pos q2] at h
  obtain ⟨⟨ab,σ3⟩,h1,h9⟩:=Option.bind_eq_some_iff.1 h
  refine TL.callD [0] [0] (ih h1) ⟨rfl,rfl,rfl,trivial⟩ ⟨rfl,trivial⟩ zju rfl rfl rfl rfl rfl trivial (xmu rfl (xei rfl rfl (xei rfl rfl (xai rfl (xai rfl (dA (xL6 1 zab rfl rfl (xmi rfl ?_))))))))
  refine xmi rfl (TL.callD [0] [0] (zjO hM hl) ⟨rfl,rfl,rfl,rfl,trivial⟩ ⟨rfl,trivial⟩ zhI rfl rfl rfl rfl rfl trivial (dA (xmi rfl (xmi rfl (xai rfl (xai rfl (dRR ?_)))))))
  refine FQ.ret2 (v:=(.int _ _)) (x:=(.int _ _)) (Bs:=[A _]) [0] rfl rfl rfl rfl ⟨rfl,trivial⟩ ?_
  cases h9; exact ⟨rfl,rfl⟩
  refine TL.done (TQ.then (TC.condF rfl (TC.skip (TQ.then (TC.seq (TC.draw [(0,true),(1,true),(2,true),(4,true),(5,true),(6,true),(7,true),(3,false),(8,false),(9,true),(10,true),(11,true),(12,true),(13,true)] [1] fc_m (by kernel_rfl) (xL6 1 zab rfl rfl (xL6 1 zab rfl rfl ?_))))))))
  refine xmi rfl (xmi rfl (xmi rfl (TL.sub _ rfl rfl (rfl) rfl rfl (TL.sub _ rfl rfl (rfl) rfl rfl (TL.callD [0] [0] (zcD hM hl) ⟨rfl,rfl,rfl,trivial⟩ ⟨rfl,trivial⟩ zcQ rfl rfl rfl rfl rfl (kL1 rfl trivial) ?_)))))
  rw [split,if_neg q1] at h
  dsimp only at h
  rw [if_neg q2] at h
  obtain ⟨⟨ab,σ3⟩,h1,h9⟩:=Option.bind_eq_some_iff.1 h
  refine TL.callD [0] [0] (ih h1) ⟨rfl,rfl,rfl,trivial⟩ ⟨rfl,trivial⟩ zju rfl rfl rfl rfl rfl (kL1 rfl trivial) (xmu rfl (xei rfl rfl (xei rfl rfl (xai rfl (xai rfl (dA (xL6 1 zab rfl rfl (xmi rfl ?_))))))))
  refine xmi rfl (TL.callD [0] [0] (zjO hM hl) ⟨rfl,rfl,rfl,rfl,trivial⟩ ⟨rfl,trivial⟩ zhI rfl rfl rfl rfl rfl trivial (dA (xmi rfl (xmi rfl (xai rfl (xai rfl (dR ?_)))))))
  refine FQ.ret2 (v:=(.int _ _)) (x:=(.int _ _)) (Bs:=[A _]) [0] rfl rfl rfl rfl ⟨rfl,trivial⟩ ?_
  cases h9; exact ⟨rfl,rfl⟩
theorem zbW {S:Type} [MemLike S] {mt:TypeId} {mv:Value} {A:S→Assn} (hM:MemI Tryz.prog mt mv A) {l:Lay} (hl:l.Ok) {p:Pen} {σ:S} {x n:Int} {r:Int×Int} {k:Nat} {σ2:S} (h:zd6 l p k σ x n=some (r,σ2)):FnD Tryz.prog 176 [zaW l mt mv p,.int .i64 x,.int .i64 n] [A σ] (.tuple #[.int .i64 r.1,.int .i64 r.2]) [A σ2]:=by
 obtain ⟨⟨ab,σ3⟩,h1,h9⟩:=Option.bind_eq_some_iff.1 h
 cases h9
 refine Fn.enter (Tryz.func176) rfl rfl (fun w0 R=>?_)
 refine sA (xB 1 rfl (fun bk1=>(xai rfl (xai rfl (dS (TC.draw [(0,true),(1,true),(2,true),(3,true),(4,true),(5,true),(6,false),(7,true),(8,false),(9,true),(10,true),(11,true),(12,true),(13,true)] [1] fc_m (by kernel_rfl) (xL6 1 zab rfl rfl (xmi rfl (xmi rfl ?_)))))))))
 refine TL.max2 rfl rfl rfl rfl (xL6 1 zab rfl rfl (xmi rfl (TL.callD [0] [0] (zhe hM hl) ⟨rfl,rfl,trivial⟩ ⟨rfl,trivial⟩ zhJ rfl rfl rfl rfl rfl (kL1 rfl trivial) (TL.min2 rfl rfl rfl rfl (TL.callD [0] [0] (znQ hM hl h1) ⟨rfl,rfl,rfl,trivial⟩ ⟨rfl,trivial⟩ zju rfl rfl rfl rfl rfl (kL1 rfl trivial) (xmu rfl (xei rfl rfl (xei rfl rfl ?_))))))))
 refine xai rfl (xai rfl (dA (xL6 1 zab rfl rfl (xmi rfl (TL.callD [0] [0] (zf6 hM hl) ⟨rfl,rfl,rfl,trivial⟩ ⟨rfl,trivial⟩ zgp rfl rfl rfl rfl rfl trivial (dA (xL6 1 zab rfl rfl (xmi rfl ?_))))))))
 refine TL.callD [0] [0] (zf6 hM hl) ⟨rfl,rfl,rfl,trivial⟩ ⟨rfl,trivial⟩ zgp rfl rfl rfl rfl rfl trivial (dA (xmi rfl (xmi rfl (xai rfl (xai rfl (dR ?_))))))
 refine FQ.ret2 (v:=(.int _ _)) (x:=(.int _ _)) (Bs:=[A _]) [0] rfl rfl rfl rfl ⟨rfl,trivial⟩ ?_
 exact ⟨rfl,rfl⟩
theorem zoG {S:Type} [MemLike S] {mt:TypeId} {mv:Value} {A:S→Assn} (hM:MemI Tryz.prog mt mv A) {l:Lay} (hl:l.Ok) {p:Pen} {σ:S} {x y:Int}:FnD Tryz.prog 193 [zaW l mt mv p,.int .i64 x,.int .i64 y] [A σ] (.bool (zfq l σ x y)) [A (zku l σ x y)]:=by
 refine Fn.enter (Tryz.func193) rfl rfl (fun w0 R=>?_)
 refine sA (xB 1 rfl (fun bk1=>(xaf rfl (dS (TC.draw [(0,true),(1,true),(2,true),(3,true),(4,true),(6,true),(7,true),(9,true),(10,true),(11,true),(12,true),(13,true),(15,true),(16,true),(5,false),(8,false),(14,false),(17,false),(18,true),(19,true)] [1] fc_m (by kernel_rfl) (xf 3 zaU rfl (xlc 1 zbj rfl rfl (xf 0 zax rfl (xL3 1 zaa rfl rfl ?_)))))))))
 refine xmi rfl (TL.ncI rfl rfl rfl (xmc rfl (xf 3 zaU rfl (xlc 1 zbj rfl rfl (xf 0 zax rfl (xL3 1 zaa rfl rfl (xmi rfl (TL.ncI rfl rfl rfl ?_))))))))
 refine xmc rfl (TL.callD [] [] (zaP hl) ⟨rfl,rfl,rfl,trivial⟩ trivial zbH rfl rfl rfl rfl rfl (kL1 rfl trivial) (TL.mload 0 hM rfl rfl rfl rfl rfl (kL1 rfl trivial) (TL.callD [] [] (zaP hl) ⟨rfl,rfl,rfl,trivial⟩ trivial zbH rfl rfl rfl rfl rfl (kL1 rfl trivial) (TL.mload 0 hM rfl rfl rfl rfl rfl (kL1 rfl trivial) (xai rfl (xai rfl (dA (xmi rfl ?_))))))))
 refine xmi rfl (TL.gtr rfl rfl rfl rfl (fun q1=>?_) (fun q1=>?_))
 refine xmt rfl (xo rfl (xo rfl (xo rfl (xo rfl (xo rfl (xo rfl (xo rfl (xo rfl ?_))))))))
 refine xpT rfl (xat rfl (dR ?_))
 refine FQ.ret1 (v:=(.bool true)) (Bs:=[A _]) [0] rfl rfl rfl ⟨rfl,trivial⟩ ?_
 first | exact ⟨(by unfold zfq; dsimp only; rw [if_pos q1]),rfl⟩ | exact ⟨(by unfold zfq; dsimp only; rw [if_neg q1,if_pos q2]),rfl⟩ | exact ⟨(by unfold zfq; dsimp only; rw [if_neg q1,if_neg q2]),rfl⟩
 refine xmf rfl (xmi rfl (xmi rfl (TL.eql rfl rfl rfl rfl (fun q2=>?_) (fun q2=>?_))))
 refine xmt rfl (xmi rfl (xmi rfl (TL.lssV rfl rfl rfl rfl (TL.pickT (.bool _) rfl rfl rfl rfl (TL.pickF (.bool _) rfl rfl rfl rfl (xab rfl (dR ?_)))))))
 refine FQ.ret1 (v:=(.bool _)) (Bs:=[A _]) [0] rfl rfl rfl ⟨rfl,trivial⟩ ?_
 first | exact ⟨(by unfold zfq; dsimp only; rw [if_pos q1]),rfl⟩ | exact ⟨(by unfold zfq; dsimp only; rw [if_neg q1,if_pos q2]),rfl⟩ | exact ⟨(by unfold zfq; dsimp only; rw [if_neg q1,if_neg q2]),rfl⟩
 refine xmf rfl (xo rfl (xo rfl (xo rfl (xpF rfl (xpF rfl (xaf rfl (dR ?_)))))))
 refine FQ.ret1 (v:=(.bool false)) (Bs:=[A _]) [0] rfl rfl rfl ⟨rfl,trivial⟩ ?_
 first | exact ⟨(by unfold zfq; dsimp only; rw [if_pos q1]),rfl⟩ | exact ⟨(by unfold zfq; dsimp only; rw [if_neg q1,if_pos q2]),rfl⟩ | exact ⟨(by unfold zfq; dsimp only; rw [if_neg q1,if_neg q2]),rfl⟩
theorem zof {S:Type} [MemLike S] {mt:TypeId} {mv:Value} {A:S→Assn} (hM:MemI Tryz.prog mt mv A) {l:Lay} (hl:l.Ok) {p:Pen} {σ:S} {a b r:Int} {k:Nat} {σ2:S} (h:merge l p k σ a b=some (r,σ2)):FnD Tryz.prog 185 [zaW l mt mv p,.int .i64 a,.int .i64 b] [A σ] (.int .i64 r) [A σ2]:=by
 induction k generalizing σ a b r σ2
 case zero=>simp [merge] at h
 case succ k ih =>
  refine Fn.enter (Tryz.func185) rfl rfl (fun w0 R=>?_)
  refine sA (xB 1 rfl (fun bk1=>(xai rfl (dS (TC.block (sA (xmi rfl (TL.eql rfl rfl rfl rfl (fun q1=>?_) (fun q1=>?_)))))))))
  refine xat rfl (dT rfl (xmi rfl (xai rfl (dR (TQ.blockRet (TQ.thenRet ?_))))))
  refine FQ.ret1 (v:=(.int _ _)) (Bs:=[A _]) [0] rfl rfl rfl ⟨rfl,trivial⟩ ?_
  rw [merge,if_pos q1] at h; cases h; exact ⟨rfl,rfl⟩
  refine xaf rfl (TL.done (TQ.then (TC.condF rfl (sA (xmi rfl (TL.eql rfl rfl rfl rfl (fun q2=>?_) (fun q2=>?_)))))))
  refine xat rfl (dT rfl (xmi rfl (xai rfl (dR (TQ.blockRet (TQ.thenRet ?_))))))
  refine FQ.ret1 (v:=(.int _ _)) (Bs:=[A _]) [0] rfl rfl rfl ⟨rfl,trivial⟩ ?_
  rw [merge,if_neg q1,if_pos q2] at h; cases h; exact ⟨rfl,rfl⟩
  refine xaf rfl (TL.done (TQ.then (TC.condF rfl (sA (xL6 1 zab rfl rfl (xmi rfl (xmi rfl (TL.callD [0] [0] (zoG hM hl) ⟨rfl,rfl,rfl,trivial⟩ ⟨rfl,trivial⟩ zp6 rfl rfl rfl rfl rfl trivial ?_))))))))
  refine TL.cases rfl (fun q3=>?_) (fun q3=>?_)
  refine xat rfl (TL.done (TQ.then (TC.condT rfl (TC.seq (TC.draw [(0,true),(1,true),(2,true),(3,true),(4,true),(6,true),(5,false),(7,false),(8,false)] [1] fc_m (by kernel_rfl) (xL6 1 zab rfl rfl (xmi rfl (xL6 1 zab rfl rfl ?_))))))))
  refine xL6 1 zab rfl rfl (xmi rfl (xmi rfl (TL.callD [0] [0] (zcD hM hl) ⟨rfl,rfl,rfl,trivial⟩ ⟨rfl,trivial⟩ zcQ rfl rfl rfl rfl rfl (kL1 rfl trivial) ?_)))
  rw [merge,if_neg q1,if_neg q2] at h
  dsimp only at h
  rw [if_pos q3] at h
  obtain ⟨⟨c,σ3⟩,h1,h9⟩:=Option.bind_eq_some_iff.1 h
  refine TL.callD [0] [0] (ih h1) ⟨rfl,rfl,rfl,trivial⟩ ⟨rfl,trivial⟩ zjv rfl rfl rfl rfl rfl (kL1 rfl trivial) (TL.callD [0] [0] (zjO hM hl) ⟨rfl,rfl,rfl,rfl,trivial⟩ ⟨rfl,trivial⟩ zhI rfl rfl rfl rfl rfl (kL1 rfl trivial) (dA (xmi rfl (xai rfl (dR (TQ.blockRet (TQ.thenRet ?_)))))))
  refine FQ.ret1 (v:=(.int _ _)) (Bs:=[A _]) [0] rfl rfl rfl ⟨rfl,trivial⟩ ?_
  cases h9; exact ⟨rfl,rfl⟩
  refine xaf rfl (TL.done (TQ.then (TC.condF rfl (TC.skip (TQ.inBlock (TQ.then (TC.seq (TC.draw [(0,true),(1,true),(2,true),(3,true),(4,true),(5,true),(6,false),(7,false),(8,false)] [1] fc_m (by kernel_rfl) ?_))))))))
  refine xL6 1 zab rfl rfl (xmi rfl (xL6 1 zab rfl rfl (xmi rfl (xL6 1 zab rfl rfl (xmi rfl (TL.callD [0] [0] (zcD hM hl) ⟨rfl,rfl,rfl,trivial⟩ ⟨rfl,trivial⟩ zcQ rfl rfl rfl rfl rfl (kL1 rfl trivial) ?_))))))
  rw [merge,if_neg q1,if_neg q2] at h
  dsimp only at h
  rw [if_neg (by rw [q3]; decide)] at h
  obtain ⟨⟨c,σ3⟩,h1,h9⟩:=Option.bind_eq_some_iff.1 h
  refine TL.callD [0] [0] (ih h1) ⟨rfl,rfl,rfl,trivial⟩ ⟨rfl,trivial⟩ zjv rfl rfl rfl rfl rfl (kL1 rfl trivial) (TL.callD [0] [0] (zjO hM hl) ⟨rfl,rfl,rfl,rfl,trivial⟩ ⟨rfl,trivial⟩ zhI rfl rfl rfl rfl rfl (kL1 rfl trivial) (dA (xmi rfl (xai rfl (dR ?_)))))
  refine FQ.ret1 (v:=(.int _ _)) (Bs:=[A _]) [0] rfl rfl rfl ⟨rfl,trivial⟩ ?_
  cases h9; exact ⟨rfl,rfl⟩
theorem zdb {S:Type} [MemLike S] {mt:TypeId} {mv:Value} {A:S→Assn} (hM:MemI Tryz.prog mt mv A) {l:Lay} (hl:l.Ok) {p:Pen} {σ:S} {a b r:Int} {k:Nat} {σ2:S} (h:zd7 l p k σ a b=some (r,σ2)):FnD Tryz.prog 171 [zaW l mt mv p,.int .i64 a,.int .i64 b] [A σ] (.int .i64 r) [A σ2]:=by
 obtain ⟨⟨c,σ3⟩,h1,h9⟩:=Option.bind_eq_some_iff.1 h
 cases h9
 refine Fn.enter (Tryz.func171) rfl rfl (fun w0 R=>?_)
 refine sA (xB 1 rfl (fun bk1=>(xai rfl (dA (xL6 1 zab rfl rfl (xmi rfl (xmi rfl (TL.callD [0] [0] (zof hM hl h1) ⟨rfl,rfl,rfl,trivial⟩ ⟨rfl,trivial⟩ zjv rfl rfl rfl rfl rfl trivial (xai rfl ?_)))))))))
 refine dA (xL6 1 zab rfl rfl (xmi rfl (TL.callD [0] [0] (zf6 hM hl) ⟨rfl,rfl,rfl,trivial⟩ ⟨rfl,trivial⟩ zgp rfl rfl rfl rfl rfl trivial (dA (xmi rfl (xai rfl (dR ?_)))))))
 refine FQ.ret1 (v:=(.int _ _)) (Bs:=[A _]) [0] rfl rfl rfl ⟨rfl,trivial⟩ ?_
 exact ⟨rfl,rfl⟩
theorem zlW {S:Type} [MemLike S] {mt:TypeId} {mv:Value} {A:S→Assn} (hM:MemI Tryz.prog mt mv A) {l:Lay} (hl:l.Ok) {p:Pen} {σ:S} {x m:Int} {k:Nat} {σ2:S} (h0:0≤m) (h:zf3 l k σ x m true=some σ2):FnD Tryz.prog 173 [zaW l mt mv p,.int .i64 x,.int .i64 m,.bool true] [A σ] (.tuple #[]) [A σ2]:=by
 unfold zf3 at h
 dsimp only [zht] at h
 simp only [if_true,Bool.false_eq_true,if_false] at h
 refine Fn.enter (Tryz.func173) rfl rfl (fun w0 R=>?_)
 refine sA (xB 1 rfl (fun bk1=>(dS (TC.draw [(0,true),(1,true),(3,true),(4,true),(2,false),(5,true),(6,true)] [1] fc_m (by kernel_rfl) (xL6 1 zab rfl rfl (xmi rfl (xmi rfl (TL.shl _ rfl rfl (by omega) rfl rfl rfl (TL.callD [0] [0] (zdU hM hl) ⟨rfl,rfl,trivial⟩ ⟨rfl,trivial⟩ zfh rfl rfl rfl rfl rfl (kL1 rfl trivial) ?_)))))))))
 refine TL.andNot _ rfl rfl rfl rfl rfl (xai rfl (dB (xmt rfl (TL.done (TQ.then (TC.condT rfl (TC.region (xmi rfl ?_))))))))
 refine xmi rfl (TL.shl _ rfl rfl (by omega) rfl rfl rfl (TL.or _ rfl rfl rfl rfl rfl (xai rfl (dA (xL6 1 zab rfl rfl (xmi rfl (xmi rfl (TL.callD [0] [0] (zey hM hl) ⟨rfl,rfl,rfl,trivial⟩ ⟨rfl,trivial⟩ zgm rfl rfl rfl rfl rfl trivial ?_))))))))
 refine dA (xL6 1 zab rfl rfl (xmi rfl (TL.callD [0] [0] (zc9 hM hl) ⟨rfl,rfl,trivial⟩ ⟨rfl,trivial⟩ zfl rfl rfl rfl rfl rfl trivial (xai rfl (dK (TC.loopK (X:=Nat×S×Int) [4] [1] (fun y=>[(9,.int .i64 y.2.2)]) (fun y=>[(0,A y.2.1)]) (fun y=>zbY l y.1 y.2.1 y.2.2=some σ2) (fun y=>y.1) ((k,_,_)) h ⟨rfl,trivial⟩ ⟨rfl,trivial⟩ (fun y hI=>?_)))))))
 obtain ⟨k,σ1,z⟩:=y
 rcases k with _ | k
 ·simp [zbY] at hI
 dsimp only at hI
 refine TC.sub (env':=[(9,_),(4,_)]) (L':=[(0,_),(1,_)]) ⟨rfl,rfl,trivial⟩ ⟨rfl,rfl,trivial⟩ (sB (xmi rfl (TL.neq rfl rfl rfl rfl (fun q1=>?_) (fun q1=>?_))))
 refine TL.done (TQ.then (TC.condT rfl (TC.skip (TQ.then (TC.seq (TC.block (TC.draw [(0,true),(1,true),(2,true),(3,true),(4,false),(5,false)] [1] fc_m (by kernel_rfl) (xL6 1 zab rfl rfl ?_))))))))
 refine xmi rfl (xL6 1 zab rfl rfl (xmi rfl (TL.callD [0] [0] (zdU hM hl) ⟨rfl,rfl,trivial⟩ ⟨rfl,trivial⟩ zfh rfl rfl rfl rfl rfl (kL1 rfl trivial) (TL.callD [0] [0] (zey hM hl) ⟨rfl,rfl,rfl,trivial⟩ ⟨rfl,trivial⟩ zgm rfl rfl rfl rfl rfl (kL1 rfl trivial) (dI (xL6 1 zab rfl rfl (xmi rfl (TL.callD [0] [0] (zc9 hM hl) ⟨rfl,rfl,trivial⟩ ⟨rfl,trivial⟩ zfl rfl rfl rfl rfl rfl trivial ?_))))))))
 refine xai rfl (TL.done (TQ.roundK ((k,_,_)) ⟨(by rw [zbY,if_pos q1] at hI; exact hI),Nat.lt_succ_self _⟩ ⟨rfl,trivial⟩ ⟨rfl,trivial⟩ (kE1 rfl trivial) (kL1 rfl trivial)))
 refine TL.done (TQ.then (TC.condF rfl (TC.exit (TQ.thenExit (TQ.thenExit (TQ.blockHere ?_))))))
 refine FQ.end0 (Bs:=[A _]) [0] rfl rfl ⟨rfl,trivial⟩ ?_
 rw [zbY,if_neg q1] at hI; cases hI; exact ⟨rfl,rfl⟩
theorem zkK {S:Type} [MemLike S] {mt:TypeId} {mv:Value} {A:S→Assn} (hM:MemI Tryz.prog mt mv A) {l:Lay} (hl:l.Ok) {p:Pen} {σ:S} {x m:Int} {k:Nat} {σ2:S} (h0:0≤m) (h:zf3 l k σ x m false=some σ2):FnD Tryz.prog 173 [zaW l mt mv p,.int .i64 x,.int .i64 m,.bool false] [A σ] (.tuple #[]) [A σ2]:=by
 unfold zf3 at h
 dsimp only [zht] at h
 simp only [if_true,Bool.false_eq_true,if_false] at h
 refine Fn.enter (Tryz.func173) rfl rfl (fun w0 R=>?_)
 refine sA (xB 1 rfl (fun bk1=>(dS (TC.draw [(0,true),(1,true),(3,true),(4,true),(2,false),(5,true),(6,true)] [1] fc_m (by kernel_rfl) (xL6 1 zab rfl rfl (xmi rfl (xmi rfl (TL.shl _ rfl rfl (by omega) rfl rfl rfl (TL.callD [0] [0] (zdU hM hl) ⟨rfl,rfl,trivial⟩ ⟨rfl,trivial⟩ zfh rfl rfl rfl rfl rfl (kL1 rfl trivial) ?_)))))))))
 refine TL.andNot _ rfl rfl rfl rfl rfl (xai rfl (dB (xmf rfl (dF rfl (xL6 1 zab rfl rfl (xmi rfl (xmi rfl (TL.callD [0] [0] (zey hM hl) ⟨rfl,rfl,rfl,trivial⟩ ⟨rfl,trivial⟩ zgm rfl rfl rfl rfl rfl trivial ?_))))))))
 refine dA (xL6 1 zab rfl rfl (xmi rfl (TL.callD [0] [0] (zc9 hM hl) ⟨rfl,rfl,trivial⟩ ⟨rfl,trivial⟩ zfl rfl rfl rfl rfl rfl trivial (xai rfl (dK (TC.loopK (X:=Nat×S×Int) [4] [1] (fun y=>[(9,.int .i64 y.2.2)]) (fun y=>[(0,A y.2.1)]) (fun y=>zbY l y.1 y.2.1 y.2.2=some σ2) (fun y=>y.1) ((k,_,_)) h ⟨rfl,trivial⟩ ⟨rfl,trivial⟩ (fun y hI=>?_)))))))
 obtain ⟨k,σ1,z⟩:=y
 rcases k with _ | k
 ·simp [zbY] at hI
 dsimp only at hI
 refine TC.sub (env':=[(9,_),(4,_)]) (L':=[(0,_),(1,_)]) ⟨rfl,rfl,trivial⟩ ⟨rfl,rfl,trivial⟩ (sB (xmi rfl (TL.neq rfl rfl rfl rfl (fun q1=>?_) (fun q1=>?_))))
 refine TL.done (TQ.then (TC.condT rfl (TC.skip (TQ.then (TC.seq (TC.block (TC.draw [(0,true),(1,true),(2,true),(3,true),(4,false),(5,false)] [1] fc_m (by kernel_rfl) (xL6 1 zab rfl rfl ?_))))))))
 refine xmi rfl (xL6 1 zab rfl rfl (xmi rfl (TL.callD [0] [0] (zdU hM hl) ⟨rfl,rfl,trivial⟩ ⟨rfl,trivial⟩ zfh rfl rfl rfl rfl rfl (kL1 rfl trivial) (TL.callD [0] [0] (zey hM hl) ⟨rfl,rfl,rfl,trivial⟩ ⟨rfl,trivial⟩ zgm rfl rfl rfl rfl rfl (kL1 rfl trivial) (dI (xL6 1 zab rfl rfl (xmi rfl (TL.callD [0] [0] (zc9 hM hl) ⟨rfl,rfl,trivial⟩ ⟨rfl,trivial⟩ zfl rfl rfl rfl rfl rfl trivial ?_))))))))
 refine xai rfl (TL.done (TQ.roundK ((k,_,_)) ⟨(by rw [zbY,if_pos q1] at hI; exact hI),Nat.lt_succ_self _⟩ ⟨rfl,trivial⟩ ⟨rfl,trivial⟩ (kE1 rfl trivial) (kL1 rfl trivial)))
 refine TL.done (TQ.then (TC.condF rfl (TC.exit (TQ.thenExit (TQ.thenExit (TQ.blockHere ?_))))))
 refine FQ.end0 (Bs:=[A _]) [0] rfl rfl ⟨rfl,trivial⟩ ?_
 rw [zbY,if_neg q1] at hI; cases hI; exact ⟨rfl,rfl⟩
theorem zlX {S:Type} [MemLike S] {mt:TypeId} {mv:Value} {A:S→Assn} (hM:MemI Tryz.prog mt mv A) {l:Lay} (hl:l.Ok) {p:Pen} {σ:S} {x m:Int} {on:Bool} {k:Nat} {σ2:S} (h0:0≤m) (h:zf3 l k σ x m on=some σ2):FnD Tryz.prog 173 [zaW l mt mv p,.int .i64 x,.int .i64 m,.bool on] [A σ] (.tuple #[]) [A σ2]:=by
 cases on
 ·exact zkK hM hl h0 h
 ·exact zlW hM hl h0 h
theorem zio {S:Type} [MemLike S] {mt:TypeId} {mv:Value} {A:S→Assn} (hM:MemI Tryz.prog mt mv A) {l:Lay} (hl:l.Ok) {p:Pen} {σ:S} {x m:Int} (h0:0≤m):FnD Tryz.prog 184 [zaW l mt mv p,.int .i64 x,.int .i64 m] [A σ] (.bool (zgR l σ x m)) [A (zfr l σ x)]:=by
 refine Fn.enter (Tryz.func184) rfl rfl (fun w0 R=>?_)
 refine sA (xB 1 rfl (fun bk1=>(xaf rfl (dA (xL6 1 zab rfl rfl (xmi rfl (TL.callD [0] [0] (zdU hM hl) ⟨rfl,rfl,trivial⟩ ⟨rfl,trivial⟩ zfh rfl rfl rfl rfl rfl trivial (xmi rfl (TL.shr _ rfl rfl (by omega) rfl rfl rfl ?_)))))))))
 refine TL.and _ rfl rfl rfl rfl rfl (TL.eqlV rfl rfl rfl rfl (xab rfl (dR ?_)))
 refine FQ.ret1 (v:=(.bool _)) (Bs:=[A _]) [0] rfl rfl rfl ⟨rfl,trivial⟩ ?_
 exact ⟨rfl,rfl⟩
theorem zoV {S:Type} [MemLike S] {mt:TypeId} {mv:Value} {A:S→Assn} (hM:MemI Tryz.prog mt mv A) {l:Lay} (hl:l.Ok) {p:Pen} {σ:S} {x m:Int} (h0:0≤m):FnD Tryz.prog 197 [zaW l mt mv p,.int .i64 x,.int .i64 m] [A σ] (.bool (has l σ x m)) [A (zb6 l σ x)]:=by
 refine Fn.enter (Tryz.func197) rfl rfl (fun w0 R=>?_)
 refine sA (xB 1 rfl (fun bk1=>(xaf rfl (dA (xL6 1 zab rfl rfl (xmi rfl (TL.callD [0] [0] (zfN hM hl) ⟨rfl,rfl,trivial⟩ ⟨rfl,trivial⟩ zgl rfl rfl rfl rfl rfl trivial (TL.shr _ rfl rfl (by decide) rfl rfl rfl (xmi rfl ?_)))))))))
 refine TL.shr _ rfl rfl (by omega) rfl rfl rfl (TL.and _ rfl rfl rfl rfl rfl (TL.eqlV rfl rfl rfl rfl (xab rfl (dR ?_))))
 refine FQ.ret1 (v:=(.bool _)) (Bs:=[A _]) [0] rfl rfl rfl ⟨rfl,trivial⟩ ?_
 exact ⟨rfl,rfl⟩
theorem zon {S:Type} [MemLike S] {mt:TypeId} {mv:Value} {A:S→Assn} (hM:MemI Tryz.prog mt mv A) {l:Lay} (hl:l.Ok) {p:Pen} {σ:S} {x m r:Int} {k:Nat} {σ2:S} (h0:0≤m) (h:first l k σ x m=some (r,σ2)):FnD Tryz.prog 191 [zaW l mt mv p,.int .i64 x,.int .i64 m] [A σ] (.int .i64 r) [A σ2]:=by
 unfold first at h
 refine Fn.enter (Tryz.func191) rfl rfl (fun w0 R=>?_)
 refine sA (xB 1 rfl (fun bk1=>(xai rfl (dA (xmi rfl (xai rfl (dB (xL6 1 zab rfl rfl (xmi rfl ?_)))))))))
 refine xmi rfl (TL.callD [0] [0] (zoV hM hl h0) ⟨rfl,rfl,rfl,trivial⟩ ⟨rfl,trivial⟩ zmH rfl rfl rfl rfl rfl trivial (TL.cases rfl (fun q1=>?_) (fun q1=>?_)))
 refine xnt rfl (TL.done (TQ.then (TC.condF rfl (TC.skip (TQ.then (TC.block (TC.loopK (X:=Nat×S×Int) [2,3] [1] (fun y=>[(7,.int .i64 y.2.2)]) (fun y=>[(0,A y.2.1)]) (fun y=>zcU l m y.1 y.2.1 y.2.2=some (r,σ2)) (fun y=>y.1) ((k,_,x)) (by rw [if_pos q1] at h; exact h) ⟨rfl,trivial⟩ ⟨rfl,trivial⟩ (fun y hI=>?_))))))))
 obtain ⟨k,σ1,z⟩:=y
 rcases k with _ | k
 ·simp [zcU] at hI
 dsimp only at hI
 refine TC.sub (env':=[(7,_),(2,_),(3,_)]) (L':=[(0,_),(1,_)]) ⟨rfl,rfl,rfl,trivial⟩ ⟨rfl,rfl,trivial⟩ (TC.block (sA (xL6 1 zab rfl rfl (xmi rfl (TL.callD [0] [0] (zcD hM hl) ⟨rfl,rfl,rfl,trivial⟩ ⟨rfl,trivial⟩ zcQ rfl rfl rfl rfl rfl trivial (xai rfl (dK (sA ?_))))))))
 refine xL6 1 zab rfl rfl (xmi rfl (xmi rfl (TL.callD [0] [0] (zoV hM hl h0) ⟨rfl,rfl,rfl,trivial⟩ ⟨rfl,trivial⟩ zmH rfl rfl rfl rfl rfl trivial (TL.cases rfl (fun q2=>?_) (fun q2=>?_)))))
 refine xat rfl (TL.done (TQ.then (TC.condT rfl (TC.region (xmi rfl (xai rfl (TL.done (TQ.inBlock ?_))))))))
 refine TQ.inBlock (TQ.roundK ((k,_,_)) ⟨(by rw [zcU] at hI; dsimp only at hI; rw [if_pos q2] at hI; exact hI),Nat.lt_succ_self _⟩ ⟨rfl,trivial⟩ ⟨rfl,trivial⟩ (kE2 rfl rfl trivial) (kL1 rfl trivial))
 refine xaf rfl (TL.done (TQ.then (TC.condF rfl (sA (xL6 1 zab rfl rfl (xmi rfl (xmi rfl (TL.callD [0] [0] (zio hM hl h0) ⟨rfl,rfl,rfl,trivial⟩ ⟨rfl,trivial⟩ zmJ rfl rfl rfl rfl rfl trivial ?_))))))))
 refine TL.cases rfl (fun q3=>?_) (fun q3=>?_)
 refine xat rfl (dT rfl (xmi rfl (xai rfl (dR (TQ.blockRet (TQ.blockRet (TQ.thenRet (TQ.blockRet ?_))))))))
 refine FQ.ret1 (v:=(.int _ _)) (Bs:=[A _]) [0] rfl rfl rfl ⟨rfl,trivial⟩ ?_
 rw [zcU] at hI; dsimp only at hI; rw [if_neg (by rw [q2]; decide),if_pos q3] at hI; cases hI; exact ⟨rfl,rfl⟩
 refine xaf rfl (TL.done (TQ.then (TC.condF rfl (TC.region (xL6 1 zab rfl rfl (xmi rfl (TL.callD [0] [0] (zcD hM hl) ⟨rfl,rfl,rfl,trivial⟩ ⟨rfl,trivial⟩ zcQ rfl rfl rfl rfl rfl trivial (xai rfl ?_))))))))
 refine TL.done (TQ.inBlock (TQ.inBlock (TQ.roundK ((k,_,_)) ⟨(by rw [zcU] at hI; dsimp only at hI; rw [if_neg (by rw [q2]; decide),if_neg (by rw [q3]; decide)] at hI; exact hI),Nat.lt_succ_self _⟩ ⟨rfl,trivial⟩ ⟨rfl,trivial⟩ (kE2 rfl rfl trivial) (kL1 rfl trivial))))
 refine xnf rfl (dT rfl (xai rfl (dRR ?_)))
 refine FQ.ret1 (v:=(.int _ _)) (Bs:=[A _]) [0] rfl rfl rfl ⟨rfl,trivial⟩ ?_
 rw [if_neg (by rw [q1]; decide)] at h; cases h; exact ⟨rfl,rfl⟩
theorem zkr {S:Type} [MemLike S] {mt:TypeId} {mv:Value} {A:S→Assn} (hM:MemI Tryz.prog mt mv A) {l:Lay} (hl:l.Ok) {p:Pen} {σ:S} {i u r:Int} {k:Nat} {σ2:S} (h:zgw l p k σ i u=some (r,σ2)):FnD Tryz.prog 172 [zaW l mt mv p,.int .i64 i,.int .i64 u] [A σ] (.int .i64 r) [A σ2]:=by
 unfold zgw at h
 dsimp only at h
 obtain ⟨⟨a,σa⟩,h1,h⟩:=Option.bind_eq_some_iff.1 h
 obtain ⟨⟨j,σb⟩,h2,h⟩:=Option.bind_eq_some_iff.1 h
 obtain ⟨⟨s,σc⟩,h3,h4⟩:=Option.bind_eq_some_iff.1 h
 dsimp only at h1 h2 h3 h4
 refine Fn.enter (Tryz.func172) rfl rfl (fun w0 R=>?_)
 refine sA (xB 1 rfl (fun bk1=>(xai rfl (dA (xf 0 zai rfl (xf 0 zax rfl (xL3 1 zaa rfl rfl (xmi rfl (xmi rfl ?_)))))))))
 refine TL.callD [] [] (zcC hl) ⟨rfl,rfl,rfl,trivial⟩ trivial zgj rfl rfl rfl rfl rfl trivial (xai rfl (dS (TC.draw [(0,true),(1,true),(2,true),(3,true),(4,true),(6,true),(7,true),(8,true),(5,false),(9,false),(10,false),(11,true),(12,true),(13,true),(14,true),(15,true)] [1] fc_m (by kernel_rfl) (xf 0 zai rfl (xL6 1 zab rfl rfl (xf 0 zai rfl (xL6 1 zab rfl rfl (xmi rfl ?_))))))))
 refine xf 0 zai rfl (xL6 1 zab rfl rfl (xmi rfl (TL.callD [0] [0] (zef hM hl h1) ⟨rfl,rfl,trivial⟩ ⟨rfl,trivial⟩ zgi rfl rfl rfl rfl rfl (kL1 rfl trivial) (TL.callD [0] [0] (zhz hM hl h2) ⟨rfl,rfl,trivial⟩ ⟨rfl,trivial⟩ zjw rfl rfl rfl rfl rfl (kL1 rfl trivial) (TL.callD [0] [0] (zbW hM hl h3) ⟨rfl,rfl,rfl,trivial⟩ ⟨rfl,trivial⟩ zdq rfl rfl rfl rfl rfl (kL1 rfl trivial) (xmu rfl (xei rfl rfl (xei rfl rfl ?_))))))))
 refine xai rfl (xai rfl (dA (xf 0 zai rfl (xL6 1 zab rfl rfl (xmi rfl (xmi rfl (TL.callD [0] [0] (zdb hM hl h4) ⟨rfl,rfl,rfl,trivial⟩ ⟨rfl,trivial⟩ zfi rfl rfl rfl rfl rfl trivial (xai rfl ?_))))))))
 refine dR ?_
 refine FQ.ret1 (v:=(.int _ _)) (Bs:=[A _]) [0] rfl rfl rfl ⟨rfl,trivial⟩ ?_
 exact ⟨rfl,rfl⟩
theorem zlw {S:Type} [MemLike S] {mt:TypeId} {mv:Value} {A:S→Assn} (hM:MemI Tryz.prog mt mv A) {l:Lay} (hl:l.Ok) {p:Pen} {σ:S} {i u v:Int} {b:Bool} {k:Nat} {σ2:S} (h:same l k σ i u v=some (b,σ2)):FnD Tryz.prog 100 [zaW l mt mv p,.int .i64 i,.int .i64 u,.int .i64 v] [A σ] (.bool b) [A σ2]:=by
 unfold same at h
 obtain ⟨⟨a,σa⟩,h1,h⟩:=Option.bind_eq_some_iff.1 h
 obtain ⟨⟨c,σb⟩,h2,h⟩:=Option.bind_eq_some_iff.1 h
 dsimp only at h1 h2 h
 cases h
 refine Fn.enter (Tryz.func100) rfl rfl (fun w0 R=>?_)
 refine sA (xB 1 rfl (fun bk1=>(xaf rfl (dS (TC.draw [(0,true),(1,true),(2,true),(3,true),(4,true),(5,true),(6,true),(9,true),(10,true),(11,true),(12,true),(13,true),(14,true),(15,true),(7,false),(8,false),(16,false),(17,false),(18,true),(19,true)] [1] fc_m (by kernel_rfl) (xf 0 zai rfl (xL6 1 zab rfl rfl (xf 0 zai rfl (xf 0 zax rfl ?_)))))))))
 refine xL3 1 zaa rfl rfl (xmi rfl (xmi rfl (xf 0 zai rfl (xL6 1 zab rfl rfl (xf 0 zai rfl (xf 0 zax rfl (xL3 1 zaa rfl rfl (xmi rfl ?_))))))))
 refine xmi rfl (TL.callD [] [] (zcC hl) ⟨rfl,rfl,rfl,trivial⟩ trivial zgj rfl rfl rfl rfl rfl (kL1 rfl trivial) (TL.callD [0] [0] (zef hM hl h1) ⟨rfl,rfl,trivial⟩ ⟨rfl,trivial⟩ zgi rfl rfl rfl rfl rfl (kL1 rfl trivial) (TL.callD [] [] (zcC hl) ⟨rfl,rfl,rfl,trivial⟩ trivial zgj rfl rfl rfl rfl rfl (kL1 rfl trivial) (TL.callD [0] [0] (zef hM hl h2) ⟨rfl,rfl,trivial⟩ ⟨rfl,trivial⟩ zgi rfl rfl rfl rfl rfl (kL1 rfl trivial) (TL.eqlV rfl rfl rfl rfl (xab rfl (dR ?_)))))))
 refine FQ.ret1 (v:=(.bool _)) (Bs:=[A _]) [0] rfl rfl rfl ⟨rfl,trivial⟩ ?_
 exact ⟨rfl,rfl⟩
theorem zkn {S:Type} [MemLike S] {mt:TypeId} {mv:Value} {A:S→Assn} (hM:MemI Tryz.prog mt mv A) {l:Lay} (hl:l.Ok) {p:Pen} {σ:S} {i u r:Int} {k:Nat} {σ2:S} (h:count l k σ i u=some (r,σ2)):FnD Tryz.prog 177 [zaW l mt mv p,.int .i64 i,.int .i64 u] [A σ] (.int .i64 r) [A σ2]:=by
 unfold count at h
 obtain ⟨⟨a,σa⟩,h1,h⟩:=Option.bind_eq_some_iff.1 h
 dsimp only at h1 h
 cases h
 refine Fn.enter (Tryz.func177) rfl rfl (fun w0 R=>?_)
 refine sA (xB 1 rfl (fun bk1=>(xai rfl (dS (TC.draw [(0,true),(1,true),(2,true),(3,true),(4,true),(5,true),(6,true),(7,true),(8,true),(9,false),(10,false),(11,false),(12,true)] [1] fc_m (by kernel_rfl) (xf 0 zai rfl (xL6 1 zab rfl rfl (xf 0 zai rfl (xL6 1 zab rfl rfl ?_)))))))))
 refine xf 0 zai rfl (xf 0 zax rfl (xL3 1 zaa rfl rfl (xmi rfl (xmi rfl (TL.callD [] [] (zcC hl) ⟨rfl,rfl,rfl,trivial⟩ trivial zgj rfl rfl rfl rfl rfl (kL1 rfl trivial) (TL.callD [0] [0] (zef hM hl h1) ⟨rfl,rfl,trivial⟩ ⟨rfl,trivial⟩ zgi rfl rfl rfl rfl rfl (kL1 rfl trivial) (TL.callD [0] [0] (znM hM hl) ⟨rfl,rfl,trivial⟩ ⟨rfl,trivial⟩ zp8 rfl rfl rfl rfl rfl (kL1 rfl trivial) (xai rfl ?_))))))))
 refine dR ?_
 refine FQ.ret1 (v:=(.int _ _)) (Bs:=[A _]) [0] rfl rfl rfl ⟨rfl,trivial⟩ ?_
 exact ⟨rfl,rfl⟩
theorem zks {mt:TypeId} {mv:Value} {l:Lay} (hl:l.Ok) {p:Pen} {i s:Int}:FnD Tryz.prog 170 [zaW l mt mv p,.int .i64 i,.int .i64 s] [] (.tuple #[.int .i64 (l.arc s i 0),.int .i64 (l.arc s i 1)]) []:=by
 refine Fn.enter (Tryz.func170) rfl rfl (fun w0 R=>?_)
 refine sA (xB 0 rfl (fun bk0=>(xai rfl (xai rfl (dS (TC.draw [(0,true),(1,true),(2,true),(3,true),(4,true),(6,true),(7,true),(8,true),(9,true),(10,true),(5,false),(11,false),(12,true),(13,true)] [0] fc_m (by kernel_rfl) (xf 0 zai rfl (xf 0 zax rfl (xL3 0 zaa rfl rfl ?_)))))))))
 refine xmi rfl (xmi rfl (xf 0 zai rfl (xf 0 zax rfl (xL3 0 zaa rfl rfl (xmi rfl (xmi rfl (TL.callD [] [] (znC hl) ⟨rfl,rfl,rfl,rfl,trivial⟩ trivial zjx rfl rfl rfl rfl rfl (kL1 rfl trivial) (TL.callD [] [] (znC hl) ⟨rfl,rfl,rfl,rfl,trivial⟩ trivial zjx rfl rfl rfl rfl rfl (kL1 rfl trivial) ?_))))))))
 refine xai rfl (xai rfl (dR ?_))
 refine FQ.ret2 (v:=(.int _ _)) (x:=(.int _ _)) (Bs:=[]) [] rfl rfl rfl rfl trivial ?_
 exact ⟨rfl,rfl⟩
theorem zl5 {S:Type} [MemLike S] {mt:TypeId} {mv:Value} {A:S→Assn} (hM:MemI Tryz.prog mt mv A) {l:Lay} (hl:l.Ok) {p:Pen} {σ:S} {i s u v r:Int} {k:Nat} {σ2:S} (h:link l p k σ i s u v=some (r,σ2)):FnD Tryz.prog 141 [zaW l mt mv p,.int .i64 i,.int .i64 s,.int .i64 u,.int .i64 v] [A σ] (.int .i64 r) [A σ2]:=by
 unfold link at h
 obtain ⟨⟨a,σa⟩,h1,h⟩:=Option.bind_eq_some_iff.1 h
 obtain ⟨⟨x,σb⟩,h2,h⟩:=Option.bind_eq_some_iff.1 h
 obtain ⟨⟨b,σc⟩,h3,h⟩:=Option.bind_eq_some_iff.1 h
 obtain ⟨⟨y,σd⟩,h4,h5⟩:=Option.bind_eq_some_iff.1 h
 dsimp only at h1 h2 h3 h4 h5
 refine Fn.enter (Tryz.func141) rfl rfl (fun w0 R=>?_)
 refine sA (xB 1 rfl (fun bk1=>(xai rfl (dA (xL6 1 zbA rfl rfl (xmi rfl (xmi rfl (TL.callD [] [] (zks hl) ⟨rfl,rfl,rfl,trivial⟩ trivial zmN rfl rfl rfl rfl rfl trivial (xmu rfl ?_)))))))))
 refine xei rfl rfl (xei rfl rfl (xai rfl (xai rfl (dS (TC.draw [(0,true),(1,true),(2,true),(3,true),(4,true),(6,true),(5,false),(7,false),(8,true)] [1] fc_m (by kernel_rfl) (xf 0 zai rfl (xL6 1 zab rfl rfl (xL6 1 zbA rfl rfl ?_))))))))
 refine xmi rfl (xmi rfl (xmi rfl (TL.callD [0] [0] (zkr hM hl h1) ⟨rfl,rfl,rfl,trivial⟩ ⟨rfl,trivial⟩ zmM rfl rfl rfl rfl rfl (kL1 rfl trivial) (TL.callD [0] [0] (zdb hM hl h2) ⟨rfl,rfl,rfl,trivial⟩ ⟨rfl,trivial⟩ zfi rfl rfl rfl rfl rfl (kL1 rfl trivial) (xai rfl (dS (TC.draw [(0,true),(1,true),(2,true),(3,true),(4,true),(5,true),(6,false),(7,false),(8,true)] [1] fc_m (by kernel_rfl) (xf 0 zai rfl ?_))))))))
 refine xL6 1 zab rfl rfl (xmi rfl (xL6 1 zbA rfl rfl (xmi rfl (xmi rfl (TL.callD [0] [0] (zkr hM hl h3) ⟨rfl,rfl,rfl,trivial⟩ ⟨rfl,trivial⟩ zmM rfl rfl rfl rfl rfl (kL1 rfl trivial) (TL.callD [0] [0] (zdb hM hl h4) ⟨rfl,rfl,rfl,trivial⟩ ⟨rfl,trivial⟩ zfi rfl rfl rfl rfl rfl (kL1 rfl trivial) (xai rfl (dA ?_))))))))
 refine xf 0 zai rfl (xL6 1 zab rfl rfl (xmi rfl (xmi rfl (TL.callD [0] [0] (zdb hM hl h5) ⟨rfl,rfl,rfl,trivial⟩ ⟨rfl,trivial⟩ zfi rfl rfl rfl rfl rfl trivial (xai rfl (dR ?_))))))
 refine FQ.ret1 (v:=(.int _ _)) (Bs:=[A _]) [0] rfl rfl rfl ⟨rfl,trivial⟩ ?_
 exact ⟨rfl,rfl⟩
theorem zrA {S:Type} [MemLike S] {mt:TypeId} {mv:Value} {A:S→Assn} (hM:MemI Tryz.prog mt mv A) {l:Lay} (hl:l.Ok) {p:Pen} {σ:S} {i s:Int} {r:Int×Int} {k:Nat} {σ2:S} (h:cut l p k σ i s=some (r,σ2)):FnD Tryz.prog 155 [zaW l mt mv p,.int .i64 i,.int .i64 s] [A σ] (.tuple #[.int .i64 r.1,.int .i64 r.2]) [A σ2]:=by
 unfold cut at h
 dsimp only at h
 obtain ⟨⟨i0,σa⟩,h1,h⟩:=Option.bind_eq_some_iff.1 h
 obtain ⟨⟨j0,σb⟩,h2,h⟩:=Option.bind_eq_some_iff.1 h
 obtain ⟨⟨rt,σc⟩,h3,h⟩:=Option.bind_eq_some_iff.1 h
 obtain ⟨⟨s1,σd⟩,h4,h⟩:=Option.bind_eq_some_iff.1 h
 obtain ⟨⟨s2,σe⟩,h5,h⟩:=Option.bind_eq_some_iff.1 h
 obtain ⟨⟨s3,σf⟩,h6,h⟩:=Option.bind_eq_some_iff.1 h
 obtain ⟨⟨s4,σg⟩,h7,h⟩:=Option.bind_eq_some_iff.1 h
 obtain ⟨⟨m,σh⟩,h8,h9⟩:=Option.bind_eq_some_iff.1 h
 dsimp only at h1 h2 h3 h4 h5 h6 h7 h8 h9
 cases h9
 refine Fn.enter (Tryz.func155) rfl rfl (fun w0 R=>?_)
 refine sA (xB 1 rfl (fun bk1=>(xai rfl (xai rfl (dA (xL6 1 zbA rfl rfl (xmi rfl (xmi rfl (TL.callD [] [] (zks hl) ⟨rfl,rfl,rfl,trivial⟩ trivial zmN rfl rfl rfl rfl rfl trivial ?_)))))))))
 refine xmu rfl (xei rfl rfl (xei rfl rfl (xai rfl (xai rfl (dS (TC.draw [(0,true),(1,true),(2,true),(4,true),(5,true),(6,true),(3,false),(7,false),(8,true),(9,true)] [1] fc_m (by kernel_rfl) (xf 0 zai rfl (xL6 1 zab rfl rfl ?_))))))))
 refine xmi rfl (xf 0 zai rfl (xL6 1 zab rfl rfl (xmi rfl (TL.callD [0] [0] (zhz hM hl h1) ⟨rfl,rfl,trivial⟩ ⟨rfl,trivial⟩ zjw rfl rfl rfl rfl rfl (kL1 rfl trivial) (TL.callD [0] [0] (zhz hM hl h2) ⟨rfl,rfl,trivial⟩ ⟨rfl,trivial⟩ zjw rfl rfl rfl rfl rfl (kL1 rfl trivial) (xai rfl (xai rfl (dB ?_))))))))
 refine xmi rfl (xmi rfl (TL.gtr rfl rfl rfl rfl (fun q1=>?_) (fun q1=>?_)))
 refine TL.done (TQ.then (TC.condT rfl (TC.region (xmi rfl (xmi rfl (xai rfl (xai rfl (dS ?_))))))))
 refine TC.draw [(0,true),(1,true),(2,true),(3,true),(4,true),(6,true),(5,false),(7,false),(8,true),(9,true),(10,true),(11,true),(12,true)] [1] fc_m (by kernel_rfl) (xf 0 zai rfl (xL6 1 zab rfl rfl (xf 0 zai rfl (xL6 1 zab rfl rfl (xmi rfl (xmi rfl (TL.callD [0] [0] (zef hM hl h3) ⟨rfl,rfl,trivial⟩ ⟨rfl,trivial⟩ zgi rfl rfl rfl rfl rfl (kL1 rfl trivial) (TL.callD [0] [0] (zbW hM hl (by rw [if_pos q1] at h4; exact h4)) ⟨rfl,rfl,rfl,trivial⟩ ⟨rfl,trivial⟩ zdq rfl rfl rfl rfl rfl (kL1 rfl trivial) ?_))))))))
 refine xmu rfl (xei rfl rfl (xei rfl rfl (xai rfl (xai rfl (dA (xf 0 zai rfl (xL6 1 zab rfl rfl (xmi rfl ?_))))))))
 refine TL.callD [0] [0] (zbW hM hl h5) ⟨rfl,rfl,rfl,trivial⟩ ⟨rfl,trivial⟩ zdq rfl rfl rfl rfl rfl trivial (xmu rfl (xei rfl rfl (xei rfl rfl (xai rfl (dA (xf 0 zai rfl (xL6 1 zab rfl rfl (xmi rfl ?_))))))))
 refine xmi rfl (TL.callD [0] [0] (zbW hM hl (by rw [if_pos q1] at h6; exact h6)) ⟨rfl,rfl,rfl,trivial⟩ ⟨rfl,trivial⟩ zdq rfl rfl rfl rfl rfl trivial (xmu rfl (xei rfl rfl (xei rfl rfl (xai rfl (xai rfl (dA (xf 0 zai rfl ?_))))))))
 refine xL6 1 zab rfl rfl (xmi rfl (TL.callD [0] [0] (zbW hM hl h7) ⟨rfl,rfl,rfl,trivial⟩ ⟨rfl,trivial⟩ zdq rfl rfl rfl rfl rfl trivial (xmu rfl (xei rfl rfl (xei rfl rfl (xai rfl (dA (xf 0 zai rfl ?_))))))))
 refine xL6 1 zab rfl rfl (xmi rfl (TL.callD [0] [0] (zeY hM hl) ⟨rfl,rfl,trivial⟩ ⟨rfl,trivial⟩ zgr rfl rfl rfl rfl rfl trivial (dA (xf 0 zai rfl (xL6 1 zab rfl rfl (xmi rfl (TL.callD [0] [0] (zeY hM hl) ⟨rfl,rfl,trivial⟩ ⟨rfl,trivial⟩ zgr rfl rfl rfl rfl rfl trivial (dA ?_))))))))
 refine xmi rfl (xf 0 zai rfl (xL6 1 zab rfl rfl (xmi rfl (xmi rfl (TL.callD [0] [0] (zdb hM hl h8) ⟨rfl,rfl,rfl,trivial⟩ ⟨rfl,trivial⟩ zfi rfl rfl rfl rfl rfl trivial (xai rfl (xai rfl (dR ?_))))))))
 refine FQ.ret2 (v:=(.int _ _)) (x:=(.int _ _)) (Bs:=[A _]) [0] rfl rfl rfl rfl ⟨rfl,trivial⟩ ?_
 exact ⟨rfl,rfl⟩
 refine TL.done (TQ.then (TC.condF rfl (TC.skip (TQ.then (TC.seq (TC.draw [(0,true),(1,true),(2,true),(3,true),(4,true),(6,true),(5,false),(7,false),(8,true),(9,true),(10,true),(11,true),(12,true)] [1] fc_m (by kernel_rfl) (xf 0 zai rfl (xL6 1 zab rfl rfl ?_))))))))
 refine xf 0 zai rfl (xL6 1 zab rfl rfl (xmi rfl (xmi rfl (TL.callD [0] [0] (zef hM hl h3) ⟨rfl,rfl,trivial⟩ ⟨rfl,trivial⟩ zgi rfl rfl rfl rfl rfl (kL1 rfl trivial) (TL.callD [0] [0] (zbW hM hl (by rw [if_neg q1] at h4; exact h4)) ⟨rfl,rfl,rfl,trivial⟩ ⟨rfl,trivial⟩ zdq rfl rfl rfl rfl rfl (kL1 rfl trivial) (xmu rfl (xei rfl rfl (xei rfl rfl ?_))))))))
 refine xai rfl (xai rfl (dA (xf 0 zai rfl (xL6 1 zab rfl rfl (xmi rfl (TL.callD [0] [0] (zbW hM hl h5) ⟨rfl,rfl,rfl,trivial⟩ ⟨rfl,trivial⟩ zdq rfl rfl rfl rfl rfl trivial (xmu rfl (xei rfl rfl ?_))))))))
 refine xei rfl rfl (xai rfl (dA (xf 0 zai rfl (xL6 1 zab rfl rfl (xmi rfl (xmi rfl (TL.callD [0] [0] (zbW hM hl (by rw [if_neg q1] at h6; exact h6)) ⟨rfl,rfl,rfl,trivial⟩ ⟨rfl,trivial⟩ zdq rfl rfl rfl rfl rfl trivial (xmu rfl ?_))))))))
 refine xei rfl rfl (xei rfl rfl (xai rfl (xai rfl (dA (xf 0 zai rfl (xL6 1 zab rfl rfl (xmi rfl (TL.callD [0] [0] (zbW hM hl h7) ⟨rfl,rfl,rfl,trivial⟩ ⟨rfl,trivial⟩ zdq rfl rfl rfl rfl rfl trivial ?_))))))))
 refine xmu rfl (xei rfl rfl (xei rfl rfl (xai rfl (dA (xf 0 zai rfl (xL6 1 zab rfl rfl (xmi rfl (TL.callD [0] [0] (zeY hM hl) ⟨rfl,rfl,trivial⟩ ⟨rfl,trivial⟩ zgr rfl rfl rfl rfl rfl trivial ?_))))))))
 refine dA (xf 0 zai rfl (xL6 1 zab rfl rfl (xmi rfl (TL.callD [0] [0] (zeY hM hl) ⟨rfl,rfl,trivial⟩ ⟨rfl,trivial⟩ zgr rfl rfl rfl rfl rfl trivial (dA (xmi rfl (xf 0 zai rfl (xL6 1 zab rfl rfl ?_))))))))
 refine xmi rfl (xmi rfl (TL.callD [0] [0] (zdb hM hl h8) ⟨rfl,rfl,rfl,trivial⟩ ⟨rfl,trivial⟩ zfi rfl rfl rfl rfl rfl trivial (xai rfl (xai rfl (dR ?_)))))
 refine FQ.ret2 (v:=(.int _ _)) (x:=(.int _ _)) (Bs:=[A _]) [0] rfl rfl rfl rfl ⟨rfl,trivial⟩ ?_
 exact ⟨rfl,rfl⟩
theorem zpc {b:Bool}:FnD Tryz.prog 137 [.bool b] [] (.int .u64 (bit b)) []:=by
 refine Fn.enter (Tryz.func137) rfl rfl (fun w0 R=>?_)
 refine sA (xai rfl (dB (xmb rfl (TL.cases rfl (fun q1=>?_) (fun q1=>?_)))))
 refine dT rfl (xai rfl (dRR ?_))
 refine FQ.ret1 (v:=(.int _ _)) (Bs:=[]) [] rfl rfl rfl trivial ?_
 cases b<;>first | exact ⟨rfl,rfl⟩ | (exfalso; simp at q1)
 refine dF rfl (xai rfl (dR ?_))
 refine FQ.ret1 (v:=(.int _ _)) (Bs:=[]) [] rfl rfl rfl trivial ?_
 cases b<;>first | exact ⟨rfl,rfl⟩ | (exfalso; simp at q1)
theorem zga {S:Type} [MemLike S] {mt:TypeId} {mv:Value} {A:S→Assn} (hM:MemI Tryz.prog mt mv A) {l:Lay} (hl:l.Ok) {σ:S} {u v:Int}:FnD Tryz.prog 73 [zfw l mt mv,.int .i64 u,.int .i64 v] [A σ] (.tuple #[.int .i64 (find l σ u v).slot,.bool (find l σ u v).tree,.bool (find l σ u v).ok]) [A (zoo l σ u v)]:=by
 refine Fn.enter (Tryz.func73) rfl rfl (fun w0 R=>?_)
 refine sA (xB 1 rfl (fun bk1=>(xai rfl (xaf rfl (xaf rfl (dS (TC.draw [(0,true),(1,true),(2,true),(3,true),(4,true),(5,true),(7,true),(8,true),(6,false),(9,false),(10,true)] [1] fc_m (by kernel_rfl) (xf 3 za8 rfl (xlc 1 zbj rfl rfl ?_)))))))))
 refine xf 0 zaw rfl (xL3 1 zaa rfl rfl (xmi rfl (xmi rfl (TL.ncI rfl rfl rfl (xmc rfl (TL.callD [] [] (zhV hl) ⟨rfl,rfl,rfl,trivial⟩ trivial zhQ rfl rfl rfl rfl rfl (kL1 rfl trivial) (TL.mload 0 hM rfl rfl rfl rfl rfl (kL1 rfl trivial) (xai rfl ?_))))))))
 refine dB (xmi rfl (TL.eql rfl rfl rfl rfl (fun q1=>?_) (fun q1=>?_)))
 refine dT rfl (xai rfl (xaf rfl (xaf rfl (dRR ?_))))
 refine FQ.ret3 (v:=(.int _ _)) (x:=(.bool false)) (y:=(.bool false)) (Bs:=[A _]) [0] rfl rfl rfl rfl rfl ⟨rfl,trivial⟩ ?_
 first | exact ⟨(by unfold find; dsimp only; rw [if_pos q1]),rfl⟩ | exact ⟨(by unfold find; dsimp only; rw [if_neg q1]; rfl),rfl⟩
 refine dF rfl (xmi rfl (TL.shr _ rfl rfl (by decide) rfl rfl rfl (TL.conv _ rfl zdG za1 (rfl) rfl rfl (TL.sub _ rfl rfl (rfl) rfl rfl (xmi rfl (TL.and _ rfl rfl rfl rfl rfl (TL.eqlV rfl rfl rfl rfl (xai rfl ?_))))))))
 refine xab rfl (xat rfl (dR ?_))
 refine FQ.ret3 (v:=(.int _ _)) (x:=(.bool _)) (y:=(.bool true)) (Bs:=[A _]) [0] rfl rfl rfl rfl rfl ⟨rfl,trivial⟩ ?_
 first | exact ⟨(by unfold find; dsimp only; rw [if_pos q1]),rfl⟩ | exact ⟨(by unfold find; dsimp only; rw [if_neg q1]; rfl),rfl⟩
theorem zqx {S:Type} [MemLike S] {mt:TypeId} {mv:Value} {A:S→Assn} (hM:MemI Tryz.prog mt mv A) {l:Lay} (hl:l.Ok) {σ:S} {s u v i:Int} {t:Bool}:FnD Tryz.prog 110 [zfw l mt mv,.int .i64 s,.int .i64 u,.int .i64 v,.int .i64 i,.bool t] [A σ] (.tuple #[]) [A (eput l σ s u v i t)]:=by
 refine Fn.enter (Tryz.func110) rfl rfl (fun w0 R=>?_)
 refine sA (xB 1 rfl (fun bk1=>(dS (TC.draw [(0,true),(1,true),(2,true),(3,true),(4,true),(6,true),(7,true),(8,true),(9,true),(10,true),(11,true),(12,true),(13,true),(14,true),(15,true),(16,true),(5,false),(17,false)] [1] fc_m (by kernel_rfl) (xf 3 za8 rfl (xlc 1 zbj rfl rfl (xf 0 zaw rfl (xL3 1 zaa rfl rfl (xmi rfl ?_)))))))))
 refine xmi rfl (xmi rfl (TL.min2 rfl rfl rfl rfl (TL.shl _ rfl rfl (by decide) rfl rfl rfl (xmi rfl (xmi rfl (TL.max2 rfl rfl rfl rfl (TL.or _ rfl rfl rfl rfl rfl (TL.conv _ rfl zeR za0 (rfl) rfl rfl ?_))))))))
 refine TL.ncI rfl rfl rfl (xmc rfl (TL.callD [] [] (znb hl) ⟨rfl,rfl,trivial⟩ trivial zmX rfl rfl rfl rfl rfl (kL1 rfl trivial) (TL.mstore 0 hM rfl rfl rfl (by first | exact zet _ | exact zcu _ _ | exact MemLike.rng _ _ | decide | assumption) rfl rfl rfl (kL1 rfl trivial) (dS (TC.draw [(0,true),(1,true),(2,true),(3,true),(4,true),(6,true),(7,true),(8,true),(9,true),(5,false),(10,false)] [1] fc_m (by kernel_rfl) (xf 3 za8 rfl (xlc 1 zbj rfl rfl (xf 0 zaw rfl ?_))))))))
 refine xL3 1 zaa rfl rfl (xmi rfl (xmi rfl (TL.conv _ rfl zeR za0 (rfl) rfl rfl (TL.ncI rfl rfl rfl (xmc rfl (TL.callD [] [] (zhx hl) ⟨rfl,rfl,trivial⟩ trivial zjB rfl rfl rfl rfl rfl (kL1 rfl trivial) (TL.mstore 0 hM rfl rfl rfl (by first | exact zet _ | exact zcu _ _ | exact MemLike.rng _ _ | decide | assumption) rfl rfl rfl (kL1 rfl trivial) (TL.done ?_))))))))
 refine TQ.then (TC.draw [(0,true),(1,true),(2,true),(3,true),(4,true),(5,true),(7,true),(8,true),(9,true),(10,true),(11,true),(14,true),(15,true),(6,false),(12,false),(13,true),(16,false)] [1] fc_m (by kernel_rfl) (xf 3 za8 rfl (xlc 1 zbj rfl rfl (xf 0 zaw rfl (xL3 1 zaa rfl rfl (xmi rfl (xmi rfl (xmi rfl ?_))))))))
 refine TL.add _ rfl rfl (rfl) rfl rfl (TL.conv _ rfl zeR za0 (rfl) rfl rfl (TL.shl _ rfl rfl (by decide) rfl rfl rfl (xmb rfl (TL.ncI rfl rfl rfl (xmc rfl (TL.callD [] [] (zhV hl) ⟨rfl,rfl,rfl,trivial⟩ trivial zhQ rfl rfl rfl rfl rfl (kL1 rfl trivial) (TL.callD [] [] zpc ⟨rfl,trivial⟩ trivial zmW rfl rfl rfl rfl rfl (kL1 rfl trivial) (TL.or _ rfl rfl rfl rfl rfl ?_))))))))
 refine TL.mstore 0 hM rfl rfl rfl (by first | exact zet _ | exact zcu _ _ | exact MemLike.rng _ _ | decide | assumption) rfl rfl rfl (kL1 rfl trivial) (TL.done ?_)
 refine FQ.end0 (Bs:=[A _]) [0] rfl rfl ⟨rfl,trivial⟩ ?_
 exact ⟨rfl,rfl⟩
theorem zg6 {S:Type} [MemLike S] {mt:TypeId} {mv:Value} {A:S→Assn} (hM:MemI Tryz.prog mt mv A) {l:Lay} (hl:l.Ok) {σ:S} {u v:Int}:FnD Tryz.prog 127 [zfw l mt mv,.int .i64 u,.int .i64 v] [A σ] (.tuple #[]) [A (zce l σ u v)]:=by
 refine Fn.enter (Tryz.func127) rfl rfl (fun w0 R=>?_)
 refine sA (xB 1 rfl (fun bk1=>(TL.done (TQ.then (TC.draw [(0,true),(1,true),(2,true),(3,true),(4,true),(5,true),(7,true),(8,true),(6,false),(9,false)] [1] fc_m (by kernel_rfl) (xf 3 za8 rfl (xlc 1 zbj rfl rfl (xf 0 zaw rfl (xL3 1 zaa rfl rfl ?_)))))))))
 refine xmi rfl (xmi rfl (TL.ncI rfl rfl rfl (xmc rfl (TL.callD [] [] (zhV hl) ⟨rfl,rfl,rfl,trivial⟩ trivial zhQ rfl rfl rfl rfl rfl (kL1 rfl trivial) (TL.mstore 0 hM rfl rfl rfl (by first | exact zet _ | exact zcu _ _ | exact MemLike.rng _ _ | decide | assumption) rfl rfl rfl (kL1 rfl trivial) (TL.done ?_))))))
 refine FQ.end0 (Bs:=[A _]) [0] rfl rfl ⟨rfl,trivial⟩ ?_
 exact ⟨rfl,rfl⟩
theorem zki {S:Type} [MemLike S] {mt:TypeId} {mv:Value} {A:S→Assn} (hM:MemI Tryz.prog mt mv A) {l:Lay} (hl:l.Ok) {σ:S} {s:Int}:FnD Tryz.prog 153 [zfw l mt mv,.int .i64 s] [A σ] (.tuple #[.int .i64 (zk1 l σ s),.int .i64 (zk0 l σ s)]) [A (zhT l σ s)]:=by
 refine Fn.enter (Tryz.func153) rfl rfl (fun w0 R=>?_)
 refine sA (xB 1 rfl (fun bk1=>(xai rfl (xai rfl (dS (TC.draw [(0,true),(1,true),(2,true),(3,true),(4,true),(6,true),(7,true),(5,false),(8,false),(9,true),(10,true)] [1] fc_m (by kernel_rfl) (xf 3 za8 rfl (xlc 1 zbj rfl rfl (xf 0 zaw rfl ?_)))))))))
 refine xL3 1 zaa rfl rfl (xmi rfl (TL.ncI rfl rfl rfl (xmc rfl (TL.callD [] [] (znb hl) ⟨rfl,rfl,trivial⟩ trivial zmX rfl rfl rfl rfl rfl (kL1 rfl trivial) (TL.mload 0 hM rfl rfl rfl rfl rfl (kL1 rfl trivial) (TL.conv _ rfl zdG za1 (rfl) rfl rfl (xai rfl (dA ?_))))))))
 refine xmi rfl (TL.shr _ rfl rfl (by decide) rfl rfl rfl (xmi rfl (TL.and _ rfl rfl rfl rfl rfl (xai rfl (xai rfl (dR ?_))))))
 refine FQ.ret2 (v:=(.int _ _)) (x:=(.int _ _)) (Bs:=[A _]) [0] rfl rfl rfl rfl ⟨rfl,trivial⟩ ?_
 exact ⟨rfl,rfl⟩
theorem zdL {S:Type} [MemLike S] {mt:TypeId} {mv:Value} {A:S→Assn} (hM:MemI Tryz.prog mt mv A) {l:Lay} (hl:l.Ok) {σ:S} {s:Int}:FnD Tryz.prog 125 [zfw l mt mv,.int .i64 s] [A σ] (edgV (eget l σ s)) [A (zeo l σ s)]:=by
 refine Fn.enter (Tryz.func125) rfl rfl (fun w0 R=>?_)
 refine sA (xB 1 rfl (fun bk1=>(TL.alloc 2 (cs:=#[.int .i64 0,.int .i64 0,.int .i64 0,.bool false]) zdF rfl rfl rfl (fun _=>trivial) (fun bk2=>(dA (xL4 1 zaN rfl rfl (xmi rfl (TL.callD [0] [0] (zki hM hl) ⟨rfl,rfl,trivial⟩ ⟨rfl,trivial⟩ zmQ rfl rfl rfl rfl rfl trivial (xmu rfl (xei rfl rfl ?_))))))))))
 refine xei rfl rfl (xai rfl (xai rfl (dA (xL4 1 zaN rfl rfl (xmi rfl (xmi rfl (TL.callD [0] [0] (zga hM hl) ⟨rfl,rfl,rfl,trivial⟩ ⟨rfl,trivial⟩ ziD rfl rfl rfl rfl rfl trivial (xmu rfl ?_))))))))
 refine xei rfl rfl (TL.ext (.bool _) rfl rfl rfl rfl (TL.ext (.bool _) rfl rfl rfl rfl (xai rfl (xab rfl (xab rfl (dS (TC.draw [(0,true),(1,true),(2,true),(3,true),(4,true),(5,true),(6,true),(8,true),(9,true),(12,true),(7,false),(10,false),(11,true),(13,true),(14,false)] [1] fc_m (by kernel_rfl) (xmi rfl ?_))))))))
 refine xmi rfl (xf 3 za8 rfl (xlc 1 zbj rfl rfl (xf 0 zaw rfl (xL3 1 zaa rfl rfl (xmi rfl (TL.ncI rfl rfl rfl (xmc rfl (xmb rfl ?_))))))))
 refine TL.callD [] [] (zhx hl) ⟨rfl,rfl,trivial⟩ trivial zjB rfl rfl rfl rfl rfl (kL1 rfl trivial) (TL.mload 0 hM rfl rfl rfl rfl rfl (kL1 rfl trivial) (TL.conv _ rfl zdG za1 (rfl) rfl rfl (TL.bld [.int .i64 0,.int .i64 0,.int .i64 0,.bool false] [(.int _ _),(.int _ _),(.int _ _),(.bool _)] [_,_,_,_] zdF zp2 ⟨rfl,rfl,rfl,rfl,trivial⟩ ⟨rfl,rfl⟩ rfl rfl (TL.stW 2 4 [_,_,_,_] rfl rfl rfl rfl rfl rfl zco rfl rfl (kL1 rfl trivial) (dR ?_)))))
 refine FQ.retG (rs:=[.cell 4 183]) [(.agg _)] (Bs:=[A _]) [0] rfl ⟨⟨_,_,_,_,_,2,rfl,rfl,.inr ⟨4,[_,_,_,_],zco,rfl,rfl⟩⟩,trivial⟩ rfl rfl ⟨rfl,trivial⟩ ?_
 exact ⟨rfl,rfl⟩
theorem zos {S:Type} [MemLike S] {mt:TypeId} {mv:Value} {A:S→Assn} (hM:MemI Tryz.prog mt mv A) {l:Lay} (hl:l.Ok) {σ:S} {s:Int} {t:Bool}:FnD Tryz.prog 140 [zfw l mt mv,.int .i64 s,.bool t] [A σ] (.tuple #[]) [A (zgG l σ s t)]:=by
 refine Fn.enter (Tryz.func140) rfl rfl (fun w0 R=>?_)
 refine sA (xB 1 rfl (fun bk1=>(dA (xL4 1 zaN rfl rfl (xmi rfl (TL.callD [0] [0] (zki hM hl) ⟨rfl,rfl,trivial⟩ ⟨rfl,trivial⟩ zmQ rfl rfl rfl rfl rfl trivial (xmu rfl (xei rfl rfl (xei rfl rfl ?_)))))))))
 refine xai rfl (xai rfl (TL.done (TQ.then (TC.draw [(0,true),(1,true),(2,true),(3,true),(4,true),(5,true),(7,true),(8,true),(9,true),(10,true),(11,true),(14,true),(15,true),(6,false),(12,false),(13,true),(16,false)] [1] fc_m (by kernel_rfl) (xf 3 za8 rfl (xlc 1 zbj rfl rfl (xf 0 zaw rfl (xL3 1 zaa rfl rfl ?_))))))))
 refine xmi rfl (xmi rfl (xmi rfl (TL.add _ rfl rfl (rfl) rfl rfl (TL.conv _ rfl zeR za0 (rfl) rfl rfl (TL.shl _ rfl rfl (by decide) rfl rfl rfl (xmb rfl (TL.ncI rfl rfl rfl (xmc rfl ?_))))))))
 refine TL.callD [] [] (zhV hl) ⟨rfl,rfl,rfl,trivial⟩ trivial zhQ rfl rfl rfl rfl rfl (kL1 rfl trivial) (TL.callD [] [] zpc ⟨rfl,trivial⟩ trivial zmW rfl rfl rfl rfl rfl (kL1 rfl trivial) (TL.or _ rfl rfl rfl rfl rfl (TL.mstore 0 hM rfl rfl rfl (by first | exact zet _ | exact zcu _ _ | exact MemLike.rng _ _ | decide | assumption) rfl rfl rfl (kL1 rfl trivial) (TL.done ?_))))
 refine FQ.end0 (Bs:=[A _]) [0] rfl rfl ⟨rfl,trivial⟩ ?_
 exact ⟨rfl,rfl⟩
theorem zkj {S:Type} [MemLike S] {mt:TypeId} {mv:Value} {A:S→Assn} (hM:MemI Tryz.prog mt mv A) {l:Lay} (hl:l.Ok) {σ:S} {s i:Int}:FnD Tryz.prog 192 [zfw l mt mv,.int .i64 s,.int .i64 i] [A σ] (.tuple #[]) [A (zfE l σ s i)]:=by
 refine Fn.enter (Tryz.func192) rfl rfl (fun w0 R=>?_)
 refine sA (xB 1 rfl (fun bk1=>(TL.done (TQ.then (TC.draw [(0,true),(1,true),(2,true),(3,true),(4,true),(6,true),(7,true),(8,true),(9,true),(5,false),(10,false)] [1] fc_m (by kernel_rfl) (xf 3 za8 rfl (xlc 1 zbj rfl rfl (xf 0 zaw rfl (xL3 1 zaa rfl rfl ?_)))))))))
 refine xmi rfl (xmi rfl (TL.conv _ rfl zeR za0 (rfl) rfl rfl (TL.ncI rfl rfl rfl (xmc rfl (TL.callD [] [] (zhx hl) ⟨rfl,rfl,trivial⟩ trivial zjB rfl rfl rfl rfl rfl (kL1 rfl trivial) (TL.mstore 0 hM rfl rfl rfl (by first | exact zet _ | exact zcu _ _ | exact MemLike.rng _ _ | decide | assumption) rfl rfl rfl (kL1 rfl trivial) (TL.done ?_)))))))
 refine FQ.end0 (Bs:=[A _]) [0] rfl rfl ⟨rfl,trivial⟩ ?_
 exact ⟨rfl,rfl⟩
theorem zgD {S:Type} [MemLike S] {mt:TypeId} {mv:Value} {A:S→Assn} (hM:MemI Tryz.prog mt mv A) {l:Lay} (hl:l.Ok) {p:Pen} {σ:S} {c:Int}:FnD Tryz.prog 165 [adjV l mt mv p,.int .i64 c] [A σ] (.int .i64 (aget σ c)) [A (MemLike.ld σ c)]:=by
 refine Fn.enter (Tryz.func165) rfl rfl (fun w0 R=>?_)
 refine sA (xB 1 rfl (fun bk1=>(xai rfl (dA (xf 6 zap rfl (xf 3 za8 rfl (xlc 1 zbj rfl rfl (xmi rfl (TL.mload 0 hM rfl rfl rfl rfl rfl trivial ?_)))))))))
 refine TL.conv _ rfl zdG za1 (rfl) rfl rfl (xai rfl (dR ?_))
 refine FQ.ret1 (v:=(.int _ _)) (Bs:=[A _]) [0] rfl rfl rfl ⟨rfl,trivial⟩ ?_
 exact ⟨rfl,rfl⟩
theorem zdv {S:Type} [MemLike S] {mt:TypeId} {mv:Value} {A:S→Assn} (hM:MemI Tryz.prog mt mv A) {l:Lay} (hl:l.Ok) {p:Pen} {σ:S} {c v:Int}:FnD Tryz.prog 166 [adjV l mt mv p,.int .i64 c,.int .i64 v] [A σ] (.tuple #[]) [A (MemLike.st σ c (IntKind.u64.wrap v))]:=by
 refine Fn.enter (Tryz.func166) rfl rfl (fun w0 R=>?_)
 refine sA (xB 1 rfl (fun bk1=>(dG (xf 6 zap rfl (xf 3 za8 rfl (xlc 1 zbj rfl rfl (xmi rfl (xmi rfl (TL.conv _ rfl zeR za0 (rfl) rfl rfl ?_)))))))))
 refine TL.mstore 0 hM rfl rfl rfl (by first | exact zet _ | exact zcu _ _ | exact MemLike.rng _ _ | decide | assumption) rfl rfl rfl trivial (TL.done ?_)
 refine FQ.end0 (Bs:=[A _]) [0] rfl rfl ⟨rfl,trivial⟩ ?_
 exact ⟨rfl,rfl⟩
theorem zhf {s d:Int}:FnD Tryz.prog 139 [.int .i64 s,.int .i64 d] [] (.int .i64 (side s d)) []:=by
 refine Fn.enter (Tryz.func139) rfl rfl (fun w0 R=>?_)
 refine sA (xai rfl (dA (xmi rfl (TL.mul _ rfl rfl (rfl) rfl rfl (xmi rfl (TL.add _ rfl rfl (rfl) rfl rfl (TL.add _ rfl rfl (rfl) rfl rfl (xai rfl ?_))))))))
 refine dR ?_
 refine FQ.ret1 (v:=(.int _ _)) (Bs:=[]) [] rfl rfl rfl trivial ?_
 exact ⟨rfl,rfl⟩
theorem zh5 {mt:TypeId} {mv:Value} {l:Lay} (hl:l.Ok) {p:Pen} {x:Int}:FnD Tryz.prog 167 [adjV l mt mv p,.int .i64 x] [] (.int .i64 (zaY l x)) []:=by
 refine Fn.enter (Tryz.func167) rfl rfl (fun w0 R=>?_)
 refine sA (xB 0 rfl (fun bk0=>(xai rfl (dA (xf 6 zap rfl (xf 0 zaw rfl (xL3 0 zaa rfl rfl (xmi rfl (TL.sub _ rfl rfl (rfl) rfl rfl ?_)))))))))
 refine TL.quo _ rfl rfl (by omega) (quo2 _) rfl rfl (xmi rfl (TL.sub _ rfl rfl (rfl) rfl rfl (TL.rem _ rfl rfl (by omega) (rfl) rfl rfl (TL.callD [] [] (zpN hl) ⟨rfl,rfl,rfl,trivial⟩ trivial zqa rfl rfl rfl rfl rfl trivial (xai rfl (dR ?_))))))
 refine FQ.ret1 (v:=(.int _ _)) (Bs:=[]) [] rfl rfl rfl trivial ?_
 exact ⟨rfl,rfl⟩
theorem zeX {mt:TypeId} {mv:Value} {l:Lay} (hl:l.Ok) {p:Pen} {x:Int}:FnD Tryz.prog 168 [adjV l mt mv p,.int .i64 x] [] (.int .i64 (zaJ l x)) []:=by
 refine Fn.enter (Tryz.func168) rfl rfl (fun w0 R=>?_)
 refine sA (xB 0 rfl (fun bk0=>(xai rfl (dA (xf 6 zap rfl (xf 0 zaw rfl (xL3 0 zaa rfl rfl (xmi rfl (TL.sub _ rfl rfl (rfl) rfl rfl ?_)))))))))
 refine TL.quo _ rfl rfl (by omega) (quo2 _) rfl rfl (xmi rfl (TL.sub _ rfl rfl (rfl) rfl rfl (TL.rem _ rfl rfl (by omega) (rfl) rfl rfl (TL.callD [] [] (zpA hl) ⟨rfl,rfl,rfl,trivial⟩ trivial zp9 rfl rfl rfl rfl rfl trivial (xai rfl (dR ?_))))))
 refine FQ.ret1 (v:=(.int _ _)) (Bs:=[]) [] rfl rfl rfl trivial ?_
 exact ⟨rfl,rfl⟩
theorem zd1 {S:Type} [MemLike S] {mt:TypeId} {mv:Value} {A:S→Assn} (hM:MemI Tryz.prog mt mv A) {l:Lay} (hl:l.Ok) {p:Pen} {σ:S} {v i:Int} {k:Nat} {σ2:S} (h:zgA l k σ v i=some σ2):FnD Tryz.prog 169 [adjV l mt mv p,.int .i64 v,.int .i64 i] [A σ] (.tuple #[]) [A σ2]:=by
 unfold zgA at h
 dsimp only at h
 refine Fn.enter (Tryz.func169) rfl rfl (fun w0 R=>?_)
 refine sA (xB 1 rfl (fun bk1=>(dA (xf 6 zap rfl (xf 0 zaw rfl (xL3 1 zaa rfl rfl (xmi rfl (xmi rfl (TL.callD [] [] (zcC hl) ⟨rfl,rfl,rfl,trivial⟩ trivial zgj rfl rfl rfl rfl rfl trivial ?_)))))))))
 refine xai rfl (dS (TC.draw [(0,true),(1,true),(2,true),(3,true),(4,true),(5,true),(6,false),(7,false),(8,true),(9,true)] [1] fc_m (by kernel_rfl) (xL10 1 zan rfl rfl (xf 6 zap rfl (xf 0 zaw rfl (xL3 1 zaa rfl rfl (xmi rfl (xmi rfl ?_))))))))
 refine TL.callD [] [] (zhB hl) ⟨rfl,rfl,rfl,trivial⟩ trivial zhL rfl rfl rfl rfl rfl (kL1 rfl trivial) (TL.callD [0] [0] (zgD hM hl) ⟨rfl,rfl,trivial⟩ ⟨rfl,trivial⟩ zgo rfl rfl rfl rfl rfl (kL1 rfl trivial) (TL.neqV rfl rfl rfl rfl (xab rfl (dA (xmb rfl (xf 0 za5 rfl (xf 0 zai rfl (xL6 1 zab rfl rfl ?_))))))))
 refine xmi rfl (TL.callD [0] [0] (zio hM hl (by decide)) ⟨rfl,rfl,rfl,trivial⟩ ⟨rfl,trivial⟩ zmJ rfl rfl rfl rfl rfl trivial (TL.neqB rfl rfl zqv rfl rfl (TL.cases rfl (fun q1=>?_) (fun q1=>?_))))
 refine TL.done (TQ.then (TC.condT rfl (TC.region (xf 0 za5 rfl (xf 0 zai rfl (xL6 1 zab rfl rfl (xmi rfl (xmb rfl ?_))))))))
 refine TL.callD [0] [0] (zlX hM hl (by decide) (by rw [if_pos (by simpa using q1)] at h; exact h)) ⟨rfl,rfl,rfl,rfl,trivial⟩ ⟨rfl,trivial⟩ zmL rfl rfl rfl rfl rfl trivial (TL.done ?_)
 refine FQ.end0 (Bs:=[A _]) [0] rfl rfl ⟨rfl,trivial⟩ ?_
 exact ⟨rfl,rfl⟩
 refine TL.done (TQ.then (TC.condF rfl (TC.skip ?_)))
 refine FQ.end0 (Bs:=[A _]) [0] rfl rfl ⟨rfl,trivial⟩ ?_
 rw [if_neg (fun hc=>by revert q1 hc; cases zgR l (MemLike.ld σ (l.head v i)) (l.vertex i v) 0<;>simp<;>omega)] at h; cases h; exact ⟨rfl,rfl⟩
theorem zlH {S:Type} [MemLike S] {mt:TypeId} {mv:Value} {A:S→Assn} (hM:MemI Tryz.prog mt mv A) {l:Lay} (hl:l.Ok) {p:Pen} {σ:S} {x v i:Int} {k:Nat} {σ2:S} (h:push l k σ x v i=some σ2):FnD Tryz.prog 138 [adjV l mt mv p,.int .i64 x,.int .i64 v,.int .i64 i] [A σ] (.tuple #[]) [A σ2]:=by
 unfold push at h
 dsimp only at h
 refine Fn.enter (Tryz.func138) rfl rfl (fun w0 R=>?_)
 refine sA (xB 1 rfl (fun bk1=>(dA (xf 6 zap rfl (xf 0 zaw rfl (xL3 1 zaa rfl rfl (xmi rfl (xmi rfl (TL.callD [] [] (zhB hl) ⟨rfl,rfl,rfl,trivial⟩ trivial zhL rfl rfl rfl rfl rfl trivial ?_)))))))))
 refine xai rfl (dA (xL10 1 zan rfl rfl (xmi rfl (TL.callD [0] [0] (zgD hM hl) ⟨rfl,rfl,trivial⟩ ⟨rfl,trivial⟩ zgo rfl rfl rfl rfl rfl trivial (xai rfl (dS (TC.draw [(0,true),(1,true),(2,true),(4,true),(3,false),(5,false)] [1] fc_m (by kernel_rfl) (xL10 1 zan rfl rfl ?_))))))))
 refine xL10 1 zan rfl rfl (xmi rfl (xmi rfl (TL.callD [] [] (zh5 hl) ⟨rfl,rfl,trivial⟩ trivial zjy rfl rfl rfl rfl rfl (kL1 rfl trivial) (TL.callD [0] [0] (zdv hM hl) ⟨rfl,rfl,rfl,trivial⟩ ⟨rfl,trivial⟩ zdr rfl rfl rfl rfl rfl (kL1 rfl trivial) (dS (TC.draw [(0,true),(1,true),(2,true),(3,false),(4,false)] [1] fc_m (by kernel_rfl) (xL10 1 zan rfl rfl (xL10 1 zan rfl rfl ?_))))))))
 refine xmi rfl (TL.callD [] [] (zeX hl) ⟨rfl,rfl,trivial⟩ trivial zgn rfl rfl rfl rfl rfl (kL1 rfl trivial) (TL.callD [0] [0] (zdv hM hl) ⟨rfl,rfl,rfl,trivial⟩ ⟨rfl,trivial⟩ zdr rfl rfl rfl rfl rfl (kL1 rfl trivial) (dB (xmi rfl (TL.neq rfl rfl rfl rfl (fun q1=>?_) (fun q1=>?_))))))
 refine TL.done (TQ.then (TC.condT rfl (TC.draw [(0,true),(1,true),(2,true),(4,true),(3,false),(5,false)] [1] fc_m (by kernel_rfl) (xL10 1 zan rfl rfl (xL10 1 zan rfl rfl (xmi rfl (xmi rfl (TL.callD [] [] (zeX hl) ⟨rfl,rfl,trivial⟩ trivial zgn rfl rfl rfl rfl rfl (kL1 rfl trivial) ?_))))))))
 refine TL.callD [0] [0] (zdv hM hl) ⟨rfl,rfl,rfl,trivial⟩ ⟨rfl,trivial⟩ zdr rfl rfl rfl rfl rfl (kL1 rfl trivial) (dA (xL10 1 zan rfl rfl (xmi rfl (xmi rfl (TL.callD [0] [0] (zdv hM hl) ⟨rfl,rfl,rfl,trivial⟩ ⟨rfl,trivial⟩ zdr rfl rfl rfl rfl rfl trivial (dG (xL10 1 zan rfl rfl (xmi rfl ?_))))))))
 refine xmi rfl (TL.callD [0] [0] (zd1 hM hl (by rw [if_pos q1] at h; exact h)) ⟨rfl,rfl,rfl,trivial⟩ ⟨rfl,trivial⟩ zfj rfl rfl rfl rfl rfl trivial (TL.done ?_))
 refine FQ.end0 (Bs:=[A _]) [0] rfl rfl ⟨rfl,trivial⟩ ?_
 exact ⟨rfl,rfl⟩
 refine dF rfl (xL10 1 zan rfl rfl (xmi rfl (xmi rfl (TL.callD [0] [0] (zdv hM hl) ⟨rfl,rfl,rfl,trivial⟩ ⟨rfl,trivial⟩ zdr rfl rfl rfl rfl rfl trivial (dG (xL10 1 zan rfl rfl (xmi rfl (xmi rfl ?_))))))))
 refine TL.callD [0] [0] (zd1 hM hl (by rw [if_neg q1] at h; exact h)) ⟨rfl,rfl,rfl,trivial⟩ ⟨rfl,trivial⟩ zfj rfl rfl rfl rfl rfl trivial (TL.done ?_)
 refine FQ.end0 (Bs:=[A _]) [0] rfl rfl ⟨rfl,trivial⟩ ?_
 exact ⟨rfl,rfl⟩
theorem zlK {S:Type} [MemLike S] {mt:TypeId} {mv:Value} {A:S→Assn} (hM:MemI Tryz.prog mt mv A) {l:Lay} (hl:l.Ok) {p:Pen} {σ:S} {x v i:Int} {k:Nat} {σ2:S} (h:pull l k σ x v i=some σ2):FnD Tryz.prog 154 [adjV l mt mv p,.int .i64 x,.int .i64 v,.int .i64 i] [A σ] (.tuple #[]) [A σ2]:=by
 unfold pull at h
 dsimp only at h
 refine Fn.enter (Tryz.func154) rfl rfl (fun w0 R=>?_)
 refine sA (xB 1 rfl (fun bk1=>(dS (TC.draw [(0,true),(1,true),(2,true),(5,true),(6,true),(7,true),(3,false),(4,false),(8,false),(9,false),(10,true),(11,true)] [1] fc_m (by kernel_rfl) (xL10 1 zan rfl rfl (xL10 1 zan rfl rfl (xmi rfl (xL10 1 zan rfl rfl (xL10 1 zan rfl rfl ?_)))))))))
 refine xmi rfl (TL.callD [] [] (zeX hl) ⟨rfl,rfl,trivial⟩ trivial zgn rfl rfl rfl rfl rfl (kL1 rfl trivial) (TL.callD [0] [0] (zgD hM hl) ⟨rfl,rfl,trivial⟩ ⟨rfl,trivial⟩ zgo rfl rfl rfl rfl rfl (kL1 rfl trivial) (TL.callD [] [] (zh5 hl) ⟨rfl,rfl,trivial⟩ trivial zjy rfl rfl rfl rfl rfl (kL1 rfl trivial) (TL.callD [0] [0] (zgD hM hl) ⟨rfl,rfl,trivial⟩ ⟨rfl,trivial⟩ zgo rfl rfl rfl rfl rfl (kL1 rfl trivial) (xai rfl (xai rfl (dB (xmi rfl ?_))))))))
 refine TL.eql rfl rfl rfl rfl (fun q1=>?_) (fun q1=>?_)
 refine TL.done (TQ.then (TC.condT rfl (TC.draw [(0,true),(1,true),(2,true),(3,true),(4,true),(5,true),(7,true),(6,false),(8,false)] [1] fc_m (by kernel_rfl) (xL10 1 zan rfl rfl (xf 6 zap rfl (xf 0 zaw rfl (xL3 1 zaa rfl rfl (xmi rfl ?_))))))))
 refine xmi rfl (xmi rfl (TL.callD [] [] (zhB hl) ⟨rfl,rfl,rfl,trivial⟩ trivial zhL rfl rfl rfl rfl rfl (kL1 rfl trivial) (TL.callD [0] [0] (zdv hM hl) ⟨rfl,rfl,rfl,trivial⟩ ⟨rfl,trivial⟩ zdr rfl rfl rfl rfl rfl (kL1 rfl trivial) (dB (xmi rfl (TL.neq rfl rfl rfl rfl (fun q2=>?_) (fun q2=>?_)))))))
 refine TL.done (TQ.then (TC.condT rfl (TC.draw [(0,true),(1,true),(2,true),(4,true),(3,false),(5,false)] [1] fc_m (by kernel_rfl) (xL10 1 zan rfl rfl (xL10 1 zan rfl rfl (xmi rfl (xmi rfl (TL.callD [] [] (zeX hl) ⟨rfl,rfl,trivial⟩ trivial zgn rfl rfl rfl rfl rfl (kL1 rfl trivial) ?_))))))))
 refine TL.callD [0] [0] (zdv hM hl) ⟨rfl,rfl,rfl,trivial⟩ ⟨rfl,trivial⟩ zdr rfl rfl rfl rfl rfl (kL1 rfl trivial) (dG (xL10 1 zan rfl rfl (xmi rfl (xmi rfl (TL.callD [0] [0] (zd1 hM hl (by rw [if_pos q1,if_pos q2] at h; exact h)) ⟨rfl,rfl,rfl,trivial⟩ ⟨rfl,trivial⟩ zfj rfl rfl rfl rfl rfl trivial (TL.done ?_))))))
 refine FQ.end0 (Bs:=[A _]) [0] rfl rfl ⟨rfl,trivial⟩ ?_
 exact ⟨rfl,rfl⟩
 refine TL.done (TQ.then (TC.condF rfl (TC.skip (TQ.then (TC.region (xL10 1 zan rfl rfl (xmi rfl (xmi rfl ?_))))))))
 refine TL.callD [0] [0] (zd1 hM hl (by rw [if_pos q1,if_neg q2] at h; exact h)) ⟨rfl,rfl,rfl,trivial⟩ ⟨rfl,trivial⟩ zfj rfl rfl rfl rfl rfl trivial (TL.done ?_)
 refine FQ.end0 (Bs:=[A _]) [0] rfl rfl ⟨rfl,trivial⟩ ?_
 exact ⟨rfl,rfl⟩
 refine TL.done (TQ.then (TC.condF rfl (TC.draw [(0,true),(1,true),(2,true),(4,true),(3,false),(5,false)] [1] fc_m (by kernel_rfl) (xL10 1 zan rfl rfl (xL10 1 zan rfl rfl (xmi rfl (xmi rfl (TL.callD [] [] (zh5 hl) ⟨rfl,rfl,trivial⟩ trivial zjy rfl rfl rfl rfl rfl (kL1 rfl trivial) ?_))))))))
 refine TL.callD [0] [0] (zdv hM hl) ⟨rfl,rfl,rfl,trivial⟩ ⟨rfl,trivial⟩ zdr rfl rfl rfl rfl rfl (kL1 rfl trivial) (dB (xmi rfl (TL.neq rfl rfl rfl rfl (fun q2=>?_) (fun q2=>?_))))
 refine TL.done (TQ.then (TC.condT rfl (TC.draw [(0,true),(1,true),(2,true),(4,true),(3,false),(5,false)] [1] fc_m (by kernel_rfl) (xL10 1 zan rfl rfl (xL10 1 zan rfl rfl (xmi rfl (xmi rfl (TL.callD [] [] (zeX hl) ⟨rfl,rfl,trivial⟩ trivial zgn rfl rfl rfl rfl rfl (kL1 rfl trivial) ?_))))))))
 refine TL.callD [0] [0] (zdv hM hl) ⟨rfl,rfl,rfl,trivial⟩ ⟨rfl,trivial⟩ zdr rfl rfl rfl rfl rfl (kL1 rfl trivial) (dG (xL10 1 zan rfl rfl (xmi rfl (xmi rfl (TL.callD [0] [0] (zd1 hM hl (by rw [if_neg q1,if_pos q2] at h; exact h)) ⟨rfl,rfl,rfl,trivial⟩ ⟨rfl,trivial⟩ zfj rfl rfl rfl rfl rfl trivial (TL.done ?_))))))
 refine FQ.end0 (Bs:=[A _]) [0] rfl rfl ⟨rfl,trivial⟩ ?_
 exact ⟨rfl,rfl⟩
 refine TL.done (TQ.then (TC.condF rfl (TC.skip (TQ.then (TC.region (xL10 1 zan rfl rfl (xmi rfl (xmi rfl ?_))))))))
 refine TL.callD [0] [0] (zd1 hM hl (by rw [if_neg q1,if_neg q2] at h; exact h)) ⟨rfl,rfl,rfl,trivial⟩ ⟨rfl,trivial⟩ zfj rfl rfl rfl rfl rfl trivial (TL.done ?_)
 refine FQ.end0 (Bs:=[A _]) [0] rfl rfl ⟨rfl,trivial⟩ ?_
 exact ⟨rfl,rfl⟩
theorem ziO {S:Type} [MemLike S] {mt:TypeId} {mv:Value} {A:S→Assn} (hM:MemI Tryz.prog mt mv A) {l:Lay} (hl:l.Ok) {p:Pen} {σ:S} {s:Int} {k:Nat} {σ2:S} (h:add l k σ s=some σ2):FnD Tryz.prog 111 [adjV l mt mv p,.int .i64 s] [A σ] (.tuple #[]) [A σ2]:=by
 unfold add at h
 dsimp only at h
 obtain ⟨σ1,h1,h2⟩:=Option.bind_eq_some_iff.1 h
 refine Fn.enter (Tryz.func111) rfl rfl (fun w0 R=>?_)
 refine sA (xB 1 rfl (fun bk1=>(dA (xf 6 zap rfl (xL4 1 zaN rfl rfl (xmi rfl (TL.callD [0] [0] (zdL hM hl) ⟨rfl,rfl,trivial⟩ ⟨rfl,trivial⟩ zdI rfl rfl rfl rfl rfl trivial (TL.alloc 2 (cs:=#[.int .i64 0,.int .i64 0,.int .i64 0,.bool false]) zdF rfl rfl rfl (fun _=>trivial) (fun bk2=>(TL.stW 2 4 [_,_,_,_] rfl rfl rfl rfl rfl rfl zco rfl rfl trivial ?_))))))))))
 refine dS (TC.draw [(0,true),(1,true),(3,true),(4,true),(5,true),(6,true),(2,false),(7,false)] [1,2] fc_m (by kernel_rfl) (xL10 1 zan rfl rfl (xmi rfl (xf 0 zbt rfl (xli 2 zaf rfl rfl (xf 2 za2 rfl (xli 2 zaf rfl rfl (TL.callD [] [] zhf ⟨rfl,rfl,trivial⟩ trivial zhO rfl rfl rfl rfl rfl (kL2 rfl rfl trivial) ?_))))))))
 refine TL.callD [0] [0] (zlH hM hl h1) ⟨rfl,rfl,rfl,rfl,trivial⟩ ⟨rfl,trivial⟩ zmV rfl rfl rfl rfl rfl (kL2 rfl rfl trivial) (TL.done (TQ.then (TC.draw [(0,true),(1,true),(3,true),(4,true),(5,true),(6,true),(2,false),(7,false)] [1,2] fc_m (by kernel_rfl) (xL10 1 zan rfl rfl (xmi rfl (xf 1 zbs rfl (xli 2 zaf rfl rfl (xf 2 za2 rfl ?_))))))))
 refine xli 2 zaf rfl rfl (TL.callD [] [] zhf ⟨rfl,rfl,trivial⟩ trivial zhO rfl rfl rfl rfl rfl (kL2 rfl rfl trivial) (TL.callD [0] [0] (zlH hM hl h2) ⟨rfl,rfl,rfl,rfl,trivial⟩ ⟨rfl,trivial⟩ zmV rfl rfl rfl rfl rfl (kL2 rfl rfl trivial) (TL.done ?_)))
 refine FQ.end0 (Bs:=[A _]) [0] rfl rfl ⟨rfl,trivial⟩ ?_
 exact ⟨rfl,rfl⟩
theorem zgy {S:Type} [MemLike S] {mt:TypeId} {mv:Value} {A:S→Assn} (hM:MemI Tryz.prog mt mv A) {l:Lay} (hl:l.Ok) {p:Pen} {σ:S} {s:Int} {k:Nat} {σ2:S} (h:remove l k σ s=some σ2):FnD Tryz.prog 126 [adjV l mt mv p,.int .i64 s] [A σ] (.tuple #[]) [A σ2]:=by
 unfold remove at h
 dsimp only at h
 obtain ⟨σ1,h1,h2⟩:=Option.bind_eq_some_iff.1 h
 refine Fn.enter (Tryz.func126) rfl rfl (fun w0 R=>?_)
 refine sA (xB 1 rfl (fun bk1=>(dA (xf 6 zap rfl (xL4 1 zaN rfl rfl (xmi rfl (TL.callD [0] [0] (zdL hM hl) ⟨rfl,rfl,trivial⟩ ⟨rfl,trivial⟩ zdI rfl rfl rfl rfl rfl trivial (TL.alloc 2 (cs:=#[.int .i64 0,.int .i64 0,.int .i64 0,.bool false]) zdF rfl rfl rfl (fun _=>trivial) (fun bk2=>(TL.stW 2 4 [_,_,_,_] rfl rfl rfl rfl rfl rfl zco rfl rfl trivial ?_))))))))))
 refine dS (TC.draw [(0,true),(1,true),(3,true),(4,true),(5,true),(6,true),(2,false),(7,false)] [1,2] fc_m (by kernel_rfl) (xL10 1 zan rfl rfl (xmi rfl (xf 0 zbt rfl (xli 2 zaf rfl rfl (xf 2 za2 rfl (xli 2 zaf rfl rfl (TL.callD [] [] zhf ⟨rfl,rfl,trivial⟩ trivial zhO rfl rfl rfl rfl rfl (kL2 rfl rfl trivial) ?_))))))))
 refine TL.callD [0] [0] (zlK hM hl h1) ⟨rfl,rfl,rfl,rfl,trivial⟩ ⟨rfl,trivial⟩ zmP rfl rfl rfl rfl rfl (kL2 rfl rfl trivial) (TL.done (TQ.then (TC.draw [(0,true),(1,true),(3,true),(4,true),(5,true),(6,true),(2,false),(7,false)] [1,2] fc_m (by kernel_rfl) (xL10 1 zan rfl rfl (xmi rfl (xf 1 zbs rfl (xli 2 zaf rfl rfl (xf 2 za2 rfl ?_))))))))
 refine xli 2 zaf rfl rfl (TL.callD [] [] zhf ⟨rfl,rfl,trivial⟩ trivial zhO rfl rfl rfl rfl rfl (kL2 rfl rfl trivial) (TL.callD [0] [0] (zlK hM hl h2) ⟨rfl,rfl,rfl,rfl,trivial⟩ ⟨rfl,trivial⟩ zmP rfl rfl rfl rfl rfl (kL2 rfl rfl trivial) (TL.done ?_)))
 refine FQ.end0 (Bs:=[A _]) [0] rfl rfl ⟨rfl,trivial⟩ ?_
 exact ⟨rfl,rfl⟩
theorem znG {S:Type} [MemLike S] {mt:TypeId} {mv:Value} {A:S→Assn} (hM:MemI Tryz.prog mt mv A) {l:Lay} (hl:l.Ok) {p:Pen} {σ:S} {v i:Int}:FnD Tryz.prog 180 [adjV l mt mv p,.int .i64 v,.int .i64 i] [A σ] (.tuple #[.int .i64 (ze0 l σ v i).1,.bool (ze0 l σ v i).2]) [A (zjI l σ v i)]:=by
 refine Fn.enter (Tryz.func180) rfl rfl (fun w0 R=>?_)
 refine sA (xB 1 rfl (fun bk1=>(xai rfl (xaf rfl (dS (TC.draw [(0,true),(1,true),(2,true),(3,true),(4,true),(5,true),(6,false),(7,false),(8,true)] [1] fc_m (by kernel_rfl) (xL10 1 zan rfl rfl (xf 6 zap rfl (xf 0 zaw rfl ?_)))))))))
 refine xL3 1 zaa rfl rfl (xmi rfl (xmi rfl (TL.callD [] [] (zhB hl) ⟨rfl,rfl,rfl,trivial⟩ trivial zhL rfl rfl rfl rfl rfl (kL1 rfl trivial) (TL.callD [0] [0] (zgD hM hl) ⟨rfl,rfl,trivial⟩ ⟨rfl,trivial⟩ zgo rfl rfl rfl rfl rfl (kL1 rfl trivial) (xai rfl (dB (xmi rfl (TL.eql rfl rfl rfl rfl (fun q1=>?_) (fun q1=>?_)))))))))
 refine dT rfl (xai rfl (xaf rfl (dRR ?_)))
 refine FQ.ret2 (v:=(.int _ _)) (x:=(.bool false)) (Bs:=[A _]) [0] rfl rfl rfl rfl ⟨rfl,trivial⟩ ?_
 first | exact ⟨(by unfold ze0; dsimp only; rw [if_pos q1]),rfl⟩ | exact ⟨(by unfold ze0; dsimp only; rw [if_neg q1]),rfl⟩
 refine dF rfl (xmi rfl (TL.sub _ rfl rfl (rfl) rfl rfl (TL.quo _ rfl rfl (by omega) (quo2 _) rfl rfl (xai rfl (xat rfl (dR ?_))))))
 refine FQ.ret2 (v:=(.int _ _)) (x:=(.bool true)) (Bs:=[A _]) [0] rfl rfl rfl rfl ⟨rfl,trivial⟩ ?_
 first | exact ⟨(by unfold ze0; dsimp only; rw [if_pos q1]),rfl⟩ | exact ⟨(by unfold ze0; dsimp only; rw [if_neg q1]),rfl⟩
theorem zhv {S:Type} [MemLike S] {mt:TypeId} {mv:Value} {A:S→Assn} (hM:MemI Tryz.prog mt mv A) {l:Lay} (hl:l.Ok) {p:Pen} {σ:S} {s i:Int} {on:Bool} {k:Nat} {σ2:S} (h:lmark l k σ s i on=some σ2):FnD Tryz.prog 142 [adjV l mt mv p,.int .i64 s,.int .i64 i,.bool on] [A σ] (.tuple #[]) [A σ2]:=by
 unfold lmark at h
 refine Fn.enter (Tryz.func142) rfl rfl (fun w0 R=>?_)
 refine sA (xB 1 rfl (fun bk1=>(TL.done (TQ.then (TC.draw [(0,true),(1,true),(2,true),(3,true),(4,true),(5,true),(6,true),(7,true),(8,true),(9,true),(11,true),(10,false),(12,false)] [1] fc_m (by kernel_rfl) (xf 0 zak rfl (xf 0 za5 rfl (xf 0 zai rfl (xL6 1 zab rfl rfl ?_)))))))))
 refine xf 0 zak rfl (xf 6 zap rfl (xf 0 zaw rfl (xL3 1 zaa rfl rfl (xmi rfl (xmi rfl (xmb rfl (TL.callD [] [] (znC hl) ⟨rfl,rfl,rfl,rfl,trivial⟩ trivial zjx rfl rfl rfl rfl rfl (kL1 rfl trivial) (TL.callD [0] [0] (zlX hM hl (by decide) h) ⟨rfl,rfl,rfl,rfl,trivial⟩ ⟨rfl,trivial⟩ zmL rfl rfl rfl rfl rfl (kL1 rfl trivial) ?_))))))))
 refine TL.done ?_
 refine FQ.end0 (Bs:=[A _]) [0] rfl rfl ⟨rfl,trivial⟩ ?_
 exact ⟨rfl,rfl⟩
theorem zjU {S:Type} [MemLike S] {mt:TypeId} {mv:Value} {A:S→Assn} (hM:MemI Tryz.prog mt mv A) {l:Lay} (hl:l.Ok) {p:Pen} {σ:S} {s:Int} {k:Nat} {σ2:S} (h:plant l p k σ s=some σ2):FnD Tryz.prog 112 [adjV l mt mv p,.int .i64 s] [A σ] (.tuple #[]) [A σ2]:=by
 unfold plant at h
 dsimp only at h
 obtain ⟨σ1,h1,h2⟩:=Option.bind_eq_some_iff.1 h
 refine Fn.enter (Tryz.func112) rfl rfl (fun w0 R=>?_)
 refine sA (xB 1 rfl (fun bk1=>(dA (xf 0 zak rfl (xf 6 zap rfl (xL4 1 zaN rfl rfl (xmi rfl (TL.callD [0] [0] (zdL hM hl) ⟨rfl,rfl,trivial⟩ ⟨rfl,trivial⟩ zdI rfl rfl rfl rfl rfl trivial (TL.alloc 2 (cs:=#[.int .i64 0,.int .i64 0,.int .i64 0,.bool false]) zdF rfl rfl rfl (fun _=>trivial) (fun bk2=>?_))))))))))
 refine TL.stW 2 4 [_,_,_,_] rfl rfl rfl rfl rfl rfl zco rfl rfl trivial (dA (xf 0 zak rfl (xf 6 zap rfl (xL4 1 zaN rfl rfl (xmi rfl (TL.callD [0] [0] (zos hM hl) ⟨rfl,rfl,rfl,trivial⟩ ⟨rfl,trivial⟩ zql rfl rfl rfl rfl rfl trivial (dB (xf 2 za2 rfl ?_))))))))
 refine xli 2 zaf rfl rfl (TL.add _ rfl rfl (rfl) rfl rfl (xmi rfl (dK (TC.loopK (X:=Nat×S×Int) [1,2,4,18] [1,2] (fun y=>[(19,.int .i64 y.2.2)]) (fun y=>[(0,A y.2.1)]) (fun y=>zc8 l p s (eget l σ s).u (eget l σ s).v y.1 k y.2.1 y.2.2 (IntKind.i64.wrap ((eget l σ s).level+1))=some σ1) (fun y=>y.1) ((k,_,0)) h1 ⟨rfl,trivial⟩ ⟨rfl,trivial⟩ (fun y hI=>?_)))))
 obtain ⟨j,σ3,z⟩:=y
 rcases j with _ | j
 ·simp [zc8] at hI
 dsimp only at hI
 refine TC.sub (env':=[(19,_),(1,_),(2,_),(4,_),(18,_)]) (L':=[(0,_),(1,_),(2,_)]) ⟨rfl,rfl,rfl,rfl,rfl,trivial⟩ ⟨rfl,rfl,rfl,trivial⟩ (sA (TL.lss rfl rfl rfl rfl (fun q1=>?_) (fun q1=>?_)))
 refine dS (TC.condT rfl (TC.skip (TQ.then (TC.seq (TC.block (sA (xmi rfl (xai rfl ?_))))))))
 refine dG (xf 0 zak rfl (xf 0 za5 rfl (xL6 1 zbA rfl rfl (xmi rfl (xmi rfl (xf 0 zbt rfl (xli 2 zaf rfl rfl (xf 1 zbs rfl ?_))))))))
 refine xli 2 zaf rfl rfl ?_
 rw [zc8,if_pos q1] at hI
 obtain ⟨⟨r,σ4⟩,h3,h4⟩:=Option.bind_eq_some_iff.1 hI
 refine TL.callD [0] [0] (zl5 hM hl h3) ⟨rfl,rfl,rfl,rfl,rfl,trivial⟩ ⟨rfl,trivial⟩ zmU rfl rfl rfl rfl rfl trivial (dI (TL.add _ rfl rfl (rfl) rfl rfl (xmi rfl (TL.done (TQ.roundK ((j,_,_)) ⟨h4,Nat.lt_succ_self _⟩ ⟨rfl,trivial⟩ ⟨rfl,trivial⟩ (kE4 rfl rfl rfl rfl trivial) (kL2 rfl rfl trivial))))))
 refine dS (TC.condF rfl (TC.exit (TQ.thenExit (TQ.thenExit (TQ.blockHere (TQ.then (TC.region (xL10 1 za3 rfl rfl ?_))))))))
 refine xmi rfl (xf 2 za2 rfl (xli 2 zaf rfl rfl ?_))
 rw [zc8,if_neg q1] at hI
 cases hI
 refine TL.callD [0] [0] (zhv hM hl h2) ⟨rfl,rfl,rfl,rfl,trivial⟩ ⟨rfl,trivial⟩ zjA rfl rfl rfl rfl rfl trivial (TL.done ?_)
 refine FQ.end0 (Bs:=[A _]) [0] rfl rfl ⟨rfl,trivial⟩ ?_
 exact ⟨rfl,rfl⟩
theorem zpX {S:Type} [MemLike S] {mt:TypeId} {mv:Value} {A:S→Assn} (hM:MemI Tryz.prog mt mv A) {l:Lay} (hl:l.Ok) {p:Pen} {σ:S} {s:Int} {k:Nat} {σ2:S} (h:fell l p k σ s=some σ2):FnD Tryz.prog 128 [adjV l mt mv p,.int .i64 s] [A σ] (.tuple #[]) [A σ2]:=by
 unfold fell at h
 refine Fn.enter (Tryz.func128) rfl rfl (fun w0 R=>?_)
 refine sA (xB 1 rfl (fun bk1=>(dA (xf 0 zak rfl (xf 6 zap rfl (xL4 1 zaN rfl rfl (xmi rfl (TL.callD [0] [0] (zdL hM hl) ⟨rfl,rfl,trivial⟩ ⟨rfl,trivial⟩ zdI rfl rfl rfl rfl rfl trivial (TL.fv 2 3 (.int _ _) rfl zeU zaf rfl rfl rfl ?_)))))))))
 refine TL.add _ rfl rfl (rfl) rfl rfl (xmi rfl (dK (TC.loopK (X:=Nat×S×Int) [1,2,11] [1] (fun y=>[(12,.int .i64 y.2.2)]) (fun y=>[(0,A y.2.1)]) (fun y=>zfD l p s y.1 k y.2.1 y.2.2 (IntKind.i64.wrap ((eget l σ s).level+1))=some σ2) (fun y=>y.1) ((k,_,0)) h ⟨rfl,trivial⟩ ⟨rfl,trivial⟩ (fun y hI=>?_))))
 obtain ⟨j,σ3,z⟩:=y
 rcases j with _ | j
 ·simp [zfD] at hI
 dsimp only at hI
 refine TC.sub (env':=[(12,_),(1,_),(2,_),(11,_)]) (L':=[(0,_),(1,_)]) ⟨rfl,rfl,rfl,rfl,trivial⟩ ⟨rfl,rfl,trivial⟩ (sA (TL.lss rfl rfl rfl rfl (fun q1=>?_) (fun q1=>?_)))
 refine dS (TC.condT rfl (TC.skip (TQ.then (TC.seq (TC.block (sA (xmi rfl (xai rfl ?_))))))))
 refine dG (xf 0 zak rfl (xf 0 za5 rfl (xL6 1 zbA rfl rfl (xmi rfl (xmi rfl ?_)))))
 rw [zfD,if_pos q1] at hI
 obtain ⟨⟨r,σ4⟩,h3,h4⟩:=Option.bind_eq_some_iff.1 hI
 refine TL.callD [0] [0] (zrA hM hl h3) ⟨rfl,rfl,rfl,trivial⟩ ⟨rfl,trivial⟩ zqj rfl rfl rfl rfl rfl trivial (dI (TL.add _ rfl rfl (rfl) rfl rfl (xmi rfl (TL.done (TQ.roundK ((j,_,_)) ⟨h4,Nat.lt_succ_self _⟩ ⟨rfl,trivial⟩ ⟨rfl,trivial⟩ (kE3 rfl rfl rfl trivial) (kL1 rfl trivial))))))
 refine dS (TC.condF rfl (TC.exit (TQ.thenExit (TQ.thenExit (TQ.blockHere ?_)))))
 refine FQ.end0 (Bs:=[A _]) [0] rfl rfl ⟨rfl,trivial⟩ ?_
 rw [zfD,if_neg q1] at hI; cases hI; exact ⟨rfl,rfl⟩
theorem zlj {S:Type} [MemLike S] {mt:TypeId} {mv:Value} {A:S→Assn} (hM:MemI Tryz.prog mt mv A) {l:Lay} (hl:l.Ok) {p:Pen} {σ:S} {s:Int} {k:Nat} {σ2:S} (h:treeUp l p k σ s=some σ2):FnD Tryz.prog 179 [adjV l mt mv p,.int .i64 s] [A σ] (.tuple #[]) [A σ2]:=by
 unfold treeUp at h
 dsimp only at h
 obtain ⟨σ1,h1,h⟩:=Option.bind_eq_some_iff.1 h
 obtain ⟨⟨r,σ3⟩,h2,h3⟩:=Option.bind_eq_some_iff.1 h
 dsimp only at h3
 refine Fn.enter (Tryz.func179) rfl rfl (fun w0 R=>?_)
 refine sA (xB 1 rfl (fun bk1=>(dA (xf 0 zak rfl (xf 6 zap rfl (xL4 1 zaN rfl rfl (xmi rfl (TL.callD [0] [0] (zdL hM hl) ⟨rfl,rfl,trivial⟩ ⟨rfl,trivial⟩ zdI rfl rfl rfl rfl rfl trivial (TL.alloc 2 (cs:=#[.int .i64 0,.int .i64 0,.int .i64 0,.bool false]) zdF rfl rfl rfl (fun _=>trivial) (fun bk2=>?_))))))))))
 refine TL.stW 2 4 [_,_,_,_] rfl rfl rfl rfl rfl rfl zco rfl rfl trivial (dA (xL10 1 za3 rfl rfl (xmi rfl (xf 2 za2 rfl (xli 2 zaf rfl rfl (TL.callD [0] [0] (zhv hM hl h1) ⟨rfl,rfl,rfl,rfl,trivial⟩ ⟨rfl,trivial⟩ zjA rfl rfl rfl rfl rfl trivial (dA (xf 0 zak rfl ?_))))))))
 refine xf 6 zap rfl (xL4 1 zaN rfl rfl (xmi rfl (xf 2 za2 rfl (xli 2 zaf rfl rfl (TL.add _ rfl rfl (rfl) rfl rfl (TL.callD [0] [0] (zkj hM hl) ⟨rfl,rfl,rfl,trivial⟩ ⟨rfl,trivial⟩ zmI rfl rfl rfl rfl rfl trivial (dA (xf 0 zak rfl ?_))))))))
 refine xf 0 za5 rfl (xL6 1 zbA rfl rfl (xf 2 za2 rfl (xli 2 zaf rfl rfl (TL.add _ rfl rfl (rfl) rfl rfl (xmi rfl (xf 0 zbt rfl (xli 2 zaf rfl rfl (xf 1 zbs rfl ?_))))))))
 refine xli 2 zaf rfl rfl (TL.callD [0] [0] (zl5 hM hl h2) ⟨rfl,rfl,rfl,rfl,rfl,trivial⟩ ⟨rfl,trivial⟩ zmU rfl rfl rfl rfl rfl trivial (dG (xL10 1 za3 rfl rfl (xmi rfl (xf 2 za2 rfl (xli 2 zaf rfl rfl (TL.add _ rfl rfl (rfl) rfl rfl (TL.callD [0] [0] (zhv hM hl h3) ⟨rfl,rfl,rfl,rfl,trivial⟩ ⟨rfl,trivial⟩ zjA rfl rfl rfl rfl rfl trivial ?_))))))))
 refine TL.done ?_
 refine FQ.end0 (Bs:=[A _]) [0] rfl rfl ⟨rfl,trivial⟩ ?_
 exact ⟨rfl,rfl⟩
theorem zn6 {S:Type} [MemLike S] {mt:TypeId} {mv:Value} {A:S→Assn} (hM:MemI Tryz.prog mt mv A) {l:Lay} (hl:l.Ok) {p:Pen} {σ:S} {s:Int} {k:Nat} {σ2:S} (h:plain l k σ s=some σ2):FnD Tryz.prog 181 [adjV l mt mv p,.int .i64 s] [A σ] (.tuple #[]) [A σ2]:=by
 unfold plain at h
 dsimp only at h
 obtain ⟨σ1,h1,h2⟩:=Option.bind_eq_some_iff.1 h
 refine Fn.enter (Tryz.func181) rfl rfl (fun w0 R=>?_)
 refine sA (xB 1 rfl (fun bk1=>(dA (xf 0 zak rfl (xf 6 zap rfl (xL4 1 zaN rfl rfl (xmi rfl (TL.callD [0] [0] (zdL hM hl) ⟨rfl,rfl,trivial⟩ ⟨rfl,trivial⟩ zdI rfl rfl rfl rfl rfl trivial (TL.fv 2 3 (.int _ _) rfl zeU zaf rfl rfl rfl ?_)))))))))
 refine xai rfl (dA (xf 0 zak rfl (xL10 1 zan rfl rfl (xmi rfl (TL.callD [0] [0] (zgy hM hl h1) ⟨rfl,rfl,trivial⟩ ⟨rfl,trivial⟩ zjD rfl rfl rfl rfl rfl trivial (dA (xf 0 zak rfl (xf 6 zap rfl ?_))))))))
 refine xL4 1 zaN rfl rfl (xmi rfl (xmi rfl (TL.add _ rfl rfl (rfl) rfl rfl (TL.callD [0] [0] (zkj hM hl) ⟨rfl,rfl,rfl,trivial⟩ ⟨rfl,trivial⟩ zmI rfl rfl rfl rfl rfl trivial (dG (xf 0 zak rfl (xL10 1 zan rfl rfl (xmi rfl ?_))))))))
 refine TL.callD [0] [0] (ziO hM hl h2) ⟨rfl,rfl,trivial⟩ ⟨rfl,trivial⟩ zm6 rfl rfl rfl rfl rfl trivial (TL.done ?_)
 refine FQ.end0 (Bs:=[A _]) [0] rfl rfl ⟨rfl,trivial⟩ ?_
 exact ⟨rfl,rfl⟩
theorem zeO {S:Type} [MemLike S] {mt:TypeId} {mv:Value} {A:S→Assn} (hM:MemI Tryz.prog mt mv A) {l:Lay} (hl:l.Ok) {p:Pen} {σ:S} {i v m r:Int} {k:Nat} {σ2:S} (h0:0≤m) (h:lfirst l k σ i v m=some (r,σ2)):FnD Tryz.prog 178 [adjV l mt mv p,.int .i64 i,.int .i64 v,.int .i64 m] [A σ] (.int .i64 r) [A σ2]:=by
 unfold lfirst at h
 obtain ⟨⟨a,σ1⟩,h1,h2⟩:=Option.bind_eq_some_iff.1 h
 refine Fn.enter (Tryz.func178) rfl rfl (fun w0 R=>?_)
 refine sA (xB 1 rfl (fun bk1=>(xai rfl (dS (TC.draw [(0,true),(1,true),(2,true),(3,true),(4,true),(5,true),(6,true),(7,true),(8,true),(9,true),(10,true),(11,true),(12,true),(13,true),(16,true),(14,false),(15,false),(17,false),(18,true)] [1] fc_m (by kernel_rfl) (xf 0 zak rfl (xf 0 za5 rfl (xf 0 zai rfl (xL6 1 zab rfl rfl ?_)))))))))
 refine xf 0 zak rfl (xf 0 za5 rfl (xf 0 zai rfl (xL6 1 zab rfl rfl (xf 0 zak rfl (xf 6 zap rfl (xf 0 zaw rfl (xL3 1 zaa rfl rfl (xmi rfl ?_))))))))
 refine xmi rfl (xmi rfl (TL.callD [] [] (zcC hl) ⟨rfl,rfl,rfl,trivial⟩ trivial zgj rfl rfl rfl rfl rfl (kL1 rfl trivial) (TL.callD [0] [0] (zef hM hl h1) ⟨rfl,rfl,trivial⟩ ⟨rfl,trivial⟩ zgi rfl rfl rfl rfl rfl (kL1 rfl trivial) (TL.callD [0] [0] (zon hM hl h0 h2) ⟨rfl,rfl,rfl,trivial⟩ ⟨rfl,trivial⟩ zp7 rfl rfl rfl rfl rfl (kL1 rfl trivial) (xai rfl (dR ?_))))))
 refine FQ.ret1 (v:=(.int _ _)) (Bs:=[A _]) [0] rfl rfl rfl ⟨rfl,trivial⟩ ?_
 exact ⟨rfl,rfl⟩
theorem znN {S:Type} [MemLike S] {mt:TypeId} {mv:Value} {A:S→Assn} (hM:MemI Tryz.prog mt mv A) {l:Lay} (hl:l.Ok) {p:Pen} {σ:S} {i v:Int} {k:Nat} {σ2:S} (h:trees l p k σ i v=some σ2):FnD Tryz.prog 157 [adjV l mt mv p,.int .i64 i,.int .i64 v] [A σ] (.tuple #[]) [A σ2]:=by
 unfold trees at h
 obtain ⟨⟨a,σ1⟩,h1,h2⟩:=Option.bind_eq_some_iff.1 h
 dsimp only at h2
 refine Fn.enter (Tryz.func157) rfl rfl (fun w0 R=>?_)
 refine sA (xB 1 rfl (fun bk1=>(dA (xL10 1 za3 rfl rfl (xmi rfl (xmi rfl (TL.callD [0] [0] (zeO hM hl (by decide) h1) ⟨rfl,rfl,rfl,rfl,trivial⟩ ⟨rfl,trivial⟩ zhK rfl rfl rfl rfl rfl trivial (xai rfl (dK ?_)))))))))
 refine TC.loopK (X:=Nat×S×Int) [1,2,3] [1] (fun y=>[(6,.int .i64 y.2.2)]) (fun y=>[(0,A y.2.1)]) (fun y=>zc3 l p i v y.1 k y.2.1 y.2.2=some σ2) (fun y=>y.1) ((k,_,_)) h2 ⟨rfl,trivial⟩ ⟨rfl,trivial⟩ (fun y hI=>?_)
 obtain ⟨j,σ3,z⟩:=y
 rcases j with _ | j
 ·simp [zc3] at hI
 dsimp only at hI
 refine TC.sub (env':=[(6,_),(1,_),(2,_),(3,_)]) (L':=[(0,_),(1,_)]) ⟨rfl,rfl,rfl,rfl,trivial⟩ ⟨rfl,rfl,trivial⟩ (sB (xmi rfl (TL.neq rfl rfl rfl rfl (fun q1=>?_) (fun q1=>?_))))
 refine TL.done (TQ.then (TC.condT rfl (TC.skip (TQ.then (TC.seq (TC.block (sA (xf 0 zak rfl ?_))))))))
 refine xf 6 zap rfl (xf 0 zaw rfl (xL3 1 zaa rfl rfl (xmi rfl (TL.callD [] [] (zei hl) ⟨rfl,rfl,trivial⟩ trivial zgk rfl rfl rfl rfl rfl trivial (xmu rfl (TL.ext (.agg _) rfl rfl rfl rfl (TL.ext (.bool _) rfl rfl rfl rfl (TL.alloc 2 (cs:=#[.bool false,.int .i64 0,.int .i64 0,.int .i64 0,.int .i64 0]) zdE rfl rfl rfl (fun _=>trivial) (fun bk2=>?_)))))))))
 refine TL.stW 2 5 [_,_,_,_,_] rfl rfl rfl rfl rfl rfl zbz rfl rfl trivial (xab rfl (dG (xL10 1 za3 rfl rfl (xf 3 zkW rfl (xli 2 zaf rfl rfl ?_)))))
 rw [zc3,if_pos q1] at hI
 obtain ⟨σ4,h3,hI⟩:=Option.bind_eq_some_iff.1 hI
 obtain ⟨⟨r,σ5⟩,h5,h6⟩:=Option.bind_eq_some_iff.1 hI
 refine TL.callD [0] [0] (zlj hM hl h3) ⟨rfl,rfl,trivial⟩ ⟨rfl,trivial⟩ zqd rfl rfl rfl rfl rfl trivial (dI (xL10 1 za3 rfl rfl (xmi rfl (xmi rfl (TL.callD [0] [0] (zeO hM hl (by decide) h5) ⟨rfl,rfl,rfl,rfl,trivial⟩ ⟨rfl,trivial⟩ zhK rfl rfl rfl rfl rfl trivial (xai rfl (TL.done (TQ.roundK ((j,_,_)) ⟨h6,Nat.lt_succ_self _⟩ ⟨rfl,trivial⟩ ⟨rfl,trivial⟩ (kE3 rfl rfl rfl trivial) (kL1 rfl trivial)))))))))
 refine TL.done (TQ.then (TC.condF rfl (TC.exit (TQ.thenExit (TQ.thenExit (TQ.blockHere ?_))))))
 refine FQ.end0 (Bs:=[A _]) [0] rfl rfl ⟨rfl,trivial⟩ ?_
 rw [zc3,if_neg q1] at hI; cases hI; exact ⟨rfl,rfl⟩
theorem zpt {S:Type} [MemLike S] {mt:TypeId} {mv:Value} {A:S→Assn} (hM:MemI Tryz.prog mt mv A) {l:Lay} (hl:l.Ok) {p:Pen} {σ:S} {i v:Int} {r:Int×Bool} {k:Nat} {σ2:S} (h:seek l k σ i v=some (r,σ2)):FnD Tryz.prog 158 [adjV l mt mv p,.int .i64 i,.int .i64 v] [A σ] (.tuple #[.int .i64 r.1,.bool r.2]) [A σ2]:=by
 unfold seek at h
 obtain ⟨⟨a,σ1⟩,h1,h2⟩:=Option.bind_eq_some_iff.1 h
 dsimp only at h2
 refine Fn.enter (Tryz.func158) rfl rfl (fun w0 R=>?_)
 refine sA (xB 1 rfl (fun bk1=>(xai rfl (xaf rfl (dB (xL10 1 za3 rfl rfl (xmi rfl (xmi rfl (TL.callD [0] [0] (zeO hM hl (by decide) h1) ⟨rfl,rfl,rfl,rfl,trivial⟩ ⟨rfl,trivial⟩ zhK rfl rfl rfl rfl rfl trivial ?_)))))))))
 refine xai rfl (dK (TC.loopK (X:=Nat×S×Int) [1,2,3] [1] (fun y=>[(8,.int .i64 y.2.2),(6,.int .i64 0),(7,.bool false)]) (fun y=>[(0,A y.2.1)]) (fun y=>zee l i v y.1 k y.2.1 y.2.2=some (r,σ2)) (fun y=>y.1) ((k,_,_)) h2 ⟨rfl,rfl,rfl,trivial⟩ ⟨rfl,trivial⟩ (fun y hI=>?_)))
 obtain ⟨j,σ3,z⟩:=y
 rcases j with _ | j
 ·simp [zee] at hI
 dsimp only at hI
 refine TC.sub (env':=[(8,_),(6,_),(7,_),(1,_),(2,_),(3,_)]) (L':=[(0,_),(1,_)]) ⟨rfl,rfl,rfl,rfl,rfl,rfl,trivial⟩ ⟨rfl,rfl,trivial⟩ (sB (xmi rfl (TL.neq rfl rfl rfl rfl (fun q1=>?_) (fun q1=>?_))))
 refine TL.done (TQ.then (TC.condT rfl (TC.skip (TQ.then (TC.seq (TC.block (sA (xf 0 zak rfl ?_))))))))
 refine xf 6 zap rfl (xf 0 zaw rfl (xL3 1 zaa rfl rfl (xmi rfl (TL.callD [] [] (zei hl) ⟨rfl,rfl,trivial⟩ trivial zgk rfl rfl rfl rfl rfl trivial (xmu rfl (TL.ext (.agg _) rfl rfl rfl rfl (TL.ext (.bool _) rfl rfl rfl rfl (TL.alloc 2 (cs:=#[.bool false,.int .i64 0,.int .i64 0,.int .i64 0,.int .i64 0]) zdE rfl rfl rfl (fun _=>trivial) (fun bk2=>?_)))))))))
 refine TL.stW 2 5 [_,_,_,_,_] rfl rfl rfl rfl rfl rfl zbz rfl rfl trivial (xab rfl (dA (xf 0 zak rfl (xL10 1 zan rfl rfl (xf 2 zkX rfl (xli 2 zaf rfl rfl (xmi rfl (TL.callD [0] [0] (znG hM hl) ⟨rfl,rfl,rfl,trivial⟩ ⟨rfl,trivial⟩ zqc rfl rfl rfl rfl rfl trivial ?_))))))))
 refine xmu rfl (xei rfl rfl (TL.ext (.bool _) rfl rfl rfl rfl (xai rfl (xab rfl (dB (xf 0 zak rfl (xf 6 zap rfl (xL4 1 zaN rfl rfl ?_))))))))
 refine xmi rfl (TL.callD [0] [0] (zdL hM hl) ⟨rfl,rfl,trivial⟩ ⟨rfl,trivial⟩ zdI rfl rfl rfl rfl rfl trivial (TL.alloc 3 (cs:=#[.int .i64 0,.int .i64 0,.int .i64 0,.bool false]) zdF rfl rfl rfl (fun _=>trivial) (fun bk3=>(TL.stW 3 4 [_,_,_,_] rfl rfl rfl rfl rfl rfl zco rfl rfl trivial (dA (xf 0 zak rfl (xf 0 za5 rfl (xL6 1 zbA rfl rfl (xmi rfl ?_)))))))))
 refine xf 0 zbt rfl (xli 3 zaf rfl rfl (xf 1 zbs rfl (xli 3 zaf rfl rfl ?_)))
 rw [zee,if_pos q1] at hI
 dsimp only at hI
 obtain ⟨⟨b,σ4⟩,h3,hI⟩:=Option.bind_eq_some_iff.1 hI
 dsimp only at hI
 refine TL.callD [0] [0] (zlw hM hl h3) ⟨rfl,rfl,rfl,rfl,trivial⟩ ⟨rfl,trivial⟩ zm8 rfl rfl rfl rfl rfl trivial (TL.cases rfl (fun q2=>?_) (fun q2=>?_))
 refine xnt rfl (TL.done (TQ.then (TC.condF rfl (TC.skip (TQ.then (TC.region (xL10 1 za3 rfl rfl (xmi rfl ?_))))))))
 rw [if_pos (by simpa using q2)] at hI
 obtain ⟨σ5,h4,hI⟩:=Option.bind_eq_some_iff.1 hI
 obtain ⟨⟨r2,σ6⟩,h5,h6⟩:=Option.bind_eq_some_iff.1 hI
 refine TL.callD [0] [0] (zn6 hM hl h4) ⟨rfl,rfl,trivial⟩ ⟨rfl,trivial⟩ zqb rfl rfl rfl rfl rfl trivial (dI (xL10 1 za3 rfl rfl (xmi rfl (xmi rfl (TL.callD [0] [0] (zeO hM hl (by decide) h5) ⟨rfl,rfl,rfl,rfl,trivial⟩ ⟨rfl,trivial⟩ zhK rfl rfl rfl rfl rfl trivial (xai rfl (TL.done (TQ.roundK ((j,_,_)) ⟨h6,Nat.lt_succ_self _⟩ ⟨rfl,rfl,rfl,trivial⟩ ⟨rfl,trivial⟩ (kE3 rfl rfl rfl trivial) (kL1 rfl trivial)))))))))
 refine xnf rfl (dT rfl (xmi rfl (xai rfl (xat rfl (dRR (TQ.blockRet (TQ.thenRet (TQ.thenRet ?_))))))))
 refine TQ.blockRet (TQ.thenRet ?_)
 refine FQ.ret2 (v:=(.int _ _)) (x:=(.bool true)) (Bs:=[A _]) [0] rfl rfl rfl rfl ⟨rfl,trivial⟩ ?_
 rw [if_neg (by simpa using q2)] at hI; cases hI; exact ⟨rfl,rfl⟩
 refine dE rfl (sA (xai rfl (xaf rfl (dR ?_))))
 refine FQ.ret2 (v:=(.int _ _)) (x:=(.bool false)) (Bs:=[A _]) [0] rfl rfl rfl rfl ⟨rfl,trivial⟩ ?_
 rw [zee,if_neg q1] at hI; cases hI; exact ⟨rfl,rfl⟩
theorem zkz {S:Type} [MemLike S] {mt:TypeId} {mv:Value} {A:S→Assn} (hM:MemI Tryz.prog mt mv A) {l:Lay} (hl:l.Ok) {p:Pen} {σ:S} {i u v r:Int} {k:Nat} {σ2:S} (h:smaller l k σ i u v=some (r,σ2)):FnD Tryz.prog 156 [adjV l mt mv p,.int .i64 i,.int .i64 u,.int .i64 v] [A σ] (.int .i64 r) [A σ2]:=by
 unfold smaller at h
 obtain ⟨⟨a,σ1⟩,h1,h⟩:=Option.bind_eq_some_iff.1 h
 obtain ⟨⟨b,σ3⟩,h2,h⟩:=Option.bind_eq_some_iff.1 h
 dsimp only at h2 h
 cases h
 refine Fn.enter (Tryz.func156) rfl rfl (fun w0 R=>?_)
 refine sA (xB 1 rfl (fun bk1=>(xai rfl (dS (TC.seq (TC.draw [(0,true),(1,true),(2,true),(3,true),(4,true),(6,true),(7,true),(8,true),(9,true),(10,true),(5,false),(11,false),(12,true)] [1] fc_m (by kernel_rfl) (xf 0 zak rfl (xf 0 za5 rfl (xL6 1 zbA rfl rfl ?_)))))))))
 refine xmi rfl (xmi rfl (xf 0 zak rfl (xf 0 za5 rfl (xL6 1 zbA rfl rfl (xmi rfl (xmi rfl (TL.callD [0] [0] (zkn hM hl h1) ⟨rfl,rfl,rfl,trivial⟩ ⟨rfl,trivial⟩ zmK rfl rfl rfl rfl rfl (kL1 rfl trivial) (TL.callD [0] [0] (zkn hM hl h2) ⟨rfl,rfl,rfl,trivial⟩ ⟨rfl,trivial⟩ zmK rfl rfl rfl rfl rfl (kL1 rfl trivial) ?_))))))))
 refine TL.lss rfl rfl rfl rfl (fun q1=>?_) (fun q1=>?_)
 refine dT rfl (xmi rfl (xai rfl (dRR ?_)))
 refine FQ.ret1 (v:=(.int _ _)) (Bs:=[A _]) [0] rfl rfl rfl ⟨rfl,trivial⟩ ?_
 first | exact ⟨iE (by rw [if_pos q1]),rfl⟩ | exact ⟨iE (by rw [if_neg q1]),rfl⟩
 refine dF rfl (xmi rfl (xai rfl (dR ?_)))
 refine FQ.ret1 (v:=(.int _ _)) (Bs:=[A _]) [0] rfl rfl rfl ⟨rfl,trivial⟩ ?_
 first | exact ⟨iE (by rw [if_pos q1]),rfl⟩ | exact ⟨iE (by rw [if_neg q1]),rfl⟩
theorem zhD {mt:TypeId} {mv:Value} {l:Lay} {p:Pen}:FnD Tryz.prog 37 [layV l,.iface mt mv,.agg #[.int .i64 p.thread,.int .i64 p.tag]] [] (adjV l mt mv p) []:=by
 refine Fn.enter (Tryz.func37) rfl rfl (fun w0 R=>?_)
 refine sA (xB 0 rfl (fun bk0=>(xB 1 rfl (fun bk1=>(TL.alloc 2 (cs:=#[.int .i64 0,.int .i64 0,.int .i64 0,.nilIface,.int .i64 0,.int .i64 0,.int .i64 0,.int .i64 0,.int .i64 0,.nilIface]) ziB rfl rfl rfl (fun _=>trivial) (fun bk2=>(dA (xL3 0 zaa rfl rfl (xmc rfl (xL2 1 zbB rfl rfl (TL.bld [.int .i64 0,.int .i64 0,.int .i64 0,.nilIface,.int .i64 0,.int .i64 0] [(.agg _),(.iface _ _),(.agg _)] [_,_,_,_,_,_] ziC zmt ⟨rfl,rfl,rfl,trivial⟩ ⟨rfl,rfl⟩ rfl rfl ?_)))))))))))
 refine TL.bld [.int .i64 0,.int .i64 0,.int .i64 0,.nilIface,.int .i64 0,.int .i64 0] [(.agg _)] [_,_,_,_,_,_] zoY zrj ⟨rfl,trivial⟩ ⟨rfl,rfl⟩ rfl rfl (TL.alloc 3 (cs:=#[.int .i64 0,.int .i64 0,.int .i64 0,.nilIface,.int .i64 0,.int .i64 0]) zoY rfl rfl rfl (fun _=>trivial) (fun bk3=>(TL.stW 3 6 [_,_,_,_,_,_] rfl rfl rfl rfl rfl rfl zbA rfl rfl trivial (dA (xL6 3 zbA rfl rfl (xL3 0 zaa rfl rfl (xmc rfl (TL.bld [.int .i64 0,.int .i64 0,.int .i64 0,.nilIface] [(.agg _),(.iface _ _)] [_,_,_,_] zra zri ⟨rfl,rfl,trivial⟩ ⟨rfl,rfl⟩ rfl rfl ?_))))))))
 refine TL.bld [.int .i64 0,.int .i64 0,.int .i64 0,.nilIface,.int .i64 0,.int .i64 0,.int .i64 0,.int .i64 0,.int .i64 0,.nilIface] [(.agg _),(.agg _)] [_,_,_,_,_,_,_,_,_,_] zq9 zrh ⟨rfl,rfl,trivial⟩ ⟨rfl,rfl⟩ rfl rfl (TL.bld [.int .i64 0,.int .i64 0,.int .i64 0,.nilIface,.int .i64 0,.int .i64 0,.int .i64 0,.int .i64 0,.int .i64 0,.nilIface] [(.agg _)] [_,_,_,_,_,_,_,_,_,_] zq8 zrg ⟨rfl,trivial⟩ ⟨rfl,rfl⟩ rfl rfl (TL.bld [.int .i64 0,.int .i64 0,.int .i64 0,.nilIface,.int .i64 0,.int .i64 0,.int .i64 0,.int .i64 0,.int .i64 0,.nilIface] [(.agg _)] [_,_,_,_,_,_,_,_,_,_] ziB zrf ⟨rfl,trivial⟩ ⟨rfl,rfl⟩ rfl rfl ?_))
 refine TL.stW 2 10 [_,_,_,_,_,_,_,_,_,_] rfl rfl rfl rfl rfl rfl zaL rfl rfl trivial (dR ?_)
 refine FQ.retG (rs:=[.cell 6 49]) [(.agg _)] (Bs:=[]) [] rfl ⟨⟨_,_,_,_,_,2,rfl,rfl,.inr ⟨10,[_,_,_,_,_,_,_,_,_,_],zaL,rfl,rfl⟩⟩,trivial⟩ rfl rfl trivial ?_
 exact ⟨rfl,rfl⟩
theorem zl7 {S:Type} [MemLike S] {mt:TypeId} {mv:Value} {A:S→Assn} (hM:MemI Tryz.prog mt mv A) {l:Lay} (hl:l.Ok) {p:Pen} {σ:S} {u v:Int} {b:Bool} {k:Nat} {σ2:S} (h:same l k σ 0 u v=some (b,σ2)):FnD Tryz.prog 42 [adjV l mt mv p,.int .i64 u,.int .i64 v] [A σ] (.bool b) [A σ2]:=by
 refine Fn.enter (Tryz.func42) rfl rfl (fun w0 R=>?_)
 refine sA (xB 1 rfl (fun bk1=>(xaf rfl (dA (xf 0 zaE rfl (xf 0 zak rfl (xf 0 za5 rfl (xL6 1 zbA rfl rfl (xmi rfl ?_)))))))))
 refine xmi rfl (TL.callD [0] [0] (zlw hM hl h) ⟨rfl,rfl,rfl,rfl,trivial⟩ ⟨rfl,trivial⟩ zm8 rfl rfl rfl rfl rfl trivial (xab rfl (dR ?_)))
 refine FQ.ret1 (v:=(.bool _)) (Bs:=[A _]) [0] rfl rfl rfl ⟨rfl,trivial⟩ ?_
 exact ⟨rfl,rfl⟩
theorem zfc {S:Type} [MemLike S] {mt:TypeId} {mv:Value} {A:S→Assn} (hM:MemI Tryz.prog mt mv A) {l:Lay} (hl:l.Ok) {p:Pen} {σ:S} {s u v:Int} {b:Bool} {k:Nat} {σ2:S} (h:zdm l p k σ s u v=some (b,σ2)):FnD Tryz.prog 74 [adjV l mt mv p,.int .i64 s,.int .i64 u,.int .i64 v] [A σ] (.bool b) [A σ2]:=by
 unfold zdm at h
 obtain ⟨⟨j,σ1⟩,h1,h⟩:=Option.bind_eq_some_iff.1 h
 dsimp only at h
 refine Fn.enter (Tryz.func74) rfl rfl (fun w0 R=>?_)
 refine sA (xB 1 rfl (fun bk1=>(xaf rfl (dA (xL10 1 zaL rfl rfl (xmi rfl (xmi rfl (TL.callD [0] [0] (zl7 hM hl h1) ⟨rfl,rfl,rfl,trivial⟩ ⟨rfl,trivial⟩ zrv rfl rfl rfl rfl rfl trivial (xab rfl ?_)))))))))
 refine dA (xf 0 zaE rfl (xf 0 zak rfl (xf 6 zap rfl (xL4 1 zaN rfl rfl (xmi rfl (xmi rfl (xmi rfl (TL.callD [0] [0] (zqx hM hl) ⟨rfl,rfl,rfl,rfl,rfl,rfl,trivial⟩ ⟨rfl,trivial⟩ zqs rfl rfl rfl rfl rfl trivial ?_))))))))
 refine dB (xmb rfl (TL.cases rfl (fun q1=>?_) (fun q1=>?_)))
 refine TL.done (TQ.then (TC.condT rfl (TC.region (xf 0 zaE rfl (xf 0 zak rfl (xL10 1 zan rfl rfl (xmi rfl ?_)))))))
 rw [if_pos (by simpa using q1)] at h
 obtain ⟨σ3,h2,h3⟩:=Option.bind_eq_some_iff.1 h
 cases h3
 refine TL.callD [0] [0] (ziO hM hl h2) ⟨rfl,rfl,trivial⟩ ⟨rfl,trivial⟩ zm6 rfl rfl rfl rfl rfl trivial (dA (xmb rfl (TL.not _ _ rfl rfl rfl rfl (xab rfl (dR ?_)))))
 refine FQ.ret1 (v:=(.bool _)) (Bs:=[A _]) [0] rfl rfl rfl ⟨rfl,trivial⟩ ?_
 first | exact ⟨by rw [q1]; rfl,rfl⟩ | exact ⟨by simp [*],rfl⟩
 refine TL.done (TQ.then (TC.condF rfl (TC.region (xf 0 zaE rfl (xL10 1 za3 rfl rfl (xmi rfl ?_))))))
 rw [if_neg (by simpa using q1)] at h
 obtain ⟨σ3,h2,h3⟩:=Option.bind_eq_some_iff.1 h
 cases h3
 refine TL.callD [0] [0] (zjU hM hl h2) ⟨rfl,rfl,trivial⟩ ⟨rfl,trivial⟩ zm5 rfl rfl rfl rfl rfl trivial (dA (xmb rfl (TL.not _ _ rfl rfl rfl rfl (xab rfl (dR ?_)))))
 refine FQ.ret1 (v:=(.bool _)) (Bs:=[A _]) [0] rfl rfl rfl ⟨rfl,trivial⟩ ?_
 first | exact ⟨by rw [q1]; rfl,rfl⟩ | exact ⟨by simp [*],rfl⟩
theorem zkG {S:Type} [MemLike S] {mt:TypeId} {mv:Value} {A:S→Assn} (hM:MemI Tryz.prog mt mv A) {l:Lay} (hl:l.Ok) {p:Pen} {σ:S} {i u v:Int} {r:Int×Bool} {k:Nat} {σ2:S} (h:replace l p k σ i u v=some (r,σ2)):FnD Tryz.prog 129 [adjV l mt mv p,.int .i64 i,.int .i64 u,.int .i64 v] [A σ] (.tuple #[.int .i64 r.1,.bool r.2]) [A σ2]:=by
 unfold replace at h
 refine Fn.enter (Tryz.func129) rfl rfl (fun w0 R=>?_)
 refine sA (xB 1 rfl (fun bk1=>(xai rfl (xaf rfl (dB (xmi rfl (TL.add _ rfl rfl (rfl) rfl rfl (xf 0 zaE rfl (xf 0 zak rfl ?_)))))))))
 refine xf 6 zap rfl (xf 0 zaw rfl (xL3 1 zaa rfl rfl (TL.callD [] [] (zbG hl) ⟨rfl,trivial⟩ trivial zd9 rfl rfl rfl rfl rfl trivial (TL.geq rfl rfl rfl rfl (fun q1=>?_) (fun q1=>?_)))))
 refine dT rfl (xai rfl (xaf rfl (dRR ?_)))
 refine FQ.ret2 (v:=(.int _ _)) (x:=(.bool false)) (Bs:=[A _]) [0] rfl rfl rfl rfl ⟨rfl,trivial⟩ ?_
 first | (rw [if_pos (by omega)] at h; cases h; exact ⟨rfl,rfl⟩) | exact ⟨by dsimp only at q2; rw [q2],rfl⟩ | (rw [if_neg (by simpa using q2)] at h; cases h; exact ⟨by simp_all,rfl⟩)
 refine dF rfl (xf 0 zaE rfl (xL10 1 za3 rfl rfl (xmi rfl (xmi rfl (xmi rfl ?_)))))
 rw [if_neg (by omega)] at h
 obtain ⟨⟨w,σ3⟩,h1,h⟩:=Option.bind_eq_some_iff.1 h
 obtain ⟨σ4,h2,h⟩:=Option.bind_eq_some_iff.1 h
 obtain ⟨⟨⟨b,ok⟩,σ5⟩,h3,h⟩:=Option.bind_eq_some_iff.1 h
 dsimp only at h2 h3 h
 refine TL.callD [0] [0] (zkz hM hl h1) ⟨rfl,rfl,rfl,rfl,trivial⟩ ⟨rfl,trivial⟩ zqi rfl rfl rfl rfl rfl trivial (xai rfl (dA (xf 0 zaE rfl (xL10 1 za3 rfl rfl (xmi rfl (xmi rfl (TL.callD [0] [0] (znN hM hl h2) ⟨rfl,rfl,rfl,trivial⟩ ⟨rfl,trivial⟩ zqh rfl rfl rfl rfl rfl trivial (dB ?_))))))))
 refine xf 0 zaE rfl (xL10 1 za3 rfl rfl (xmi rfl (xmi rfl (TL.callD [0] [0] (zpt hM hl h3) ⟨rfl,rfl,rfl,trivial⟩ ⟨rfl,trivial⟩ zqg rfl rfl rfl rfl rfl trivial (xmu rfl (xei rfl rfl (TL.ext (.bool _) rfl rfl rfl rfl (xai rfl ?_))))))))
 refine xab rfl (dA (xmb rfl (TL.cases rfl (fun q2=>?_) (fun q2=>?_))))
 refine dT rfl (xf 0 zaE rfl (xf 0 zak rfl (xL10 1 zan rfl rfl (xmi rfl ?_))))
 rw [if_pos (by simpa using q2)] at h
 obtain ⟨σ6,h4,h⟩:=Option.bind_eq_some_iff.1 h
 obtain ⟨σ7,h5,h6⟩:=Option.bind_eq_some_iff.1 h
 cases h6
 refine TL.callD [0] [0] (zgy hM hl h4) ⟨rfl,rfl,trivial⟩ ⟨rfl,trivial⟩ zjD rfl rfl rfl rfl rfl trivial (dG (xf 0 zaE rfl (xL10 1 za3 rfl rfl (xmi rfl (TL.callD [0] [0] (zjU hM hl h5) ⟨rfl,rfl,trivial⟩ ⟨rfl,trivial⟩ zm5 rfl rfl rfl rfl rfl trivial (dA (xmi rfl (xmb rfl ?_))))))))
 refine xai rfl (xab rfl (dR ?_))
 refine FQ.ret2 (v:=(.int _ _)) (x:=(.bool _)) (Bs:=[A _]) [0] rfl rfl rfl rfl ⟨rfl,trivial⟩ ?_
 first | (rw [if_pos (by omega)] at h; cases h; exact ⟨rfl,rfl⟩) | exact ⟨by dsimp only at q2; rw [q2],rfl⟩ | (rw [if_neg (by simpa using q2)] at h; cases h; exact ⟨by simp_all,rfl⟩)
 refine dF rfl (xmi rfl (xmb rfl (xai rfl (xab rfl (dR ?_)))))
 refine FQ.ret2 (v:=(.int _ _)) (x:=(.bool _)) (Bs:=[A _]) [0] rfl rfl rfl rfl ⟨rfl,trivial⟩ ?_
 first | (rw [if_pos (by omega)] at h; cases h; exact ⟨rfl,rfl⟩) | exact ⟨by dsimp only at q2; rw [q2],rfl⟩ | (rw [if_neg (by simpa using q2)] at h; cases h; exact ⟨by simp_all,rfl⟩)
theorem zcB {S:Type} [MemLike S] {mt:TypeId} {mv:Value} {A:S→Assn} (hM:MemI Tryz.prog mt mv A) {l:Lay} (hl:l.Ok) {p:Pen} {σ:S} {s b:Int} {t o:Bool} {k:Nat} {σ2:S} (h:zcw l p k σ s=some ((t,b,o),σ2)):FnD Tryz.prog 96 [adjV l mt mv p,.int .i64 s] [A σ] (.tuple #[.bool t,.int .i64 b,.bool o]) [A σ2]:=by
 unfold zcw at h
 dsimp only at h
 refine Fn.enter (Tryz.func96) rfl rfl (fun w0 R=>?_)
 refine sA (xB 1 rfl (fun bk1=>(xaf rfl (xai rfl (xaf rfl (dA (xf 0 zaE rfl (xf 0 zak rfl (xf 6 zap rfl ?_)))))))))
 refine xL4 1 zaN rfl rfl (xmi rfl (TL.callD [0] [0] (zdL hM hl) ⟨rfl,rfl,trivial⟩ ⟨rfl,trivial⟩ zdI rfl rfl rfl rfl rfl trivial (TL.alloc 2 (cs:=#[.int .i64 0,.int .i64 0,.int .i64 0,.bool false]) zdF rfl rfl rfl (fun _=>trivial) (fun bk2=>(TL.stW 2 4 [_,_,_,_] rfl rfl rfl rfl rfl rfl zco rfl rfl trivial (dB (xf 3 zjt rfl (xlb 2 zb3 rfl rfl (TL.not _ _ rfl rfl rfl rfl ?_)))))))))
 refine TL.done (TQ.then (TC.cond rfl (fun q1=>?_) (fun q1=>?_)))
 refine sA (xf 0 zaE rfl (xf 0 zak rfl (xL10 1 zan rfl rfl (xmi rfl ?_))))
 rw [if_neg (by simpa using q1)] at h
 obtain ⟨σ3,h1,h2⟩:=Option.bind_eq_some_iff.1 h
 cases h2
 refine TL.callD [0] [0] (zgy hM hl h1) ⟨rfl,rfl,trivial⟩ ⟨rfl,trivial⟩ zjD rfl rfl rfl rfl rfl trivial (dA (xf 0 zaE rfl (xf 0 zak rfl (xf 6 zap rfl (xL4 1 zaN rfl rfl (xf 0 zbt rfl (xli 2 zaf rfl rfl (xf 1 zbs rfl ?_))))))))
 refine xli 2 zaf rfl rfl (TL.callD [0] [0] (zg6 hM hl) ⟨rfl,rfl,rfl,trivial⟩ ⟨rfl,trivial⟩ zm0 rfl rfl rfl rfl rfl trivial (dA (xaf rfl (xai rfl (xaf rfl (dRR ?_))))))
 refine FQ.ret3 (v:=(.bool false)) (x:=(.int _ _)) (y:=(.bool false)) (Bs:=[A _]) [0] rfl rfl rfl rfl rfl ⟨rfl,trivial⟩ ?_
 exact ⟨rfl,rfl⟩
 refine TC.skip (TQ.then (sA (xf 0 zaE rfl (xL10 1 za3 rfl rfl (xmi rfl ?_)))))
 rw [if_pos (by simpa using q1)] at h
 obtain ⟨σ3,h1,h⟩:=Option.bind_eq_some_iff.1 h
 obtain ⟨⟨⟨b2,o2⟩,σ4⟩,h2,h3⟩:=Option.bind_eq_some_iff.1 h
 dsimp only at h2 h3
 cases h3
 refine TL.callD [0] [0] (zpX hM hl h1) ⟨rfl,rfl,trivial⟩ ⟨rfl,trivial⟩ zqo rfl rfl rfl rfl rfl trivial (dA (xf 0 zaE rfl (xf 0 zak rfl (xf 6 zap rfl (xL4 1 zaN rfl rfl (xf 0 zbt rfl (xli 2 zaf rfl rfl (xf 1 zbs rfl ?_))))))))
 refine xli 2 zaf rfl rfl (TL.callD [0] [0] (zg6 hM hl) ⟨rfl,rfl,rfl,trivial⟩ ⟨rfl,trivial⟩ zm0 rfl rfl rfl rfl rfl trivial (dB (xf 2 za2 rfl (xli 2 zaf rfl rfl (xai rfl (dK (TC.loopK (X:=Nat×S×Int×Int×Bool) [2,4,7] [1,2] (fun y=>[(8,.int .i64 y.2.2.1),(5,.int .i64 y.2.2.2.1),(6,.bool y.2.2.2.2)]) (fun y=>[(0,A y.2.1)]) (fun y=>zbK l p (eget l σ s).u (eget l σ s).v y.1 k y.2.1 y.2.2.1 (y.2.2.2.1,y.2.2.2.2)=some ((b,o),σ2)) (fun y=>y.1) ((k,_,_,0,false)) h2 ⟨rfl,rfl,rfl,trivial⟩ ⟨rfl,trivial⟩ (fun y hI=>?_))))))))
 obtain ⟨j,σ5,z,b4,o4⟩:=y
 rcases j with _ | j
 ·simp [zbK] at hI
 dsimp only at hI
 refine TC.sub (env':=[(8,_),(5,_),(6,_),(2,_),(4,_),(7,_)]) (L':=[(0,_),(1,_),(2,_)]) ⟨rfl,rfl,rfl,rfl,rfl,rfl,trivial⟩ ⟨rfl,rfl,rfl,trivial⟩ (sB (xmi rfl (TL.geq rfl rfl rfl rfl (fun q2=>?_) (fun q2=>?_))))
 refine TL.done (TQ.then (TC.condT rfl (TC.skip (TQ.then (TC.seq (TC.block (sA (xL10 1 zaL rfl rfl ?_))))))))
 refine xmi rfl (xf 0 zbt rfl (xli 2 zaf rfl rfl (xf 1 zbs rfl (xli 2 zaf rfl rfl ?_))))
 rw [zbK,if_pos q2] at hI
 obtain ⟨⟨⟨b3,o3⟩,σ6⟩,h4,hI⟩:=Option.bind_eq_some_iff.1 hI
 dsimp only at h4 hI
 refine TL.callD [0] [0] (zkG hM hl h4) ⟨rfl,rfl,rfl,rfl,trivial⟩ ⟨rfl,trivial⟩ zqn rfl rfl rfl rfl rfl trivial (xmu rfl (xei rfl rfl (TL.ext (.bool _) rfl rfl rfl rfl (xai rfl (xab rfl (dA (xmb rfl (TL.cases rfl (fun q3=>?_) (fun q3=>?_)))))))))
 refine TL.done (TQ.then (TC.condT rfl (TC.exit (TQ.blockOut rfl (TQ.thenExit (TQ.thenExit (TQ.blockHere (TQ.then ?_))))))))
 refine sA (xmi rfl (xmb rfl (xat rfl (xai rfl (xab rfl (dR ?_))))))
 refine FQ.ret3 (v:=(.bool true)) (x:=(.int _ _)) (y:=(.bool _)) (Bs:=[A _]) [0] rfl rfl rfl rfl rfl ⟨rfl,trivial⟩ ?_
 rw [if_pos (by simpa using q3)] at hI; cases hI; exact ⟨rfl,rfl⟩
 refine TL.done (TQ.then (TC.condF rfl (TC.skip (TQ.inBlock (TQ.then (TC.region (xmi rfl (TL.sub _ rfl rfl (rfl) rfl rfl ?_))))))))
 refine xai rfl (TL.done (TQ.roundK ((j,_,_,_,_)) ⟨(by rw [if_neg (by simpa using q3)] at hI; exact hI),Nat.lt_succ_self _⟩ ⟨rfl,rfl,rfl,trivial⟩ ⟨rfl,trivial⟩ (kE3 rfl rfl rfl trivial) (kL2 rfl rfl trivial)))
 refine dE rfl (sA (xmi rfl (xmb rfl (xat rfl (xai rfl (xab rfl (dR ?_)))))))
 refine FQ.ret3 (v:=(.bool true)) (x:=(.int _ _)) (y:=(.bool _)) (Bs:=[A _]) [0] rfl rfl rfl rfl rfl ⟨rfl,trivial⟩ ?_
 rw [zbK,if_neg q2] at hI; cases hI; exact ⟨rfl,rfl⟩
theorem at_Li {ab mb N cap:Nat} {c:Cnt} {i:Int} (h0:0≤i) (h1:i<N):FnD Tryz.prog 89 [.pointer (some ⟨ab,0,none⟩),.int .i64 i,.pointer (some ⟨ab,1,none⟩)] [arO ab mb (N) cap 140 c] (.pointer (some ⟨mb,0+i.toNat * 1,none⟩)) [arO ab mb (N) cap 140 c.ld]:=by
 refine Fn.enter (Tryz.func89) rfl rfl (fun w0 R=>?_)
 refine sA (TL.asg (.pointer none) rfl rfl rfl (dB (xmi rfl (TL.lssF rfl rfl (by omega) rfl rfl (xmf rfl (xmi rfl (xmp rfl (xN0 rfl ?_))))))))
 refine xf 0 zcd rfl (xls 0 zfv rfl rfl (xz zaG rfl (TL.geqF rfl rfl (by omega) rfl rfl (xpF rfl (dF rfl (xmp rfl (xN0 rfl (xli 0 zaf rfl rfl ?_))))))))
 refine TL.add _ rfl rfl (rfl) rfl rfl (xN0 rfl (TL.st 0 #[_,_,_,_,_,_] (.int _ _) rfl rfl rfl rfl rfl rfl zaf rfl rfl trivial (dA (xmp rfl (xN0 rfl (xf 0 zcd rfl (xls 0 zfv rfl rfl (xmi rfl ?_))))))))
 refine TL.ia _ rfl rfl zaG (by omega) (by omega) rfl rfl rfl (xap rfl (dR ?_))
 refine FQ.ret1 (v:=(.pointer (some ⟨_,_,none⟩))) (Bs:=[_]) [0] rfl rfl rfl ⟨rfl,trivial⟩ ?_
 exact ⟨rfl,rfl⟩
theorem at_Si {ab mb N cap:Nat} {c:Cnt} {i:Int} (h0:0≤i) (h1:i<N):FnD Tryz.prog 89 [.pointer (some ⟨ab,0,none⟩),.int .i64 i,.pointer (some ⟨ab,2,none⟩)] [arO ab mb (N) cap 140 c] (.pointer (some ⟨mb,0+i.toNat * 1,none⟩)) [arO ab mb (N) cap 140 c.st]:=by
 refine Fn.enter (Tryz.func89) rfl rfl (fun w0 R=>?_)
 refine sA (TL.asg (.pointer none) rfl rfl rfl (dB (xmi rfl (TL.lssF rfl rfl (by omega) rfl rfl (xmf rfl (xmi rfl (xmp rfl (xN0 rfl ?_))))))))
 refine xf 0 zcd rfl (xls 0 zfv rfl rfl (xz zaG rfl (TL.geqF rfl rfl (by omega) rfl rfl (xpF rfl (dF rfl (xmp rfl (xN0 rfl (xli 0 zaf rfl rfl ?_))))))))
 refine TL.add _ rfl rfl (rfl) rfl rfl (xN0 rfl (TL.st 0 #[_,_,_,_,_,_] (.int _ _) rfl rfl rfl rfl rfl rfl zaf rfl rfl trivial (dA (xmp rfl (xN0 rfl (xf 0 zcd rfl (xls 0 zfv rfl rfl (xmi rfl ?_))))))))
 refine TL.ia _ rfl rfl zaG (by omega) (by omega) rfl rfl rfl (xap rfl (dR ?_))
 refine FQ.ret1 (v:=(.pointer (some ⟨_,_,none⟩))) (Bs:=[_]) [0] rfl rfl rfl ⟨rfl,trivial⟩ ?_
 exact ⟨rfl,rfl⟩
theorem at_o {ab mb N cap k:Nat} {c:Cnt} {i:Int} (h:¬(0≤i∧i<N)):FnD Tryz.prog 89 [.pointer (some ⟨ab,0,none⟩),.int .i64 i,.pointer (some ⟨ab,k,none⟩)] [arO ab mb (N) cap 140 c] (.pointer none) [arO ab mb (N) cap 140 c]:=by
 refine Fn.enter (Tryz.func89) rfl rfl (fun w0 R=>?_)
 refine sA (TL.asg (.pointer none) rfl rfl rfl (dB (xmi rfl (TL.lss rfl rfl rfl rfl (fun q1=>?_) (fun q1=>?_)))))
 refine xmt rfl (xo rfl (xo rfl (xo rfl (xo rfl (xo rfl (xo rfl (xo rfl (xpT rfl ?_))))))))
 refine dT rfl (TL.asg (.pointer none) rfl rfl rfl (dRR ?_))
 refine FQ.ret1 (v:=(.pointer none)) (Bs:=[_]) [0] rfl rfl rfl ⟨rfl,trivial⟩ ?_
 exact ⟨rfl,rfl⟩
 refine xmf rfl (xmi rfl (xmp rfl (xN0 rfl (xf 0 zcd rfl (xls 0 zfv rfl rfl (xz zaG rfl (TL.geq rfl rfl rfl rfl (fun q2=>?_) (fun q2=>?_))))))))
 refine xpH rfl (dT rfl (TL.asg (.pointer none) rfl rfl rfl (dRR ?_)))
 refine FQ.ret1 (v:=(.pointer none)) (Bs:=[_]) [0] rfl rfl rfl ⟨rfl,trivial⟩ ?_
 exact ⟨rfl,rfl⟩
 refine xpF rfl (TL.done (TQ.then (TC.condF rfl (TC.skip (TQ.then (TC.seq ?_))))))
 exact absurd (by omega:False) id
theorem zqG {ab mb cap:Nat} {rs:Array Value} {σ:Array UInt64} {c:Cnt} {i:Int} (h0:0≤i) (h1:i<σ.size):FnD Tryz.prog 31 [.pointer (some ⟨ab,0,none⟩),.int .i64 i] [arO ab mb (σ.size) cap 140 c,pt mb (.cells (encM (σ)++rs) 71)] (.tuple #[.int .u64 (MemLike.get σ i),.int .i64 0]) [arO ab mb (σ.size) cap 140 c.ld,pt mb (.cells (encM (σ)++rs) 71)]:=by
 refine Fn.enter (Tryz.func31) rfl rfl (fun w0 R=>?_)
 refine sA (xai rfl (xai rfl (dA (xmp rfl (xmi rfl (xmp rfl (xN0 rfl (xf 1 zcP rfl ?_))))))))
 refine xf 0 zg1 rfl (TL.callD [0] [0] (at_Li h0 h1) ⟨rfl,rfl,rfl,trivial⟩ ⟨rfl,trivial⟩ zke rfl rfl rfl rfl rfl trivial (xap rfl (dB (xmp rfl (TL.nilP false rfl rfl zhH rfl rfl rfl (dF rfl (xmp rfl (xN0 rfl ?_))))))))
 refine TL.ldM 1 rfl rfl (by omega) (by omega) zkb rfl rfl (xai rfl (xai rfl (dR ?_)))
 refine FQ.ret2 (v:=(.int _ _)) (x:=(.int _ _)) (Bs:=[_,_]) [0,1] rfl rfl rfl rfl ⟨rfl,rfl,trivial⟩ ?_
 exact ⟨rfl,rfl⟩
theorem zqF {ab mb cap:Nat} {rs:Array Value} {σ:Array UInt64} {c:Cnt} {i:Int} (h:¬(0≤i∧i<σ.size)):FnD Tryz.prog 31 [.pointer (some ⟨ab,0,none⟩),.int .i64 i] [arO ab mb (σ.size) cap 140 c,pt mb (.cells (encM (σ)++rs) 71)] (.tuple #[.int .u64 (MemLike.get σ i),.int .i64 20]) [arO ab mb (σ.size) cap 140 c,pt mb (.cells (encM (σ)++rs) 71)]:=by
 refine Fn.enter (Tryz.func31) rfl rfl (fun w0 R=>?_)
 refine sA (xai rfl (xai rfl (dA (xmp rfl (xmi rfl (xmp rfl (xN0 rfl (xf 1 zcP rfl ?_))))))))
 refine xf 0 zg1 rfl (TL.callD [0] [0] (at_o h) ⟨rfl,rfl,rfl,trivial⟩ ⟨rfl,trivial⟩ zke rfl rfl rfl rfl rfl trivial (TL.asg (.pointer none) rfl rfl rfl (dB (TL.mv (.pointer none) rfl rfl rfl (TL.nilP true rfl rfl zhH rfl rfl rfl (dT rfl (xai rfl (xai rfl ?_))))))))
 refine dRR ?_
 refine FQ.ret2 (v:=(.int _ _)) (x:=(.int _ _)) (Bs:=[_,_]) [0,1] rfl rfl rfl rfl ⟨rfl,rfl,trivial⟩ ?_
 exact ⟨by rw [zgB,if_neg h],rfl⟩
theorem zoK {ab mb cap:Nat} {rs:Array Value} {σ:Array UInt64} {c:Cnt} {i:Int} (h0:0≤i) (h1:i<σ.size) {y:Int} (hv:0≤y∧y<18446744073709551616):FnD Tryz.prog 55 [.pointer (some ⟨ab,0,none⟩),.int .i64 i,.int .u64 y] [arO ab mb (σ.size) cap 140 c,pt mb (.cells (encM (σ)++rs) 71)] (.int .i64 0) [arO ab mb (σ.size) cap 140 c.st,pt mb (.cells (encM (MemLike.st σ i y)++rs) 71)]:=by
 refine Fn.enter (Tryz.func55) rfl rfl (fun w0 R=>?_)
 refine sA (xai rfl (dA (xmp rfl (xmi rfl (xmp rfl (xN0 rfl (xf 1 zcP rfl (xf 1 zg0 rfl ?_))))))))
 refine TL.callD [0] [0] (at_Si h0 h1) ⟨rfl,rfl,rfl,trivial⟩ ⟨rfl,trivial⟩ zke rfl rfl rfl rfl rfl trivial (xap rfl (dB (xmp rfl (TL.nilP false rfl rfl zhH rfl rfl rfl (dF rfl (xmp rfl (xmi rfl (xN0 rfl ?_))))))))
 refine TL.stM 1 rfl rfl rfl (by omega) (by omega) (by omega) zkb rfl rfl trivial (dA (xai rfl (dR ?_)))
 refine FQ.ret1 (v:=(.int _ _)) (Bs:=[_,_]) [0,1] rfl rfl rfl ⟨rfl,rfl,trivial⟩ ?_
 exact ⟨rfl,rfl⟩
theorem zoJ {ab mb cap:Nat} {rs:Array Value} {σ:Array UInt64} {c:Cnt} {i:Int} (h:¬(0≤i∧i<σ.size)) {y:Int} (hv:0≤y∧y<18446744073709551616):FnD Tryz.prog 55 [.pointer (some ⟨ab,0,none⟩),.int .i64 i,.int .u64 y] [arO ab mb (σ.size) cap 140 c,pt mb (.cells (encM (σ)++rs) 71)] (.int .i64 20) [arO ab mb (σ.size) cap 140 c,pt mb (.cells (encM (MemLike.st σ i y)++rs) 71)]:=by
 have hst:(MemLike.st σ i y:Array UInt64)=σ:=by rw [zld,if_neg h]
 refine Fn.enter (Tryz.func55) rfl rfl (fun w0 R=>?_)
 refine sA (xai rfl (dA (xmp rfl (xmi rfl (xmp rfl (xN0 rfl (xf 1 zcP rfl (xf 1 zg0 rfl ?_))))))))
 refine TL.callD [0] [0] (at_o h) ⟨rfl,rfl,rfl,trivial⟩ ⟨rfl,trivial⟩ zke rfl rfl rfl rfl rfl trivial (TL.asg (.pointer none) rfl rfl rfl (dB (TL.mv (.pointer none) rfl rfl rfl (TL.nilP true rfl rfl zhH rfl rfl rfl (dT rfl (xai rfl (dRR ?_)))))))
 refine FQ.ret1 (v:=(.int _ _)) (Bs:=[_,_]) [0,1] rfl rfl rfl ⟨rfl,rfl,trivial⟩ ?_
 exact ⟨rfl,by rw [hst]⟩
theorem zgC {ab mb:Nat} {σ:Array UInt64} {c:Cnt} {i:Int}:FnD Tryz.prog 31 [.pointer (some ⟨ab,0,none⟩),.int .i64 i] [arenaC ab mb 140 71 (σ) (c)] (.tuple #[.int .u64 (MemLike.get σ i),.int .i64 (if 0≤i∧i<σ.size then 0 else 20)]) [arenaC ab mb 140 71 (σ) (cntL σ i c)]:=by
 unfold cntL
 by_cases h:0≤i∧i<σ.size
 ·rw [if_pos h,if_pos h]; exact Fn.arenaC rfl fun cap rs=>zqG h.1 h.2
 ·rw [if_neg h,if_neg h]; exact Fn.arenaC rfl fun cap rs=>zqF h
theorem zlb {ab mb:Nat} {σ:Array UInt64} {c:Cnt} {i v:Int} (hv:0≤v∧v<18446744073709551616):FnD Tryz.prog 55 [.pointer (some ⟨ab,0,none⟩),.int .i64 i,.int .u64 v] [arenaC ab mb 140 71 (σ) (c)] (.int .i64 (if 0≤i∧i<σ.size then 0 else 20)) [arenaC ab mb 140 71 (MemLike.st σ i v) (cntS σ i c)]:=by
 unfold cntS
 by_cases h:0≤i∧i<σ.size
 ·rw [if_pos h,if_pos h]; exact Fn.arenaC (zes _ _ _) fun cap rs=>zoK h.1 h.2 hv
 ·rw [if_neg h,if_neg h]; exact Fn.arenaC (zes _ _ _) fun cap rs=>zoJ h hv
theorem zoD {ab mb:Nat} {σ:Array UInt64} {i:Int}:FnD Tryz.prog 31 [.pointer (some ⟨ab,0,none⟩),.int .i64 i] [zaF ab mb 140 71 (σ)] (.tuple #[.int .u64 (MemLike.get σ i),.int .i64 (if 0≤i∧i<σ.size then 0 else 20)]) [zaF ab mb 140 71 (σ)]:=Fn.arena fun _=>⟨_,zgC⟩
theorem ziM {ab mb:Nat} {σ:Array UInt64} {i v:Int} (hv:0≤v∧v<18446744073709551616):FnD Tryz.prog 55 [.pointer (some ⟨ab,0,none⟩),.int .i64 i,.int .u64 v] [zaF ab mb 140 71 (σ)] (.int .i64 (if 0≤i∧i<σ.size then 0 else 20)) [zaF ab mb 140 71 (MemLike.st σ i v)]:=Fn.arena fun _=>⟨_,zlb hv⟩
theorem zn5 {ab mb:Nat} {σ:Array UInt64} {i:Int}:FnD Tryz.prog 214 [.agg #[.pointer (some ⟨ab,0,none⟩)],.int .i64 i] [zaF ab mb 140 71 (σ)] (.int .u64 (MemLike.get σ i)) [zaF ab mb 140 71 (σ)]:=by
 refine Fn.enter (Tryz.func214) rfl rfl (fun w0 R=>?_)
 refine sA (xB 1 rfl (fun bk1=>(xai rfl (dA (xf 0 zgY rfl (xlp 1 zgW rfl rfl (xmi rfl (TL.callD [0] [0] zoD ⟨rfl,rfl,trivial⟩ ⟨rfl,trivial⟩ zmG rfl rfl rfl rfl rfl trivial (xmu rfl ?_)))))))))
 refine xei rfl rfl (xei rfl rfl (xai rfl (xai rfl (dA (xmi rfl (xai rfl (dR ?_)))))))
 refine FQ.ret1 (v:=(.int _ _)) (Bs:=[zaF ab mb 140 71 (σ)]) [0] rfl rfl rfl ⟨rfl,trivial⟩ ?_
 exact ⟨rfl,rfl⟩
theorem zlN {ab mb:Nat} {σ:Array UInt64} {i:Int} {y:Int} (hv:0≤y∧y<18446744073709551616):FnD Tryz.prog 215 [.agg #[.pointer (some ⟨ab,0,none⟩)],.int .i64 i,.int .u64 y] [zaF ab mb 140 71 (σ)] (.tuple #[]) [zaF ab mb 140 71 (MemLike.st σ i y)]:=by
 refine Fn.enter (Tryz.func215) rfl rfl (fun w0 R=>?_)
 refine sA (xB 1 rfl (fun bk1=>(dG (xf 0 zgY rfl (xlp 1 zgW rfl rfl (xmi rfl (xmi rfl (TL.callD [0] [0] (ziM hv) ⟨rfl,rfl,rfl,trivial⟩ ⟨rfl,trivial⟩ zo3 rfl rfl rfl rfl rfl trivial (TL.done ?_)))))))))
 refine FQ.end0 (Bs:=[_]) [0] rfl rfl ⟨rfl,trivial⟩ ?_
 exact ⟨rfl,rfl⟩
theorem zbC {ab mb:Nat}:MemI (S:=Array UInt64) Tryz.prog 88 (.agg #[.pointer (some ⟨ab,0,none⟩)]) (zaF ab mb 140 71) :=
 ⟨⟨214,_,zj0 (by kernel_rfl) (by kernel_rfl),fun _ _=>zn5⟩,⟨215,_,zj0 (by kernel_rfl) (by kernel_rfl),fun _ _ _ hv=>zlN hv⟩⟩
theorem zqD {N:Nat} (hN:N≤16384):Go.Eng.Fn Tryz.prog 92 [.int .i64 ((N:Nat):Int)] [] (fun v Bs=>∃ ab mb,v=.tuple #[.pointer (some ⟨ab,0,none⟩),.int .i64 0]∧Bs=[arenaC ab mb 140 71 (Array.replicate N 0) (⟨0,0,0,0,0⟩)]):=by
 refine Fn.enter (Tryz.func92) rfl rfl (fun w0 R=>?_)
 refine sA (TL.asg (.pointer none) rfl rfl rfl (xai rfl (dB (xmi rfl (TL.lssF rfl rfl (by omega) rfl rfl (xmf rfl (xmi rfl (TL.gtrF rfl rfl (by omega) rfl rfl ?_))))))))
 refine xpF rfl (dF rfl (xmi rfl (TL.mkS 0 rfl rfl zgc zq7 rfl (by omega) rfl rfl (fun bk0=>⟨trivial,?_⟩))))
 refine TL.bld [.slice none 0 0,.int .i64 0,.int .i64 0,.int .i64 0,.int .i64 0,.int .i64 0] [(.slice _ _ _)] [_,_,_,_,_,_] zmq zmu ⟨rfl,trivial⟩ ⟨rfl,rfl⟩ rfl rfl (xB 1 rfl (fun bk1=>(xap rfl (xai rfl (dR (TQ.conseq 0 (B:=pt _ (.cells (encM (Array.replicate N 0)++#[]) 71)) rfl (fun h hh=>by rw [←zov,Array.append_empty]; exact hh) (TQ.arenaC 1 0 (N:=N) (c:=⟨0,0,0,0,0⟩) (by simp) rfl rfl (by decide) ?_)))))))
 refine FQ.ret2 (v:=(.pointer (some ⟨_,_,none⟩))) (x:=(.int _ _)) (Bs:=[_]) [1] rfl rfl rfl rfl ⟨rfl,trivial⟩ ?_
 exact ⟨_,_,rfl,rfl⟩
theorem zdT {ab:Nat}:FnD Tryz.prog 38 [.pointer (some ⟨ab,0,none⟩)] [] (.agg #[.pointer (some ⟨ab,0,none⟩)]) []:=by
 refine Fn.enter (Tryz.func38) rfl rfl (fun w0 R=>?_)
 refine sA (TL.alloc 0 (cs:=#[.pointer none]) zmo rfl rfl rfl (fun _=>trivial) (fun bk0=>(dA (xmp rfl (TL.bld [.pointer none] [(.pointer (some ⟨_,_,none⟩))] [_] zmo zrd ⟨rfl,trivial⟩ ⟨rfl,rfl⟩ rfl rfl (TL.stW 0 1 [_] rfl rfl rfl rfl rfl rfl zds rfl rfl trivial (dR ?_)))))))
 refine FQ.retG (rs:=[.cell 2 88]) [(.agg _)] (Bs:=[]) [] rfl ⟨⟨_,_,_,_,_,0,rfl,rfl,.inr ⟨1,[_],zds,rfl,rfl⟩⟩,trivial⟩ rfl rfl trivial ?_
 exact ⟨rfl,rfl⟩
theorem zqK {x:Int}:FnD Tryz.prog 115 [.int .i64 x] [] (wdV (wofI x)) []:=by
 refine Fn.enter (Tryz.func115) rfl rfl (fun w0 R=>?_)
 refine sA (TL.alloc 0 (cs:=#[.int .i64 0,.int .i64 0,.int .i64 0,.int .i64 0]) zbe rfl rfl rfl (fun _=>trivial) (fun bk0=>(dA (xmi rfl (TL.max2 rfl rfl rfl rfl (TL.min2 rfl rfl rfl rfl (xai rfl (dA (xmi rfl ?_)))))))))
 refine xmi rfl (TL.bld [.int .i64 0,.int .i64 0,.int .i64 0,.int .i64 0] [(.int _ _),(.int _ _)] [_,_,_,_] zbe zfe ⟨rfl,rfl,trivial⟩ ⟨rfl,rfl⟩ rfl rfl (TL.stW 0 4 [_,_,_,_] rfl rfl rfl rfl rfl rfl zaq rfl rfl trivial (dR ?_)))
 refine FQ.retG (rs:=[.cell 2 175]) [(.agg _)] (Bs:=[]) [] rfl ⟨⟨_,_,_,_,_,0,rfl,rfl,.inr ⟨4,[_,_,_,_],zaq,rfl,rfl⟩⟩,trivial⟩ rfl rfl trivial ?_
 exact ⟨rfl,rfl⟩
theorem zpm {tag:Int} {dn:Bool} (h:0≤tag∧tag≤16777215):FnD Tryz.prog 133 [.int .i64 tag,.bool dn] [] (.tuple #[.int .u64 (zbo tag dn),.int .i64 0]) []:=by
 refine Fn.enter (Tryz.func133) rfl rfl (fun w0 R=>?_)
 refine sA (xai rfl (xai rfl (dB (xmi rfl (TL.callD [] [] zc1 ⟨rfl,rfl,trivial⟩ trivial zfk rfl rfl rfl rfl rfl trivial ?_)))))
 rw [decide_eq_true h]
 refine xnt rfl (dF rfl (xmi rfl (TL.conv _ rfl zeR za0 (rfl) rfl rfl (TL.shl _ rfl rfl (by decide) rfl rfl rfl (xai rfl (dB (xmb rfl (TL.cases rfl (fun q1=>?_) (fun q1=>?_)))))))))
 refine TL.done (TQ.then (TC.condT rfl (TC.region (xmi rfl (TL.or _ rfl rfl rfl rfl rfl (xai rfl (dA (xmi rfl ?_))))))))
 refine xai rfl (xai rfl (dR ?_))
 refine FQ.ret2 (v:=(.int _ _)) (x:=(.int _ _)) (Bs:=[]) [] rfl rfl rfl rfl trivial ?_
 first | exact ⟨by unfold zbo; rw [if_pos q1]; rfl,rfl⟩ | exact ⟨by unfold zbo; rw [if_neg (by rw [q1]; decide)]; rfl,rfl⟩
 refine dF rfl (xmi rfl (xai rfl (xai rfl (dR ?_))))
 refine FQ.ret2 (v:=(.int _ _)) (x:=(.int _ _)) (Bs:=[]) [] rfl rfl rfl rfl trivial ?_
 first | exact ⟨by unfold zbo; rw [if_pos q1]; rfl,rfl⟩ | exact ⟨by unfold zbo; rw [if_neg (by rw [q1]; decide)]; rfl,rfl⟩
theorem zpl {tag:Int} {dn:Bool} (h:¬(0≤tag∧tag≤16777215)):FnD Tryz.prog 133 [.int .i64 tag,.bool dn] [] (.tuple #[.int .u64 0,.int .i64 11]) []:=by
 refine Fn.enter (Tryz.func133) rfl rfl (fun w0 R=>?_)
 refine sA (xai rfl (xai rfl (dB (xmi rfl (TL.callD [] [] zc1 ⟨rfl,rfl,trivial⟩ trivial zfk rfl rfl rfl rfl rfl trivial ?_)))))
 rw [decide_eq_false h]
 refine xnf rfl (dT rfl (xai rfl (xai rfl (dRR ?_))))
 refine FQ.ret2 (v:=(.int _ _)) (x:=(.int _ _)) (Bs:=[]) [] rfl rfl rfl rfl trivial ?_
 exact ⟨rfl,rfl⟩
theorem zqO {v:Int}:FnD Tryz.prog 159 [.int .u64 v] [] (.tuple #[.int .i64 (tagV v).1,.bool (tagV v).2.1,.int .i64 (if (tagV v).2.2=true then 0 else 21)]) []:=by
 refine Fn.enter (Tryz.func159) rfl rfl (fun w0 R=>?_)
 refine sA (xai rfl (xaf rfl (xai rfl (dB (xmi rfl (TL.shr _ rfl rfl (by decide) rfl rfl rfl (TL.gtr rfl rfl rfl rfl (fun q1=>?_) (fun q1=>?_))))))))
 refine dT rfl (xai rfl (xaf rfl (xai rfl (dRR ?_))))
 refine FQ.ret3 (v:=(.int _ _)) (x:=(.bool false)) (y:=(.int _ _)) (Bs:=[]) [] rfl rfl rfl rfl rfl trivial ?_
 have q:shrU v 1 > 16777215:=q1
 exact ⟨by unfold tagV; rw [if_pos q]; rfl,rfl⟩
 refine dF rfl (xmi rfl (TL.shr _ rfl rfl (by decide) rfl rfl rfl (TL.conv _ rfl zdG za1 (rfl) rfl rfl (xmi rfl (TL.and _ rfl rfl rfl rfl rfl (TL.eqlV rfl rfl rfl rfl (xai rfl (xab rfl ?_))))))))
 refine xai rfl (dR ?_)
 refine FQ.ret3 (v:=(.int _ _)) (x:=(.bool _)) (y:=(.int _ _)) (Bs:=[]) [] rfl rfl rfl rfl rfl trivial ?_
 have q:¬(shrU v 1 > 16777215):=q1
 exact ⟨by unfold tagV; rw [if_neg q]; rfl,rfl⟩
theorem zlf {o m t g:Int} {tag:Int} {dn:Bool}:FnD Tryz.prog 160 [.agg #[.int .i64 o,.int .i64 m,.int .i64 t,.int .i64 g],.int .i64 tag,.bool dn] [] (.int .i64 (zeJ (⟨o,m,t,g⟩:Wd) tag dn)) []:=by
 refine Fn.enter (Tryz.func160) rfl rfl (fun w0 R=>?_)
 refine sA (xB 0 rfl (fun bk0=>(xai rfl (dB (xL4 0 zaq rfl rfl (TL.callD [] [] zfZ ⟨rfl,trivial⟩ trivial zjC rfl rfl rfl rfl rfl trivial (TL.casesP rfl (fun q1=>?_) (fun q1=>?_))))))))
 refine xmt rfl (xo rfl (xo rfl (xo rfl (xo rfl (xpT rfl (xmt rfl (xo rfl (xo rfl ?_))))))))
 refine xo rfl (xo rfl (xo rfl (xo rfl (xo rfl (xpT rfl (dT rfl (xf 1 zaV rfl (xli 0 zaf rfl rfl ?_))))))))
 refine xai rfl (dRR ?_)
 refine FQ.ret1 (v:=(.int _ _)) (Bs:=[]) [] rfl rfl rfl trivial ?_
 exact ⟨iE (by unfold zeJ; rw [if_pos (.inl q1)]),rfl⟩
 refine xmf rfl (xmi rfl (xf 3 zcc rfl (xli 0 zaf rfl rfl (TL.gtr rfl rfl rfl rfl (fun q2=>?_) (fun q2=>?_)))))
 refine xpH rfl (xmt rfl (xo rfl (xo rfl (xo rfl (xo rfl (xo rfl (xo rfl (xo rfl ?_))))))))
 refine xpT rfl (dT rfl (xf 1 zaV rfl (xli 0 zaf rfl rfl (xai rfl (dRR ?_)))))
 refine FQ.ret1 (v:=(.int _ _)) (Bs:=[]) [] rfl rfl rfl trivial ?_
 exact ⟨iE (by unfold zeJ; rw [if_pos (.inr (.inl q2))]),rfl⟩
 refine xpF rfl (xmf rfl (xmi rfl (xf 3 zcc rfl (xli 0 zaf rfl rfl (TL.eql rfl rfl rfl rfl (fun q3=>?_) (fun q3=>?_))))))
 refine xmt rfl (xmb rfl (TL.cases rfl (fun q4=>?_) (fun q4=>?_)))
 refine xpT rfl (xpH rfl (dT rfl (xf 1 zaV rfl (xli 0 zaf rfl rfl (xai rfl (dRR ?_))))))
 refine FQ.ret1 (v:=(.int _ _)) (Bs:=[]) [] rfl rfl rfl trivial ?_
 exact ⟨iE (by unfold zeJ; rw [if_pos (.inr (.inr ⟨q3,q4⟩))]),rfl⟩
 refine xpG rfl (xpF rfl (dF rfl (xf 0 za7 rfl (xli 0 zaf rfl rfl (xai rfl (dR ?_))))))
 refine FQ.ret1 (v:=(.int _ _)) (Bs:=[]) [] rfl rfl rfl trivial ?_
 exact ⟨iE (by unfold zeJ; rw [if_neg (fun h=>h.elim q1 (fun h=>h.elim q2 (fun h=>by have:=h.2; rw [q4] at this; cases this)))]),rfl⟩
 refine xmf rfl (xo rfl (xpF rfl (xpF rfl (dF rfl (xf 0 za7 rfl (xli 0 zaf rfl rfl (xai rfl (dR ?_))))))))
 refine FQ.ret1 (v:=(.int _ _)) (Bs:=[]) [] rfl rfl rfl trivial ?_
 exact ⟨iE (by unfold zeJ; rw [if_neg (fun h=>h.elim q1 (fun h=>h.elim q2 (fun h=>q3 h.1)))]),rfl⟩
theorem zf4 {l:Lay} (hl:l.Ok) {t:Int}:FnD Tryz.prog 53 [layV l,.int .i64 t] [] (.int .i64 (l.state t)) []:=by
 have hb:=za4 hl
 refine Fn.enter (Tryz.func53) rfl rfl (fun w0 R=>?_)
 refine sA (xB 0 rfl (fun bk0=>(xai rfl (dB (xmi rfl (TL.sub _ rfl rfl (rfl) rfl rfl (xf 2 zde rfl (xli 0 zaf rfl rfl (TL.callD [] [] zaX ⟨rfl,rfl,trivial⟩ trivial zbh rfl rfl rfl rfl rfl trivial ?_)))))))))
 refine TL.casesP rfl (fun q1=>?_) (fun q1=>?_)
 refine xnt rfl (dF rfl (xmi rfl (TL.sub _ rfl rfl (rfl) rfl rfl (xai rfl (dR ?_)))))
 refine FQ.ret1 (v:=(.int _ _)) (Bs:=[]) [] rfl rfl rfl trivial ?_
 first | exact ⟨iE (by unfold Lay.state; rw [if_pos (by omega)]),rfl⟩ | exact ⟨iE (by unfold Lay.state; rw [if_neg (by omega)]),rfl⟩
 refine xnf rfl (dT rfl (xai rfl (dRR ?_)))
 refine FQ.ret1 (v:=(.int _ _)) (Bs:=[]) [] rfl rfl rfl trivial ?_
 first | exact ⟨iE (by unfold Lay.state; rw [if_pos (by omega)]),rfl⟩ | exact ⟨iE (by unfold Lay.state; rw [if_neg (by omega)]),rfl⟩
theorem zj3 {l:Lay} (hl:l.Ok) {s:Int}:FnD Tryz.prog 121 [layV l,.int .i64 s] [] (.int .i64 (l.of s 0)) []:=by
 have hb:=za4 hl
 refine Fn.enter (Tryz.func121) rfl rfl (fun w0 R=>?_)
 refine sA (xB 0 rfl (fun bk0=>(xai rfl (dA (xL3 0 zaa rfl rfl (xmi rfl (TL.callD [] [] (zlT hl (by omega)) ⟨rfl,rfl,rfl,trivial⟩ trivial zgq rfl rfl rfl rfl rfl trivial (xai rfl (dR ?_)))))))))
 refine FQ.ret1 (v:=(.int _ _)) (Bs:=[]) [] rfl rfl rfl trivial ?_
 exact ⟨rfl,rfl⟩
theorem zkI {o m t g:Int} {v:Int}:FnD Tryz.prog 130 [.agg #[.int .i64 o,.int .i64 m,.int .i64 t,.int .i64 g],.int .u64 v] [] (.int .i64 (zcx (⟨o,m,t,g⟩:Wd) v)) []:=by
 refine Fn.enter (Tryz.func130) rfl rfl (fun w0 R=>?_)
 refine sA (xB 0 rfl (fun bk0=>(xai rfl (dA (xmi rfl (TL.callD [] [] zqO ⟨rfl,trivial⟩ trivial zqf rfl rfl rfl rfl rfl trivial (xmu rfl (xei rfl rfl (TL.ext (.bool _) rfl rfl rfl rfl ?_)))))))))
 refine xei rfl rfl (xai rfl (xab rfl (xai rfl (dB (xmi rfl (TL.neq rfl rfl rfl rfl (fun q1=>?_) (fun q1=>?_)))))))
 refine dT rfl (xai rfl (dRR ?_))
 refine FQ.ret1 (v:=(.int _ _)) (Bs:=[]) [] rfl rfl rfl trivial ?_
 first | exact ⟨iE (by unfold zcx; rw [if_neg (fun hc=>q1 ((ziF (e:=21) (by decide)).2 hc))]),rfl⟩ | exact ⟨iE (by unfold zcx; rw [if_pos ((ziF (e:=21) (by decide)).1 (by omega))]),rfl⟩
 refine dF rfl (xL4 0 zaq rfl rfl (xmi rfl (xmb rfl (TL.callD [] [] zlf ⟨rfl,rfl,rfl,trivial⟩ trivial zqe rfl rfl rfl rfl rfl trivial (xai rfl (dR ?_))))))
 refine FQ.ret1 (v:=(.int _ _)) (Bs:=[]) [] rfl rfl rfl trivial ?_
 first | exact ⟨iE (by unfold zcx; rw [if_neg (fun hc=>q1 ((ziF (e:=21) (by decide)).2 hc))]),rfl⟩ | exact ⟨iE (by unfold zcx; rw [if_pos ((ziF (e:=21) (by decide)).1 (by omega))]),rfl⟩
theorem ziK {o m t g:Int}:FnD Tryz.prog 114 [.agg #[.int .i64 o,.int .i64 m,.int .i64 t,.int .i64 g]] [] (wdV (wofI m)) []:=by
 refine Fn.enter (Tryz.func114) rfl rfl (fun w0 R=>?_)
 refine sA (xB 0 rfl (fun bk0=>(TL.alloc 1 (cs:=#[.int .i64 0,.int .i64 0,.int .i64 0,.int .i64 0]) zbe rfl rfl rfl (fun _=>trivial) (fun bk1=>(dA (xf 1 zaV rfl (xli 0 zaf rfl rfl (TL.callD [] [] zqK ⟨rfl,trivial⟩ trivial zqr rfl rfl rfl rfl rfl trivial (TL.stW 1 4 [_,_,_,_] rfl rfl rfl rfl rfl rfl zaq rfl rfl trivial (dR ?_))))))))))
 refine FQ.retG (rs:=[.cell 2 175]) [(.agg _)] (Bs:=[]) [] rfl ⟨⟨_,_,_,_,_,1,rfl,rfl,.inr ⟨4,[_,_,_,_],zaq,rfl,rfl⟩⟩,trivial⟩ rfl rfl trivial ?_
 exact ⟨rfl,rfl⟩
theorem znv {S:Type} [MemLike S] {mt:TypeId} {mv:Value} {A:S→Assn} (hM:MemI Tryz.prog mt mv A) {σ:S} {c:Int} (h:(zae (MemLike.get σ c)).2=false):FnD Tryz.prog 113 [.iface mt mv,.int .i64 c,.func (.func 114) #[] #[]] [A σ] (.tuple #[]) [A (MemLike.ld σ c)]:=by
 refine Fn.enter (Tryz.func113) rfl rfl (fun w0 R=>?_)
 refine sA (xmc rfl (xmi rfl (TL.mload 0 hM rfl rfl rfl rfl rfl trivial (TL.callD [] [] zcj ⟨rfl,trivial⟩ trivial zdH rfl rfl rfl rfl rfl trivial (xmu rfl (TL.ext (.agg _) rfl rfl rfl rfl (xei rfl rfl (TL.alloc 1 (cs:=#[.int .i64 0,.int .i64 0,.int .i64 0,.int .i64 0]) zbe rfl rfl rfl (fun _=>trivial) (fun bk1=>?_)))))))))
 refine TL.stW 1 4 [_,_,_,_] rfl rfl rfl rfl rfl rfl zaq rfl rfl trivial (xai rfl (dB (xmi rfl (TL.neqT rfl rfl (by rw [h]; decide) rfl rfl (TL.done (TQ.then (TC.condT rfl (TC.ret ?_))))))))
 refine TQ.thenRet ?_
 refine FQ.ret0 (Bs:=[A (MemLike.ld σ c)]) [0] rfl rfl ⟨rfl,trivial⟩ ?_
 exact ⟨rfl,rfl⟩
theorem znu {S:Type} [MemLike S] {mt:TypeId} {mv:Value} {A:S→Assn} (hM:MemI Tryz.prog mt mv A) {σ:S} {c:Int} (h:(zae (MemLike.get σ c)).2=true) (h2:(wofI (zae (MemLike.get σ c)).1.new).right=false):FnD Tryz.prog 113 [.iface mt mv,.int .i64 c,.func (.func 114) #[] #[]] [A σ] (.tuple #[]) [A (MemLike.ld σ c)]:=by
 refine Fn.enter (Tryz.func113) rfl rfl (fun w0 R=>?_)
 refine sA (xmc rfl (xmi rfl (TL.mload 0 hM rfl rfl rfl rfl rfl trivial (TL.callD [] [] zcj ⟨rfl,trivial⟩ trivial zdH rfl rfl rfl rfl rfl trivial (xmu rfl (TL.ext (.agg _) rfl rfl rfl rfl (xei rfl rfl (TL.alloc 1 (cs:=#[.int .i64 0,.int .i64 0,.int .i64 0,.int .i64 0]) zbe rfl rfl rfl (fun _=>trivial) (fun bk1=>?_)))))))))
 refine TL.stW 1 4 [_,_,_,_] rfl rfl rfl rfl rfl rfl zaq rfl rfl trivial (xai rfl (dB (xmi rfl (TL.neqF rfl rfl (by rw [h]; decide) rfl rfl (dF rfl (TL.mv (.func _ _ _) rfl rfl rfl (xL4 1 zaq rfl rfl (TL.callC (c1:=[]) (c2:=[]) (vs:=[_]) [] [] rfl ziK ⟨rfl,trivial⟩ trivial zm3 rfl rfl rfl rfl rfl trivial ?_))))))))
 refine TL.callD [] [] zhm ⟨rfl,trivial⟩ trivial zhN rfl rfl rfl rfl rfl trivial (xmu rfl (xei rfl rfl (xei rfl rfl (xai rfl (xai rfl (dA (xmi rfl (TL.eqlF rfl rfl (by rw [h2]; decide) rfl rfl ?_))))))))
 refine TL.done (TQ.then (TC.condF rfl (TC.skip ?_)))
 refine FQ.end0 (Bs:=[A (MemLike.ld σ c)]) [0] rfl rfl ⟨rfl,trivial⟩ ?_
 exact ⟨rfl,rfl⟩
theorem znt {S:Type} [MemLike S] {mt:TypeId} {mv:Value} {A:S→Assn} (hM:MemI Tryz.prog mt mv A) {σ:S} {c:Int} (h:(zae (MemLike.get σ c)).2=true) (h2:(wofI (zae (MemLike.get σ c)).1.new).right=true):FnD Tryz.prog 113 [.iface mt mv,.int .i64 c,.func (.func 114) #[] #[]] [A σ] (.tuple #[]) [A (MemLike.st (MemLike.ld σ c) c (wofI (zae (MemLike.get σ c)).1.new).pack)]:=by
 refine Fn.enter (Tryz.func113) rfl rfl (fun w0 R=>?_)
 refine sA (xmc rfl (xmi rfl (TL.mload 0 hM rfl rfl rfl rfl rfl trivial (TL.callD [] [] zcj ⟨rfl,trivial⟩ trivial zdH rfl rfl rfl rfl rfl trivial (xmu rfl (TL.ext (.agg _) rfl rfl rfl rfl (xei rfl rfl (TL.alloc 1 (cs:=#[.int .i64 0,.int .i64 0,.int .i64 0,.int .i64 0]) zbe rfl rfl rfl (fun _=>trivial) (fun bk1=>?_)))))))))
 refine TL.stW 1 4 [_,_,_,_] rfl rfl rfl rfl rfl rfl zaq rfl rfl trivial (xai rfl (dB (xmi rfl (TL.neqF rfl rfl (by rw [h]; decide) rfl rfl (dF rfl (TL.mv (.func _ _ _) rfl rfl rfl (xL4 1 zaq rfl rfl (TL.callC (c1:=[]) (c2:=[]) (vs:=[_]) [] [] rfl ziK ⟨rfl,trivial⟩ trivial zm3 rfl rfl rfl rfl rfl trivial ?_))))))))
 refine TL.callD [] [] zhm ⟨rfl,trivial⟩ trivial zhN rfl rfl rfl rfl rfl trivial (xmu rfl (xei rfl rfl (xei rfl rfl (xai rfl (xai rfl (dA (xmi rfl (TL.eqlT rfl rfl (by rw [h2]; decide) rfl rfl ?_))))))))
 refine TL.done (TQ.then (TC.condT rfl (TC.region (xmc rfl (xmi rfl (xmi rfl (TL.mstore 0 hM rfl rfl rfl (by rw [h2]; exact zcu _ _) rfl rfl rfl trivial (TL.done ?_))))))))
 refine FQ.end0 (Bs:=[A _]) [0] rfl rfl ⟨rfl,trivial⟩ ?_
 exact ⟨rfl,by rw [h2]; rfl⟩
theorem zk5 {S:Type} [MemLike S] {mt:TypeId} {mv:Value} {A:S→Assn} (hM:MemI Tryz.prog mt mv A) {σ:S} {c:Int}:FnD Tryz.prog 113 [.iface mt mv,.int .i64 c,.func (.func 114) #[] #[]] [A σ] (.tuple #[]) [A (zbk σ c)]:=by
 unfold zbk
 cases h:(zae (MemLike.get σ c)).2
 ·exact znv hM h
 ·rw [if_pos rfl]
  cases h2:(wofI (zae (MemLike.get σ c)).1.new).right
  ·exact znu hM h h2
  ·exact znt hM h h2
theorem zko {S:Type} [MemLike S] {mt:TypeId} {mv:Value} {A:S→Assn} (hM:MemI Tryz.prog mt mv A) {σ:S} {p:Pen} {c:Int}:FnD Tryz.prog 75 [.agg #[.int .i64 p.thread,.int .i64 p.tag],.iface mt mv,.int .i64 c] [A σ] (.tuple #[]) [A (zbk σ c)]:=by
 refine Fn.enter (Tryz.func75) rfl rfl (fun w0 R=>?_)
 refine sA (xB 1 rfl (fun bk1=>(dG (xmc rfl (xmi rfl (TL.callD [0] [0] (zk5 hM) ⟨rfl,rfl,rfl,trivial⟩ ⟨rfl,trivial⟩ zm4 rfl rfl rfl rfl rfl trivial (TL.done ?_)))))))
 refine FQ.end0 (Bs:=[A (zbk σ c)]) [0] rfl rfl ⟨rfl,trivial⟩ ?_
 exact ⟨rfl,rfl⟩
theorem zn0 {S:Type} [MemLike S] {mt:TypeId} {mv:Value} {A:S→Assn} (hM:MemI Tryz.prog mt mv A) {fS:FuncId} (hfS:zfB Tryz.prog mt "Store" fS=true) {l:Lay} (hl:l.Ok) {p:Pen} {σ:S} {tag:Int} {dn:Bool} (h:0≤tag∧tag≤16777215):FnD Tryz.prog 104 [.agg #[.int .i64 p.thread,.int .i64 p.tag],.iface mt mv,layV l,.int .i64 tag,.bool dn] [A σ] (.tuple #[]) [A (MemLike.st σ (l.state p.thread) (zbo tag dn))]:=by
 refine Fn.enter (Tryz.func104) rfl rfl (fun w0 R=>?_)
 refine sA (xB 1 rfl (fun bk1=>(xB 2 rfl (fun bk2=>(dA (xmi rfl (xmb rfl (TL.callD [] [] (zpm h) ⟨rfl,rfl,trivial⟩ trivial zmZ rfl rfl rfl rfl rfl trivial (xmu rfl (xei rfl rfl ?_))))))))))
 refine xei rfl rfl (xai rfl (xai rfl (dA (xmi rfl (TL.eqlT rfl rfl (by decide) rfl rfl (TL.done (TQ.then (TC.condT rfl ?_))))))))
 refine TC.draw [(0,true),(1,true),(2,true),(3,true),(5,true),(6,true),(7,true),(8,true),(4,false),(9,false)] [1,2] fc_m (by kernel_rfl) (xmc rfl (xL3 2 zaa rfl rfl (xf 0 zdd rfl (xli 1 zaf rfl rfl (xmi rfl (TL.mf (xs:=[_]) (ys:=[]) [_] [] ⟨rfl,trivial⟩ trivial rfl rfl (TL.ncM hfS rfl rfl rfl (xmc rfl ?_))))))))
 refine TL.callD [] [] (zf4 hl) ⟨rfl,rfl,trivial⟩ trivial zmz rfl rfl rfl rfl rfl (kL2 rfl rfl trivial) (TL.mstore 0 hM rfl rfl rfl (ze4 h _) rfl rfl rfl (kL2 rfl rfl trivial) (TL.done ?_))
 refine FQ.end0 (Bs:=[A _]) [0] rfl rfl ⟨rfl,trivial⟩ ?_
 exact ⟨rfl,rfl⟩
theorem znZ {S:Type} [MemLike S] {mt:TypeId} {mv:Value} {A:S→Assn} (hM:MemI Tryz.prog mt mv A) {fS:FuncId} (hfS:zfB Tryz.prog mt "Store" fS=true) {l:Lay} (hl:l.Ok) {p:Pen} {σ:S} {tag:Int} {dn:Bool} (h:¬(0≤tag∧tag≤16777215)):FnD Tryz.prog 104 [.agg #[.int .i64 p.thread,.int .i64 p.tag],.iface mt mv,layV l,.int .i64 tag,.bool dn] [A σ] (.tuple #[]) [A (σ)]:=by
 refine Fn.enter (Tryz.func104) rfl rfl (fun w0 R=>?_)
 refine sA (xB 1 rfl (fun bk1=>(xB 2 rfl (fun bk2=>(dA (xmi rfl (xmb rfl (TL.callD [] [] (zpl h) ⟨rfl,rfl,trivial⟩ trivial zmZ rfl rfl rfl rfl rfl trivial (xmu rfl (xei rfl rfl ?_))))))))))
 refine xei rfl rfl (xai rfl (xai rfl (dA (xmi rfl (TL.eqlF rfl rfl (by decide) rfl rfl (TL.done (TQ.then (TC.condF rfl ?_))))))))
 refine TC.skip ?_
 refine FQ.end0 (Bs:=[A _]) [0] rfl rfl ⟨rfl,trivial⟩ ?_
 exact ⟨rfl,rfl⟩
theorem zii {S:Type} [MemLike S] {mt:TypeId} {mv:Value} {A:S→Assn} (hM:MemI Tryz.prog mt mv A) {fS:FuncId} (hfS:zfB Tryz.prog mt "Store" fS=true) {l:Lay} (hl:l.Ok) {p:Pen} {σ:S} {tag:Int} {dn:Bool}:FnD Tryz.prog 104 [.agg #[.int .i64 p.thread,.int .i64 p.tag],.iface mt mv,layV l,.int .i64 tag,.bool dn] [A σ] (.tuple #[]) [A (zbq l p σ tag dn)]:=by
 unfold zbq
 by_cases h:0≤tag∧tag≤16777215
 ·rw [if_pos h]; exact zn0 hM hfS hl h
 ·rw [if_neg h]; exact znZ hM hfS hl h
theorem zgQ {S:Type} [MemLike S] {mt:TypeId} {mv:Value} {A:S→Assn} (hM:MemI Tryz.prog mt mv A) {fS:FuncId} (hfS:zfB Tryz.prog mt "Store" fS=true) {l:Lay} (hl:l.Ok) {p:Pen} {σ:S}:FnD Tryz.prog 49 [.agg #[.int .i64 p.thread,.int .i64 p.tag],.iface mt mv,layV l] [A σ] (.tuple #[]) [A (zbq l p σ p.tag true)]:=by
 refine Fn.enter (Tryz.func49) rfl rfl (fun w0 R=>?_)
 refine sA (xB 1 rfl (fun bk1=>(xB 2 rfl (fun bk2=>(dG (xL2 1 zbB rfl rfl (xmc rfl (xL3 2 zaa rfl rfl (xf 1 zcb rfl (xli 1 zaf rfl rfl ?_))))))))))
 refine TL.callD [0] [0] (zii hM hfS hl) ⟨rfl,rfl,rfl,rfl,rfl,trivial⟩ ⟨rfl,trivial⟩ zm7 rfl rfl rfl rfl rfl trivial (TL.done ?_)
 refine FQ.end0 (Bs:=[A (zbq l p σ p.tag true)]) [0] rfl rfl ⟨rfl,trivial⟩ ?_
 exact ⟨rfl,rfl⟩
theorem zpC {S:Type} [MemLike S] {mt:TypeId} {mv:Value} {A:S→Assn} (hM:MemI Tryz.prog mt mv A) {fS:FuncId} (hfS:zfB Tryz.prog mt "Store" fS=true) {l:Lay} (hl:l.Ok) {p:Pen} {σ:S}:FnD Tryz.prog 76 [.agg #[.int .i64 p.thread,.int .i64 p.tag],.iface mt mv,layV l] [A σ] (.tuple #[]) [A (zbq l p σ (IntKind.i64.wrap (p.tag+1)) false)]:=by
 refine Fn.enter (Tryz.func76) rfl rfl (fun w0 R=>?_)
 refine sA (xB 1 rfl (fun bk1=>(xB 2 rfl (fun bk2=>(dG (xL2 1 zbB rfl rfl (xmc rfl (xL3 2 zaa rfl rfl (xf 1 zcb rfl (xli 1 zaf rfl rfl ?_))))))))))
 refine TL.add _ rfl rfl (rfl) rfl rfl (TL.callD [0] [0] (zii hM hfS hl) ⟨rfl,rfl,rfl,rfl,rfl,trivial⟩ ⟨rfl,trivial⟩ zm7 rfl rfl rfl rfl rfl trivial (TL.done ?_))
 refine FQ.end0 (Bs:=[A (zbq l p σ (IntKind.i64.wrap (p.tag+1)) false)]) [0] rfl rfl ⟨rfl,trivial⟩ ?_
 exact ⟨rfl,rfl⟩
theorem zdS {l:Lay} {c:Int}:Go.Eng.Fn Tryz.prog 97 [layV l,.int .i64 c] [] (fun v Bs=>∃ lb,v=.pointer (some ⟨lb,0,none⟩)∧Bs=[zi7 189 lb l (zbS c)]):=by
 refine Fn.enter (Tryz.func97) rfl rfl (fun w0 R=>?_)
 refine sA (xB 0 rfl (fun bk0=>(TL.asg (.pointer none) rfl rfl rfl (dA (xL3 0 zaa rfl rfl (xmi rfl (TL.bld [.int .i64 0,.int .i64 0,.int .i64 0,.int .i64 0,.int .i64 0,.int .i64 0,.int .i64 0,.int .i64 0,.bool false,.bool false,.int .i64 0] [(.agg _),(.int _ _)] [_,_,_,_,_,_,_,_,_,_,_] zpY zp1 ⟨rfl,rfl,trivial⟩ ⟨rfl,rfl⟩ rfl rfl (xB 1 rfl (fun bk1=>(xap rfl ?_))))))))))
 refine dR ?_
 refine FQ.ret1 (v:=(.pointer (some ⟨_,_,none⟩))) (Bs:=[_]) [1] rfl rfl rfl ⟨rfl,trivial⟩ ?_
 exact ⟨_,rfl,rfl⟩
theorem zkN {l:Lay} {lb:Nat} {k:LookS}:FnD Tryz.prog 99 [.pointer (some ⟨lb,0,none⟩)] [zi7 189 lb l (k)] (.int .i64 k.value) [zi7 189 lb l (k)]:=by
 refine Fn.enter (Tryz.func99) rfl rfl (fun w0 R=>?_)
 refine sA (xai rfl (dA (xmp rfl (xN0 rfl (xf 10 zcV rfl (xli 0 zaf rfl rfl (xai rfl (dR ?_))))))))
 refine FQ.ret1 (v:=(.int _ _)) (Bs:=[_]) [0] rfl rfl rfl ⟨rfl,trivial⟩ ?_
 exact ⟨rfl,rfl⟩
theorem zl3 {l:Lay} (hl:l.Ok) {lb ab mb:Nat} {k:LookS} {σ:Array UInt64} {c:Cnt}:FnD Tryz.prog 98 [.pointer (some ⟨lb,0,none⟩),.pointer (some ⟨ab,0,none⟩)] [zi7 189 lb l (k),arenaC ab mb 140 71 (σ) (c)] (.bool (k.step l σ).done) [zi7 189 lb l (k.step l σ),arenaC ab mb 140 71 (σ) (k.cnt l σ c)]:=by
 refine Fn.enter (Tryz.func98) rfl rfl (fun w0 R=>?_)
 refine sA (xaf rfl (dS (TC.block (sA (xmp rfl (xN0 rfl (xf 9 zbf rfl (xlb 0 zb3 rfl rfl ?_))))))))
 refine xab rfl (TL.done (TQ.then (TC.cond rfl (fun q1=>?_) (fun q1=>?_))))
 refine TC.skip (TQ.inBlock (TQ.then (sA (xmp rfl (xN0 rfl (xf 9 zbf rfl (xlb 0 zb3 rfl rfl (xab rfl ?_))))))))
 refine dR ?_
 refine FQ.ret1 (v:=(.bool _)) (Bs:=[_,_]) [0,1] rfl rfl rfl ⟨rfl,rfl,trivial⟩ ?_
 rw [LookS.step_d q1,LookS.cnt_d q1]; exact ⟨rfl,rfl⟩
 refine sA (xmp rfl (xN0 rfl (xf 8 zgd rfl (xlb 0 zb3 rfl rfl (xab rfl (TL.done (TQ.then (TC.cond rfl (fun q2=>?_) (fun q2=>?_)))))))))
 refine TC.seq (TC.draw [(0,true),(1,true),(2,true),(3,true),(4,true),(5,true),(6,true),(7,true),(8,true),(9,true),(10,false),(11,false),(12,true),(13,true),(14,true),(15,true),(16,true)] [0] fc_m (by kernel_rfl) (xmp rfl (xmp rfl (xN0 rfl (xf 0 zjs rfl (xL3 0 zaa rfl rfl (xmp rfl (xN0 rfl ?_))))))))
 refine xf 4 zek rfl (xf 2 zcN rfl (xli 0 zaf rfl rfl (TL.callD [] [] (zf4 hl) ⟨rfl,rfl,trivial⟩ trivial zmz rfl rfl rfl rfl rfl (kL1 rfl trivial) (TL.callD [1] [1] zgC ⟨rfl,rfl,trivial⟩ ⟨rfl,trivial⟩ zmG rfl rfl rfl rfl rfl (kL1 rfl trivial) (xmu rfl (xei rfl rfl (xei rfl rfl (xai rfl ?_))))))))
 refine xai rfl (dG (xmp rfl (xmp rfl (xmp rfl (xN0 rfl (xf 4 zek rfl (xL4 0 zaq rfl rfl (xmi rfl ?_))))))))
 refine TL.callD [] [] zkI ⟨rfl,rfl,trivial⟩ trivial zqm rfl rfl rfl rfl rfl trivial (xN0 rfl (xf 10 zcV rfl (TL.st 0 #[_,_,_,_,_,_,_,_,_,_,_] (.int _ _) rfl rfl rfl rfl rfl rfl zaf rfl rfl trivial (xN0 rfl (xf 9 zbf rfl (TL.st 0 #[_,_,_,_,_,_,_,_,_,_,_] (.bool true) rfl rfl rfl rfl rfl rfl zb3 rfl rfl trivial (TL.done (TQ.inBlock ?_))))))))
 refine TQ.then (sA (xmp rfl (xN0 rfl (xf 9 zbf rfl (xlt 0 zb3 rfl rfl (xat rfl (dR ?_)))))))
 refine FQ.ret1 (v:=(.bool true)) (Bs:=[_,_]) [0,1] rfl rfl rfl ⟨rfl,rfl,trivial⟩ ?_
 rw [LookS.step_h q1 q2,LookS.cnt_h q1 q2]; exact ⟨rfl,rfl⟩
 refine sA (xmp rfl (xmp rfl (xN0 rfl (xf 3 zjr rfl (xli 0 zaf rfl rfl (TL.callD [1] [1] zgC ⟨rfl,rfl,trivial⟩ ⟨rfl,trivial⟩ zmG rfl rfl rfl rfl rfl trivial (xmu rfl (xei rfl rfl ?_))))))))
 refine xei rfl rfl (xai rfl (xai rfl (dA (xmi rfl (TL.callD [] [] zcj ⟨rfl,trivial⟩ trivial zdH rfl rfl rfl rfl rfl trivial (xmu rfl (TL.ext (.agg _) rfl rfl rfl rfl (xei rfl rfl ?_))))))))
 refine TL.alloc 2 (cs:=#[.int .i64 0,.int .i64 0,.int .i64 0,.int .i64 0]) zbe rfl rfl rfl (fun _=>trivial) (fun bk2=>(TL.stW 2 4 [_,_,_,_] rfl rfl rfl rfl rfl rfl zaq rfl rfl trivial (xai rfl (dA (xmp rfl (xmp rfl (xL4 2 zaq rfl rfl (xN0 rfl (xf 4 zek rfl ?_)))))))))
 refine TL.stA 0 4 #[_,_,_,_,_,_,_,_,_,_,_] [_,_,_,_] rfl rfl rfl rfl rfl rfl rfl zaq rfl rfl trivial (xN0 rfl (xf 8 zgd rfl (TL.st 0 #[_,_,_,_,_,_,_,_,_,_,_] (.bool true) rfl rfl rfl rfl rfl rfl zb3 rfl rfl trivial (dA (xmi rfl (TL.neq rfl rfl rfl rfl (fun q3=>?_) (fun q3=>?_)))))))
 refine xmt rfl (xo rfl (xo rfl (xpT rfl (TL.done (TQ.then (TC.condT rfl (TC.region (xmp rfl ?_))))))))
 refine xmp rfl (xf 1 zaV rfl (xli 2 zaf rfl rfl (xN0 rfl (xf 10 zcV rfl (TL.st 0 #[_,_,_,_,_,_,_,_,_,_,_] (.int _ _) rfl rfl rfl rfl rfl rfl zaf rfl rfl trivial (xN0 rfl (xf 9 zbf rfl (TL.st 0 #[_,_,_,_,_,_,_,_,_,_,_] (.bool true) rfl rfl rfl rfl rfl rfl zb3 rfl rfl trivial ?_))))))))
 refine TL.done (TQ.inBlock (TQ.then (sA (xmp rfl (xN0 rfl (xf 9 zbf rfl (xlt 0 zb3 rfl rfl (xat rfl ?_))))))))
 refine dR ?_
 refine FQ.ret1 (v:=(.bool true)) (Bs:=[_,_]) [0,1] rfl rfl rfl ⟨rfl,rfl,trivial⟩ ?_
 rw [LookS.step_0 q1 q2 (.inl (zrz q3)),LookS.cnt_0 q1 q2]; exact ⟨rfl,rfl⟩
 refine xmf rfl (xL4 2 zaq rfl rfl (TL.callD [] [] zfZ ⟨rfl,trivial⟩ trivial zjC rfl rfl rfl rfl rfl trivial (TL.casesP rfl (fun q4=>?_) (fun q4=>?_))))
 refine xpH rfl (TL.done (TQ.then (TC.condT rfl (TC.region (xmp rfl (xmp rfl (xf 1 zaV rfl (xli 2 zaf rfl rfl ?_))))))))
 refine xN0 rfl (xf 10 zcV rfl (TL.st 0 #[_,_,_,_,_,_,_,_,_,_,_] (.int _ _) rfl rfl rfl rfl rfl rfl zaf rfl rfl trivial (xN0 rfl (xf 9 zbf rfl (TL.st 0 #[_,_,_,_,_,_,_,_,_,_,_] (.bool true) rfl rfl rfl rfl rfl rfl zb3 rfl rfl trivial (TL.done (TQ.inBlock (TQ.then ?_))))))))
 refine sA (xmp rfl (xN0 rfl (xf 9 zbf rfl (xlt 0 zb3 rfl rfl (xat rfl (dR ?_))))))
 refine FQ.ret1 (v:=(.bool true)) (Bs:=[_,_]) [0,1] rfl rfl rfl ⟨rfl,rfl,trivial⟩ ?_
 rw [LookS.step_0 q1 q2 (.inr q4),LookS.cnt_0 q1 q2]; exact ⟨rfl,rfl⟩
 refine xpF rfl (TL.done (TQ.then (TC.condF rfl (TC.skip (TQ.inBlock (TQ.then (sA (xmp rfl ?_))))))))
 refine xN0 rfl (xf 9 zbf rfl (xlb 0 zb3 rfl rfl (xab rfl (dR ?_))))
 refine FQ.ret1 (v:=(.bool _)) (Bs:=[_,_]) [0,1] rfl rfl rfl ⟨rfl,rfl,trivial⟩ ?_
 rw [LookS.step_n q1 q2 (zry (by decide) q3) q4,LookS.cnt_0 q1 q2]; exact ⟨rfl,rfl⟩
theorem zlZ {l:Lay} (hl:l.Ok)  : FnD Tryz.prog 91 [layV l] [] (.bool true) []:=by
 have hb:=za4 hl
 refine Fn.enter (Tryz.func91) rfl rfl (fun w0 R=>?_)
 refine sA (xB 0 rfl (fun bk0=>(xaf rfl (dA (xf 0 zas rfl (xli 0 zaf rfl rfl (TL.sub _ rfl rfl (wr64 (by omega)) rfl rfl (TL.callD [] [] zaX ⟨rfl,rfl,trivial⟩ trivial zbh rfl rfl rfl rfl rfl trivial (TL.casesP rfl (fun q1=>?_) (fun q1=>?_))))))))))
 refine xmt rfl (xf 1 za9 rfl (xli 0 zaf rfl rfl (TL.callD [] [] zaX ⟨rfl,rfl,trivial⟩ trivial zbh rfl rfl rfl rfl rfl trivial (TL.casesP rfl (fun q2=>?_) (fun q2=>?_)))))
 refine xpT rfl (xmt rfl (xf 2 zde rfl (xli 0 zaf rfl rfl (TL.sub _ rfl rfl (wr64 (by omega)) rfl rfl (TL.callD [] [] zaX ⟨rfl,rfl,trivial⟩ trivial zbh rfl rfl rfl rfl rfl trivial (TL.pickT (.bool _) rfl rfl rfl rfl (xab rfl (dR ?_))))))))
 refine FQ.ret1 (v:=(.bool _)) (Bs:=[]) [] rfl rfl rfl trivial ?_
 first | exact ⟨congrArg Value.bool (decide_eq_true (by omega)),rfl⟩ | (exfalso; omega)
 refine xpG rfl (xmf rfl (xo rfl (xo rfl (xo rfl (xo rfl (xpF rfl (xaf rfl (dR ?_))))))))
 refine FQ.ret1 (v:=(.bool false)) (Bs:=[]) [] rfl rfl rfl trivial ?_
 first | exact ⟨congrArg Value.bool (decide_eq_true (by omega)),rfl⟩ | (exfalso; omega)
 refine xmf rfl (xo rfl (xo rfl (xo rfl (xpF rfl (xmf rfl (xo rfl (xo rfl (xo rfl ?_))))))))
 refine xo rfl (xpF rfl (xaf rfl (dR ?_)))
 refine FQ.ret1 (v:=(.bool false)) (Bs:=[]) [] rfl rfl rfl trivial ?_
 first | exact ⟨congrArg Value.bool (decide_eq_true (by omega)),rfl⟩ | (exfalso; omega)
theorem znR {S:Type} [MemLike S] {mt:TypeId} {mv:Value} {A:S→Assn} (hM:MemI Tryz.prog mt mv A) {fS:FuncId} (hfS:zfB Tryz.prog mt "Store" fS=true) {l:Lay} (hl:l.Ok) {σ:S}:FnD Tryz.prog 93 [.iface mt mv,layV l] [A σ] (.tuple #[]) [A (zfz l σ)]:=by
 have hb:=za4 hl
 refine Fn.enter (Tryz.func93) rfl rfl (fun w0 R=>?_)
 refine sA (xB 1 rfl (fun bk1=>(dB (xf 1 za9 rfl (xli 1 zaf rfl rfl (xmi rfl (dK (TC.loopK (X:=Nat) [0,3,6] [1] (fun s=>[(7,.int .i64 ((s:Nat):Int))]) (fun s=>[(0,A (zc5 l s σ))]) (fun s=>s≤l.S) (fun s=>l.S - s) (0) (Nat.zero_le _) ⟨rfl,trivial⟩ ⟨rfl,trivial⟩ (fun s hI=>(TC.sub (env':=[(7,_),(0,_),(3,_),(6,_)]) (L':=[(0,_),(1,_)]) ⟨rfl,rfl,rfl,rfl,trivial⟩ ⟨rfl,rfl,trivial⟩ ?_))))))))))
 refine sA (TL.lss rfl rfl rfl rfl (fun q1=>?_) (fun q1=>?_))
 refine dS (TC.condT rfl (TC.skip (TQ.then (TC.seq (TC.block (sA (xmi rfl (xai rfl ?_))))))))
 refine TL.done (TQ.then (TC.draw [(0,true),(1,true),(2,true),(4,true),(5,true),(6,true),(7,true),(8,true),(9,true),(3,false),(10,false)] [1] fc_m (by kernel_rfl) (xmc rfl (xL3 1 zaa rfl rfl (xmi rfl (xmi rfl (TL.add _ rfl rfl (wr64 (by omega)) rfl rfl (TL.conv _ rfl zeR za0 (zqJ (by omega)) rfl rfl ?_))))))))
 refine TL.mf (xs:=[_]) (ys:=[]) [_] [] ⟨rfl,trivial⟩ trivial rfl rfl (TL.ncM hfS rfl rfl rfl (xmc rfl (TL.callD [] [] (zj3 hl) ⟨rfl,rfl,trivial⟩ trivial zm1 rfl rfl rfl rfl rfl (kL1 rfl trivial) (TL.mstore 0 hM rfl rfl rfl (by first | decide | omega) rfl rfl rfl (kL1 rfl trivial) (dI (TL.add (((s+1:Nat):Int)) rfl rfl (wrN (by omega)) rfl rfl (xmi rfl (TL.done ?_))))))))
 refine TQ.roundK (s+1) ⟨(by omega),(by omega)⟩ ⟨rfl,trivial⟩ ⟨rfl,trivial⟩ (kE3 rfl rfl rfl trivial) (kL1 rfl trivial)
 refine dS (TC.condF rfl (TC.exit (TQ.thenExit (TQ.thenExit (TQ.blockHere (TQ.then (sB (xf 1 za9 rfl ?_))))))))
 refine xli 1 zaf rfl rfl (TL.eql rfl rfl rfl rfl (fun q2=>?_) (fun q2=>?_))
 refine TL.done (TQ.then (TC.condT rfl (TC.seq (TC.draw [(0,true),(1,true),(3,true),(4,true),(5,true),(2,false),(6,false)] [1] fc_m (by kernel_rfl) (xmc rfl (xL3 1 zaa rfl rfl (TL.mf (xs:=[_]) (ys:=[]) [_] [] ⟨rfl,trivial⟩ trivial rfl rfl (TL.ncM hfS rfl rfl rfl ?_))))))))
 refine xmc rfl (TL.callD [] [] (zhE hl) ⟨rfl,trivial⟩ trivial zhP rfl rfl rfl rfl rfl (kL1 rfl trivial) (TL.mstore 0 hM rfl rfl rfl (by first | decide | omega) rfl rfl rfl (kL1 rfl trivial) (dRR ?_)))
 refine FQ.ret0 (Bs:=[A _]) [0] rfl rfl ⟨rfl,trivial⟩ ?_
 obtain rfl:s=l.S:=by omega
 have e0:l.S=0:=by omega
 exact ⟨rfl,by rw [zpp e0,e0,zc5]⟩
 refine TL.done (TQ.then (TC.condF rfl (TC.skip (TQ.then (TC.seq (TC.draw [(0,true),(1,true),(2,true),(3,true),(4,true),(6,true),(7,true),(8,true),(5,false),(9,false)] [1] fc_m (by kernel_rfl) (xmc rfl (xL3 1 zaa rfl rfl ?_))))))))
 refine xf 1 za9 rfl (xli 1 zaf rfl rfl (TL.sub _ rfl rfl (wr64 (by omega)) rfl rfl (TL.mf (xs:=[_]) (ys:=[]) [_] [] ⟨rfl,trivial⟩ trivial rfl rfl (TL.ncM hfS rfl rfl rfl (xmc rfl (TL.callD [] [] (zj3 hl) ⟨rfl,rfl,trivial⟩ trivial zm1 rfl rfl rfl rfl rfl (kL1 rfl trivial) (TL.mstore 0 hM rfl rfl rfl (by first | decide | omega) rfl rfl rfl (kL1 rfl trivial) (TL.done ?_))))))))
 refine TQ.then (TC.draw [(0,true),(1,true),(3,true),(4,true),(5,true),(2,false),(6,false)] [1] fc_m (by kernel_rfl) (xmc rfl (xL3 1 zaa rfl rfl (TL.mf (xs:=[_]) (ys:=[]) [_] [] ⟨rfl,trivial⟩ trivial rfl rfl (TL.ncM hfS rfl rfl rfl (xmc rfl (TL.callD [] [] (zhE hl) ⟨rfl,trivial⟩ trivial zhP rfl rfl rfl rfl rfl (kL1 rfl trivial) (TL.mstore 0 hM rfl rfl rfl (by first | decide | omega) rfl rfl rfl (kL1 rfl trivial) ?_))))))))
 refine TL.done ?_
 refine FQ.end0 (Bs:=[A _]) [0] rfl rfl ⟨rfl,trivial⟩ ?_
 obtain rfl:s=l.S:=by omega
 exact ⟨rfl,by rw [zpo (by omega)]⟩
end Go.Proofs.YtjnpjkfliochbaaGreat
