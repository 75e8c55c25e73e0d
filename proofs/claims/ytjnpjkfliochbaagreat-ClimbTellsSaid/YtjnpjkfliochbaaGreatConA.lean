import Derived.Test.YtjnpjkfliochbaaGreatEngE
import Derived.Test.YtjnpjkfliochbaaGreatProg
import Derived.KernelRfl
import Derived.Tactics2
import Derived.StillTactics
import Derived.Laws.Tables
set_option linter.unusedVariables false
set_option linter.unusedSimpArgs false
set_option maxRecDepth 20000
namespace Go.Proofs.YtjnpjkfliochbaaGreat
open Go.Eng Go.Tm
open Go.Eng Go.Tm
abbrev layV (l:Lay):Value:=.agg #[.int .i64 l.V,.int .i64 l.S,.int .i64 l.T]
abbrev zqE (t:Thing):Value:=.agg #[.bool t.arc,.int .i64 t.level,.int .i64 t.vertex,.int .i64 t.slot,.int .i64 t.side]
abbrev wdV (w:Wd):Value:=.agg #[.int .i64 w.old,.int .i64 w.new,.int .i64 w.thread,.int .i64 w.tag]
theorem zpH {x:Int} (_h0:0≤x) (_h1:x≤16):0≤levI x∧levI x≤5:=by
 unfold levI
 repeat' split
 all_goals omega
theorem zqS {s:ByteArray} {x:Int} (h0:0≤x) (h1:x≤16) (hs:(List.range 17).map (fun i=>(s[i]?).map (·.toNat))=[0,1,2,2,3,3,3,3,4,4,4,4,4,4,4,4,5].map some):(s[x.toNat]?).map (fun b=>(b.toNat:Int))=some (levI x):=by
 have hx:x.toNat<17:=by omega
 have h2:=congrArg (fun l=>l[x.toNat]?) hs
 simp only [List.getElem?_map,List.getElem?_range hx,Option.map_some] at h2
 have h3:x=(x.toNat:Int):=by omega
 rw [h3,Int.toNat_natCast]
 generalize x.toNat=i at *
 have:i=0∨i=1∨i=2∨i=3∨i=4∨i=5∨i=6∨i=7∨i=8∨i=9∨i=10∨i=11∨i=12∨i=13∨i=14∨i=15∨i=16:=by omega
 cases hb:s[i]? with
 | none=>rw [hb] at h2; rcases this with rfl | rfl | rfl | rfl | rfl | rfl | rfl | rfl | rfl | rfl | rfl | rfl | rfl | rfl | rfl | rfl | rfl<;>simp at h2
 | some b=>rw [hb] at h2; rcases this with rfl | rfl | rfl | rfl | rfl | rfl | rfl | rfl | rfl | rfl | rfl | rfl | rfl | rfl | rfl | rfl | rfl<;>simp at h2<;>simp [h2,levI]
theorem ze5 {l:Lay} (h:l.Ok):1≤(l.V:Int)∧(l.V:Int)≤16∧(l.S:Int)≤48∧1≤(l.T:Int)∧(l.T:Int)≤8:=by
 obtain ⟨h1,h2,h3,h4,h5⟩:=h; omega
theorem zqP {l:Lay} (h:l.Ok):1≤l.lev∧l.lev≤5:=by
 have:=ze5 h
 unfold Lay.lev levI
 repeat' split
 all_goals omega
theorem za3 {l:Lay} (h:l.Ok):(1≤(l.V:Int)∧(l.V:Int)≤16∧(l.S:Int)≤48∧1≤(l.T:Int)∧(l.T:Int)≤8)∧(1≤l.lev∧l.lev≤5)∧l.arcs=2 * l.lev∧l.free=l.T∧(0≤l.lev * l.V∧l.lev * l.V≤5 * 16)∧(0≤(l.V:Int) * l.lev∧(l.V:Int) * l.lev≤16 * 5) ∧
  (0≤(l.S:Int) * l.arcs∧(l.S:Int) * l.arcs≤48 * 10)∧l.nodes=l.lev * l.V+l.S * l.arcs∧l.heads=l.T+1+l.S * 7∧l.edges=l.heads+l.V * l.lev∧(0≤(l.V:Int) * (l.V - 1)∧(l.V:Int) * (l.V - 1)≤16 * 15) ∧
  l.base=l.edges+(l.V:Int) * (l.V - 1) / 2∧l.cells=l.base+l.nodes * 7:=by
 have h1:=ze5 h
 have h2:=zqP h
 have h3:l.arcs=2 * l.lev:=rfl
 exact ⟨h1,h2,h3,rfl,zcG (by omega) (by omega) (by omega) (by omega),zcG (by omega) (by omega) (by omega) (by omega),zcG (by omega) (by omega) (by omega) (by omega),rfl,rfl,rfl,zcG (by omega) (by omega) (by omega) (by omega),rfl,rfl⟩
theorem zlr {a b:Int} (h0:0≤a) (hb:0<b) (ha:a<9223372036854775808):IntKind.i64.wrap (a.tdiv b)=a / b:=by
 rw [Int.tdiv_eq_ediv_of_nonneg h0]
 exact wr64 ⟨by have:=Int.ediv_nonneg h0 (Int.le_of_lt hb); omega,by have:=Int.ediv_le_self b h0; omega⟩
theorem zpo {a b:Int} (h0:0≤a):a.tmod b=a % b:=Int.tmod_eq_emod_of_nonneg h0
theorem zen {x V:Int} (h0:0≤x) (h1:x<V) (h2:V≤16):0≤x * (2 * V - x - 1)∧x * (2 * V - x - 1)≤16 * 32:=zcG h0 (by omega) (by omega) (by omega)
abbrev zaV (l:Lay) (mt:TypeId) (mv:Value) (p:Pen):Value:=.agg #[.int .i64 l.V,.int .i64 l.S,.int .i64 l.T,.iface mt mv,.int .i64 p.thread,.int .i64 p.tag]
abbrev zfy (l:Lay) (mt:TypeId) (mv:Value):Value:=.agg #[.int .i64 l.V,.int .i64 l.S,.int .i64 l.T,.iface mt mv]
abbrev adjV (l:Lay) (mt:TypeId) (mv:Value) (p:Pen):Value:=.agg #[.int .i64 l.V,.int .i64 l.S,.int .i64 l.T,.iface mt mv,.int .i64 p.thread,.int .i64 p.tag,.int .i64 l.V,.int .i64 l.S,.int .i64 l.T,.iface mt mv]
theorem zjS (l:Lay) (x m:Int):0≤zd2 l x m∧zd2 l x m<18446744073709551616:=by
 unfold zd2; split<;>exact zcq _ _
theorem zky {S:Type} [MemLike S] (l:Lay) (σ:S) (x m:Int) (i:Nat):0≤(zc3 l σ x m i).1∧(zc3 l σ x m i).1<18446744073709551616:=by
 cases i with
 | zero=>exact zjS _ _ _
 | succ i=>exact zcq _ _
abbrev edgV (e:Edg):Value:=.agg #[.int .i64 e.u,.int .i64 e.v,.int .i64 e.level,.bool e.tree]
theorem quo2 (z:Int):IntKind.i64.wrap ((IntKind.i64.wrap z).tdiv 2)=(IntKind.i64.wrap z).tdiv 2:=by
 have h:-9223372036854775808≤IntKind.i64.wrap z∧IntKind.i64.wrap z<9223372036854775808:=by
  rw [IntKind.wrap_i64]; omega
 generalize IntKind.i64.wrap z=y at *
 refine wr64 ?_
 have h1:=Int.mul_tdiv_add_tmod y 2
 have h2:=Int.tmod_lt_of_pos y (show (0:Int)<2 by omega)
 have h3:=Int.lt_tmod_of_pos y (show (0:Int)<2 by omega)
 omega
theorem zdF:(Tryz.prog.underlying 71).isSome=true:=by kernel_rfl
theorem zoa:intB Tryz.prog 5 .u8=true:=by kernel_rfl
theorem zq0:Tryz.prog.underlying 9=some .string:=by kernel_rfl
theorem fc_u5:(Tryz.prog.underlying 5).isSome=true:=by kernel_rfl
theorem zbr:intB Tryz.prog 3 .i64=true:=by kernel_rfl
theorem zqc:zah Tryz.prog 145=true:=by kernel_rfl
theorem zaq:fldB Tryz.prog 23 0 0=true:=by kernel_rfl
theorem zaf:zb3 Tryz.prog 3=true:=by kernel_rfl
theorem zeN:(Tryz.prog.underlying 3).isSome=true:=by kernel_rfl
theorem zjj:intB Tryz.prog 170 .u64=true:=by kernel_rfl
theorem zqh:zah Tryz.prog 116=true:=by kernel_rfl
theorem zaa:aggB Tryz.prog 23 3=true:=by kernel_rfl
theorem zd8:zah Tryz.prog 77=true:=by kernel_rfl
theorem fc_m:Tryz.prog.follows .mixedOrders=true:=by kernel_rfl
theorem za9:fldB Tryz.prog 23 1 1=true:=by kernel_rfl
theorem zj3:zah Tryz.prog 78=true:=by kernel_rfl
theorem zbe:zah Tryz.prog 102=true:=by kernel_rfl
theorem zdU:fldB Tryz.prog 23 2 2=true:=by kernel_rfl
theorem zhM:zah Tryz.prog 122=true:=by kernel_rfl
theorem zgp:zah Tryz.prog 149=true:=by kernel_rfl
theorem zmD:zah Tryz.prog 148=true:=by kernel_rfl
theorem zmO:zah Tryz.prog 120=true:=by kernel_rfl
theorem zfx:zah Tryz.prog 17=true:=by kernel_rfl
theorem zoP:zah Tryz.prog 88=true:=by kernel_rfl
theorem zd6:zbz Tryz.prog 94=some (.agg #[.bool false,.int .i64 0,.int .i64 0,.int .i64 0,.int .i64 0]):=by kernel_rfl
theorem zmi:za5 Tryz.prog 94 [(0,1),(1,1),(2,1),(3,1),(4,1)]=true:=by kernel_rfl
theorem zbG:aggB Tryz.prog 94 5=true:=by kernel_rfl
theorem zb7:fldB Tryz.prog 175 2 2=true:=by kernel_rfl
theorem za7:fldB Tryz.prog 175 0 0=true:=by kernel_rfl
theorem zfj:zah Tryz.prog 163=true:=by kernel_rfl
theorem zaJ:fldB Tryz.prog 175 1 1=true:=by kernel_rfl
theorem zb6:fldB Tryz.prog 175 3 3=true:=by kernel_rfl
theorem zak:aggB Tryz.prog 175 4=true:=by kernel_rfl
theorem zhL:zah Tryz.prog 132=true:=by kernel_rfl
theorem zmz:zah Tryz.prog 162=true:=by kernel_rfl
theorem za0:intB Tryz.prog 71 .u64=true:=by kernel_rfl
theorem za6:zbz Tryz.prog 175=some (.agg #[.int .i64 0,.int .i64 0,.int .i64 0,.int .i64 0]):=by kernel_rfl
theorem zjs:zah Tryz.prog 161=true:=by kernel_rfl
theorem zfc:za5 Tryz.prog 175 [(0,1),(1,1),(2,1),(3,1)]=true:=by kernel_rfl
theorem zc9:fldB Tryz.prog 37 0 0=true:=by kernel_rfl
theorem zb5:fldB Tryz.prog 37 1 1=true:=by kernel_rfl
theorem zcY:zah Tryz.prog 131=true:=by kernel_rfl
theorem zmJ:zah Tryz.prog 134=true:=by kernel_rfl
theorem zhJ:zah Tryz.prog 143=true:=by kernel_rfl
theorem zmQ:zah Tryz.prog 113=true:=by kernel_rfl
theorem zaT:fldB Tryz.prog 39 1 3=true:=by kernel_rfl
theorem zbg:zb3 Tryz.prog 35=true:=by kernel_rfl
theorem zav:fldB Tryz.prog 39 0 0=true:=by kernel_rfl
theorem zbK:zah Tryz.prog 54=true:=by kernel_rfl
theorem zg3:zah Tryz.prog 47=true:=by kernel_rfl
theorem zff:fldB Tryz.prog 94 1 1=true:=by kernel_rfl
theorem zab:aggB Tryz.prog 39 6=true:=by kernel_rfl
theorem zmE:zah Tryz.prog 146=true:=by kernel_rfl
theorem zqk:zah Tryz.prog 107=true:=by kernel_rfl
theorem zcL:zah Tryz.prog 147=true:=by kernel_rfl
theorem zg1:fldB Tryz.prog 39 2 4=true:=by kernel_rfl
theorem zby:aggB Tryz.prog 37 2=true:=by kernel_rfl
theorem zql:zah Tryz.prog 106=true:=by kernel_rfl
theorem zhI:zah Tryz.prog 150=true:=by kernel_rfl
theorem zgX:fldB Tryz.prog 94 0 0=true:=by kernel_rfl
theorem zbW:zb3 Tryz.prog 4=true:=by kernel_rfl
theorem zmC:zah Tryz.prog 152=true:=by kernel_rfl
theorem zpR:zbz Tryz.prog 128=some (.agg #[.int .i64 0,.int .i64 0]):=by kernel_rfl
theorem zeO:ziD Tryz.prog 128 2 3 1=true:=by kernel_rfl
theorem zgk:zah Tryz.prog 195=true:=by kernel_rfl
theorem zpX:zah Tryz.prog 196=true:=by kernel_rfl
theorem zgo:zah Tryz.prog 151=true:=by kernel_rfl
theorem zfk:zah Tryz.prog 119=true:=by kernel_rfl
theorem zhF:zah Tryz.prog 188=true:=by kernel_rfl
theorem zfg:zah Tryz.prog 186=true:=by kernel_rfl
theorem zgl:zah Tryz.prog 187=true:=by kernel_rfl
theorem zjn:zah Tryz.prog 189=true:=by kernel_rfl
theorem zhE:zah Tryz.prog 194=true:=by kernel_rfl
theorem zpY:zah Tryz.prog 193=true:=by kernel_rfl
theorem zjo:zah Tryz.prog 185=true:=by kernel_rfl
theorem zms:zah Tryz.prog 197=true:=by kernel_rfl
theorem zmu:zah Tryz.prog 184=true:=by kernel_rfl
theorem zai:fldB Tryz.prog 41 0 0=true:=by kernel_rfl
theorem zfw:zah Tryz.prog 51=true:=by kernel_rfl
theorem zgi:zah Tryz.prog 86=true:=by kernel_rfl
theorem zjp:zah Tryz.prog 175=true:=by kernel_rfl
theorem zdn:zah Tryz.prog 176=true:=by kernel_rfl
theorem zfh:zah Tryz.prog 171=true:=by kernel_rfl
theorem zp0:zah Tryz.prog 190=true:=by kernel_rfl
theorem zjq:zah Tryz.prog 174=true:=by kernel_rfl
theorem zbx:aggB Tryz.prog 41 6=true:=by kernel_rfl
theorem zmy:zah Tryz.prog 170=true:=by kernel_rfl
theorem zmx:zah Tryz.prog 172=true:=by kernel_rfl
theorem zgq:zah Tryz.prog 123=true:=by kernel_rfl
theorem za8:fldB Tryz.prog 43 1 3=true:=by kernel_rfl
theorem zau:fldB Tryz.prog 43 0 0=true:=by kernel_rfl
theorem zhN:zah Tryz.prog 109=true:=by kernel_rfl
theorem zmI:zah Tryz.prog 135=true:=by kernel_rfl
theorem zju:zah Tryz.prog 136=true:=by kernel_rfl
theorem zmH:zah Tryz.prog 137=true:=by kernel_rfl
theorem zdE:zbz Tryz.prog 183=some (.agg #[.int .i64 0,.int .i64 0,.int .i64 0,.bool false]):=by kernel_rfl
theorem zaL:aggB Tryz.prog 43 4=true:=by kernel_rfl
theorem zmB:zah Tryz.prog 153=true:=by kernel_rfl
theorem zit:zah Tryz.prog 73=true:=by kernel_rfl
theorem zpT:za5 Tryz.prog 183 [(0,1),(1,1),(2,1),(3,1)]=true:=by kernel_rfl
theorem zci:aggB Tryz.prog 183 4=true:=by kernel_rfl
theorem zao:fldB Tryz.prog 45 1 6=true:=by kernel_rfl
theorem zp2:zah Tryz.prog 182=true:=by kernel_rfl
theorem zp1:zah Tryz.prog 183=true:=by kernel_rfl
theorem zam:aggB Tryz.prog 45 10=true:=by kernel_rfl
theorem zhH:zah Tryz.prog 164=true:=by kernel_rfl
theorem zgn:zah Tryz.prog 165=true:=by kernel_rfl
theorem za4:fldB Tryz.prog 45 0 0=true:=by kernel_rfl
theorem zrm:znk Tryz.prog 4=true:=by kernel_rfl
theorem zmw:zah Tryz.prog 173=true:=by kernel_rfl
theorem zjr:zah Tryz.prog 167=true:=by kernel_rfl
theorem zdo:zah Tryz.prog 166=true:=by kernel_rfl
theorem zgm:zah Tryz.prog 168=true:=by kernel_rfl
theorem zfi:zah Tryz.prog 169=true:=by kernel_rfl
theorem zdG:zah Tryz.prog 125=true:=by kernel_rfl
theorem zbt:fldB Tryz.prog 183 0 0=true:=by kernel_rfl
theorem za1:fldB Tryz.prog 183 2 2=true:=by kernel_rfl
theorem zhK:zah Tryz.prog 139=true:=by kernel_rfl
theorem zmG:zah Tryz.prog 138=true:=by kernel_rfl
theorem zbs:fldB Tryz.prog 183 1 1=true:=by kernel_rfl
theorem zmA:zah Tryz.prog 154=true:=by kernel_rfl
theorem zaj:fldB Tryz.prog 47 0 0=true:=by kernel_rfl
theorem zqd:zah Tryz.prog 140=true:=by kernel_rfl
theorem zmF:zah Tryz.prog 141=true:=by kernel_rfl
theorem za2:aggB Tryz.prog 47 10=true:=by kernel_rfl
theorem zjt:zah Tryz.prog 142=true:=by kernel_rfl
theorem zeP:zn7 Tryz.prog 183 2 2 3=true:=by kernel_rfl
theorem zqb:zah Tryz.prog 155=true:=by kernel_rfl
theorem zmt:zah Tryz.prog 192=true:=by kernel_rfl
theorem zjv:zah Tryz.prog 126=true:=by kernel_rfl
theorem zmS:zah Tryz.prog 111=true:=by kernel_rfl
theorem zpZ:zah Tryz.prog 191=true:=by kernel_rfl
theorem zhG:zah Tryz.prog 178=true:=by kernel_rfl
theorem zkL:fldB Tryz.prog 94 3 3=true:=by kernel_rfl
theorem zp5:zah Tryz.prog 179=true:=by kernel_rfl
theorem zkM:fldB Tryz.prog 94 2 2=true:=by kernel_rfl
theorem zp4:zah Tryz.prog 180=true:=by kernel_rfl
theorem zmU:zah Tryz.prog 100=true:=by kernel_rfl
theorem zp3:zah Tryz.prog 181=true:=by kernel_rfl
theorem zmv:zah Tryz.prog 177=true:=by kernel_rfl
theorem zir:zbz Tryz.prog 49=some (.agg #[.int .i64 0,.int .i64 0,.int .i64 0,.nilIface,.int .i64 0,.int .i64 0,.int .i64 0,.int .i64 0,.int .i64 0,.nilIface]):=by kernel_rfl
theorem zmj:za5 Tryz.prog 39 [(0,3),(3,1),(4,2)]=true:=by kernel_rfl
theorem zis:zbz Tryz.prog 39=some (.agg #[.int .i64 0,.int .i64 0,.int .i64 0,.nilIface,.int .i64 0,.int .i64 0]):=by kernel_rfl
theorem zq7:za5 Tryz.prog 41 [(0,6)]=true:=by kernel_rfl
theorem zoK:zbz Tryz.prog 41=some (.agg #[.int .i64 0,.int .i64 0,.int .i64 0,.nilIface,.int .i64 0,.int .i64 0]):=by kernel_rfl
theorem zq6:za5 Tryz.prog 43 [(0,3),(3,1)]=true:=by kernel_rfl
theorem zqZ:zbz Tryz.prog 43=some (.agg #[.int .i64 0,.int .i64 0,.int .i64 0,.nilIface]):=by kernel_rfl
theorem zq5:za5 Tryz.prog 45 [(0,6),(6,4)]=true:=by kernel_rfl
theorem zqY:zbz Tryz.prog 45=some (.agg #[.int .i64 0,.int .i64 0,.int .i64 0,.nilIface,.int .i64 0,.int .i64 0,.int .i64 0,.int .i64 0,.int .i64 0,.nilIface]):=by kernel_rfl
theorem zq4:za5 Tryz.prog 47 [(0,10)]=true:=by kernel_rfl
theorem zqX:zbz Tryz.prog 47=some (.agg #[.int .i64 0,.int .i64 0,.int .i64 0,.nilIface,.int .i64 0,.int .i64 0,.int .i64 0,.int .i64 0,.int .i64 0,.nilIface]):=by kernel_rfl
theorem zq3:za5 Tryz.prog 49 [(0,10)]=true:=by kernel_rfl
theorem zaK:aggB Tryz.prog 49 10=true:=by kernel_rfl
theorem zaD:fldB Tryz.prog 49 0 0=true:=by kernel_rfl
theorem zrj:zah Tryz.prog 42=true:=by kernel_rfl
theorem zqj:zah Tryz.prog 110=true:=by kernel_rfl
theorem zmR:zah Tryz.prog 112=true:=by kernel_rfl
theorem zqa:zah Tryz.prog 156=true:=by kernel_rfl
theorem zp9:zah Tryz.prog 157=true:=by kernel_rfl
theorem zp8:zah Tryz.prog 158=true:=by kernel_rfl
theorem zjm:fldB Tryz.prog 183 3 3=true:=by kernel_rfl
theorem zmM:zah Tryz.prog 127=true:=by kernel_rfl
theorem zqf:zah Tryz.prog 128=true:=by kernel_rfl
theorem zqe:zah Tryz.prog 129=true:=by kernel_rfl
theorem zcK:fldB Tryz.prog 140 0 0=true:=by kernel_rfl
theorem zgb:zb3 Tryz.prog 24=true:=by kernel_rfl
theorem zaM:zcB Tryz.prog 24 71 1=true:=by kernel_rfl
theorem zcJ:fldB Tryz.prog 140 1 1=true:=by kernel_rfl
theorem zdT:fldB Tryz.prog 62 0 0=true:=by kernel_rfl
theorem zj2:zah Tryz.prog 89=true:=by kernel_rfl
theorem zhD:ptrB Tryz.prog 143=true:=by kernel_rfl
theorem zjZ:zb3 Tryz.prog 71=true:=by kernel_rfl
theorem zdS:fldB Tryz.prog 62 1 1=true:=by kernel_rfl
theorem zg0:fldB Tryz.prog 62 2 2=true:=by kernel_rfl
theorem zgY:fldB Tryz.prog 88 0 0=true:=by kernel_rfl
theorem zfv:zb3 Tryz.prog 33=true:=by kernel_rfl
theorem zmr:zah Tryz.prog 31=true:=by kernel_rfl
theorem zri:zah Tryz.prog 55=true:=by kernel_rfl
theorem zji:appB Tryz.prog 24 71 1=true:=by kernel_rfl
theorem zqW:zbz Tryz.prog 71=some (.int .u64 0):=by kernel_rfl
theorem zpV:za5 Tryz.prog 140 [(0,1),(1,5)]=true:=by kernel_rfl
theorem zpQ:zbz Tryz.prog 140=some (.agg #[.slice none 0 0,.int .i64 0,.int .i64 0,.int .i64 0,.int .i64 0,.int .i64 0]):=by kernel_rfl
theorem zme:zbz Tryz.prog 88=some (.agg #[.pointer none]):=by kernel_rfl
theorem zq1:za5 Tryz.prog 88 [(0,1)]=true:=by kernel_rfl
theorem zdp:aggB Tryz.prog 88 1=true:=by kernel_rfl
theorem zp7:zah Tryz.prog 159=true:=by kernel_rfl
theorem zp6:zah Tryz.prog 160=true:=by kernel_rfl
theorem zqi:zah Tryz.prog 115=true:=by kernel_rfl
theorem zmP:zah Tryz.prog 114=true:=by kernel_rfl
theorem zmK:zah Tryz.prog 133=true:=by kernel_rfl
theorem zmm:zah Tryz.prog 53=true:=by kernel_rfl
theorem zmT:zah Tryz.prog 104=true:=by kernel_rfl
theorem zmL:zah Tryz.prog 130=true:=by kernel_rfl
theorem zpS:za5 Tryz.prog 189 [(0,3),(3,1),(4,4),(8,1),(9,1),(10,1)]=true:=by kernel_rfl
theorem zpO:zbz Tryz.prog 189=some (.agg #[.int .i64 0,.int .i64 0,.int .i64 0,.int .i64 0,.int .i64 0,.int .i64 0,.int .i64 0,.int .i64 0,.bool false,.bool false,.int .i64 0]):=by kernel_rfl
theorem zcS:fldB Tryz.prog 189 5 10=true:=by kernel_rfl
theorem zbc:fldB Tryz.prog 189 4 9=true:=by kernel_rfl
theorem zgd:fldB Tryz.prog 189 3 8=true:=by kernel_rfl
theorem zjl:fldB Tryz.prog 189 0 0=true:=by kernel_rfl
theorem zei:fldB Tryz.prog 189 2 4=true:=by kernel_rfl
theorem zjk:fldB Tryz.prog 189 1 3=true:=by kernel_rfl
theorem zmN:zah Tryz.prog 121=true:=by kernel_rfl
theorem zoQ:zah Tryz.prog 75=true:=by kernel_rfl
theorem zbH:zd1 Tryz.prog 88 "Store" 215=true:=by kernel_rfl
theorem zgr:zd1 Tryz.prog 88 "Load" 214=true:=by kernel_rfl
theorem zre:zah Tryz.prog 91=true:=by kernel_rfl
theorem zrl:zah Tryz.prog 30=true:=by kernel_rfl
theorem zrd:zah Tryz.prog 92=true:=by kernel_rfl
theorem zgj:zah Tryz.prog 38=true:=by kernel_rfl
theorem zd7:zhn Tryz.prog 88=true:=by kernel_rfl
theorem zrc:zah Tryz.prog 93=true:=by kernel_rfl
theorem zoM:za5 Tryz.prog 37 [(0,1),(1,1)]=true:=by kernel_rfl
theorem zmg:zbz Tryz.prog 37=some (.agg #[.int .i64 0,.int .i64 0]):=by kernel_rfl
theorem zj1:zah Tryz.prog 94=true:=by kernel_rfl
theorem zj0:zah Tryz.prog 97=true:=by kernel_rfl
theorem zpU:za5 Tryz.prog 157 [(0,3),(3,1),(4,1),(5,1),(6,1),(7,1),(8,1)]=true:=by kernel_rfl
theorem zpP:zbz Tryz.prog 157=some (.agg #[.int .i64 0,.int .i64 0,.int .i64 0,.int .i64 0,.pointer none,.bool false,.bool false,.int .i64 0,.int .i64 0]):=by kernel_rfl
theorem zbu:fldB Tryz.prog 157 4 6=true:=by kernel_rfl
theorem zge:fldB Tryz.prog 157 5 7=true:=by kernel_rfl
theorem zej:fldB Tryz.prog 157 6 8=true:=by kernel_rfl
theorem zdm:fldB Tryz.prog 157 1 3=true:=by kernel_rfl
theorem zcI:fldB Tryz.prog 157 2 4=true:=by kernel_rfl
theorem zgc:zb3 Tryz.prog 154=true:=by kernel_rfl
theorem zrb:zah Tryz.prog 98=true:=by kernel_rfl
theorem zra:zah Tryz.prog 99=true:=by kernel_rfl
theorem zek:fldB Tryz.prog 157 3 5=true:=by kernel_rfl
theorem zbJ:fldB Tryz.prog 157 0 0=true:=by kernel_rfl
theorem zfd:zcB Tryz.prog 59 3 1=true:=by kernel_rfl
theorem zkJ:appB Tryz.prog 59 3 1=true:=by kernel_rfl
theorem zmf:zbz Tryz.prog 62=some (.agg #[.int .i64 0,.int .i64 0,.int .i64 0,.int .i64 0,.int .i64 0]):=by kernel_rfl
theorem zeQ:aggB Tryz.prog 62 5=true:=by kernel_rfl
theorem fc_z3:zbz Tryz.prog 3=some (.int .i64 0):=by kernel_rfl
theorem zbi:fldB Tryz.prog 84 0 0=true:=by kernel_rfl
theorem zkK:appB Tryz.prog 54 4 1=true:=by kernel_rfl
theorem fc_z4:zbz Tryz.prog 4=some (.bool false):=by kernel_rfl
theorem zqg:zah Tryz.prog 124=true:=by kernel_rfl
theorem zfe:zcB Tryz.prog 54 4 1=true:=by kernel_rfl
theorem zcz:fldB Tryz.prog 84 1 3=true:=by kernel_rfl
theorem zmq:zah Tryz.prog 37=true:=by kernel_rfl
theorem zaZ:zcB Tryz.prog 75 150 3=true:=by kernel_rfl
theorem zda:aggB Tryz.prog 150 3=true:=by kernel_rfl
theorem zjh:zbz Tryz.prog 150=some (.agg #[.int .i64 0,.int .i64 0,.int .i64 0]):=by kernel_rfl
theorem zaG:fldB Tryz.prog 150 1 1=true:=by kernel_rfl
theorem zaF:fldB Tryz.prog 150 2 2=true:=by kernel_rfl
theorem zbd:fldB Tryz.prog 150 0 0=true:=by kernel_rfl
theorem zg2:zah Tryz.prog 96=true:=by kernel_rfl
theorem zmk:zah Tryz.prog 95=true:=by kernel_rfl
theorem zml:zah Tryz.prog 74=true:=by kernel_rfl
theorem zgh:fldB Tryz.prog 123 0 0=true:=by kernel_rfl
theorem zgg:fldB Tryz.prog 123 1 1=true:=by kernel_rfl
theorem zgf:fldB Tryz.prog 123 2 2=true:=by kernel_rfl
theorem zmh:zbz Tryz.prog 123=some (.agg #[.int .i64 0,.int .i64 0,.int .i64 0]):=by kernel_rfl
theorem zpW:za5 Tryz.prog 123 [(0,1),(1,1),(2,1)]=true:=by kernel_rfl
theorem ziu:aggB Tryz.prog 123 3=true:=by kernel_rfl
theorem zaN:fldB Tryz.prog 77 0 0=true:=by kernel_rfl
theorem zrf:zah Tryz.prog 90=true:=by kernel_rfl
theorem zrh:zah Tryz.prog 72=true:=by kernel_rfl
theorem zgZ:fldB Tryz.prog 77 1 3=true:=by kernel_rfl
theorem zdR:fldB Tryz.prog 77 2 4=true:=by kernel_rfl
theorem zjY:zb3 Tryz.prog 75=true:=by kernel_rfl
theorem zqm:zah Tryz.prog 103=true:=by kernel_rfl
theorem zoW:zah Tryz.prog 35=true:=by kernel_rfl
theorem zoO:ptrB Tryz.prog 33=true:=by kernel_rfl
theorem zq2:za5 Tryz.prog 84 [(0,3),(3,1)]=true:=by kernel_rfl
theorem zqV:zbz Tryz.prog 84=some (.agg #[.int .i64 0,.int .i64 0,.int .i64 0,.pointer none]):=by kernel_rfl
theorem zoV:zah Tryz.prog 36=true:=by kernel_rfl
theorem zoT:zah Tryz.prog 49=true:=by kernel_rfl
theorem zrg:zah Tryz.prog 76=true:=by kernel_rfl
theorem zkN:fldB Tryz.prog 77 3 5=true:=by kernel_rfl
theorem zq8:za5 Tryz.prog 23 [(0,1),(1,1),(2,1)]=true:=by kernel_rfl
theorem zoL:zbz Tryz.prog 23=some (.agg #[.int .i64 0,.int .i64 0,.int .i64 0]):=by kernel_rfl
theorem zoU:zah Tryz.prog 39=true:=by kernel_rfl
theorem zoN:ptrB Tryz.prog 90=true:=by kernel_rfl
theorem zj4:zah Tryz.prog 40=true:=by kernel_rfl
theorem zmp:zah Tryz.prog 41=true:=by kernel_rfl
theorem zoS:zah Tryz.prog 50=true:=by kernel_rfl
theorem zoR:zah Tryz.prog 52=true:=by kernel_rfl
theorem zmo:zah Tryz.prog 46=true:=by kernel_rfl
theorem zhO:aggB Tryz.prog 77 6=true:=by kernel_rfl
theorem zoX:zah Tryz.prog 32=true:=by kernel_rfl
theorem zj5:zah Tryz.prog 33=true:=by kernel_rfl
theorem zrk:zah Tryz.prog 34=true:=by kernel_rfl
theorem zq9:ptrB Tryz.prog 79=true:=by kernel_rfl
theorem zmn:zah Tryz.prog 48=true:=by kernel_rfl
theorem zoY:zah Tryz.prog 24=true:=by kernel_rfl
theorem zaX {n m:Int}:FnD Tryz.prog 102 [.int .i64 n,.int .i64 m] [] (.bool (decide (0≤n∧n<m))) []:=by
 refine Fn.enter (Tryz.func102) rfl rfl (fun w0 R=>?_)
 refine sA (xaf rfl (dA (xmi rfl (TL.geq rfl rfl rfl rfl (fun q1=>?_) (fun q1=>?_)))))
 refine xmt rfl (xmi rfl (xmi rfl (TL.lssV rfl rfl rfl rfl (TL.pickT (.bool _) rfl rfl rfl rfl (xab rfl (dR ?_))))))
 refine FQ.ret1 (v:=(.bool _)) (Bs:=[]) [] rfl rfl rfl trivial ?_
 first | exact ⟨bT (by omega),rfl⟩ | exact ⟨bF (by omega),rfl⟩ | exact ⟨congrArg Value.bool (decide_eq_decide.2 (by omega)),rfl⟩
 refine xmf rfl (xo rfl (xo rfl (xo rfl (xpF rfl (xaf rfl (dR ?_))))))
 refine FQ.ret1 (v:=(.bool false)) (Bs:=[]) [] rfl rfl rfl trivial ?_
 first | exact ⟨bT (by omega),rfl⟩ | exact ⟨bF (by omega),rfl⟩ | exact ⟨congrArg Value.bool (decide_eq_decide.2 (by omega)),rfl⟩
theorem zn2 {x:Int} (h0:0≤x) (h1:x≤16):FnD Tryz.prog 145 [.int .u64 x] [] (.int .i64 (levI x)) []:=by
 have hl:=zpH h0 h1
 refine Fn.enter (Tryz.func145) rfl rfl (fun w0 R=>?_)
 refine sA (xai rfl (dB (xmi rfl (TL.geqF rfl rfl (by omega) rfl rfl (TL.done (TQ.then (TC.condF rfl (TC.skip ?_))))))))
 refine TQ.then (sB (xmi rfl (TL.geqF rfl rfl (by omega) rfl rfl (TL.done (TQ.then (TC.condF rfl (TC.skip (TQ.then ?_))))))))
 refine sB (xmi rfl (TL.geqF rfl rfl (by omega) rfl rfl (dF rfl (xmi rfl (xmi rfl (TL.conv _ rfl zdF zoa (wru8 (by omega)) rfl rfl (TL.ixS (levI x) rfl rfl zq0 (by omega) (zqS h0 h1 (by kernel_rfl)) rfl rfl (TL.conv _ rfl fc_u5 zbr (wr64 (by omega)) rfl rfl ?_))))))))
 refine TL.add _ rfl rfl (wr64 (by omega)) rfl rfl (xai rfl (dR ?_))
 refine FQ.ret1 (v:=(.int _ _)) (Bs:=[]) [] rfl rfl rfl trivial ?_
 exact ⟨iE (by omega),rfl⟩
theorem zqQ {x:Int} (h0:0≤x) (h1:x≤16):FnD Tryz.prog 116 [.int .u64 x] [] (.int .i64 (levI x)) []:=by
 refine Fn.enter (Tryz.func116) rfl rfl (fun w0 R=>?_)
 refine sA (xai rfl (dS (TC.condF rfl (TC.skip (TQ.then (sA (xmi rfl (TL.callD [] [] (zn2 (by omega) (by omega)) ⟨rfl,trivial⟩ trivial zqc rfl rfl rfl rfl rfl trivial ?_))))))))
 refine xai rfl (dR ?_)
 refine FQ.ret1 (v:=(.int _ _)) (Bs:=[]) [] rfl rfl rfl trivial ?_
 exact ⟨rfl,rfl⟩
theorem zbC {l:Lay} (hl:l.Ok)  : FnD Tryz.prog 77 [layV l] [] (.int .i64 l.lev) []:=by
 have hb:=ze5 hl
 refine Fn.enter (Tryz.func77) rfl rfl (fun w0 R=>?_)
 refine sA (xB 0 rfl (fun bk0=>(xai rfl (dA (xf 0 zaq rfl (xli 0 zaf rfl rfl (TL.conv _ rfl zeN zjj (zqA (by omega)) rfl rfl (TL.callD [] [] (zqQ (by omega) (by omega)) ⟨rfl,trivial⟩ trivial zqh rfl rfl rfl rfl rfl trivial (xai rfl ?_)))))))))
 refine dR ?_
 refine FQ.ret1 (v:=(.int _ _)) (Bs:=[]) [] rfl rfl rfl trivial ?_
 exact ⟨rfl,rfl⟩
theorem zhW {l:Lay} (hl:l.Ok)  : FnD Tryz.prog 78 [layV l] [] (.int .i64 l.arcs) []:=by
 have hb:=za3 hl
 refine Fn.enter (Tryz.func78) rfl rfl (fun w0 R=>?_)
 refine sA (xB 0 rfl (fun bk0=>(xai rfl (dA (xL3 0 zaa rfl rfl (TL.callD [] [] (zbC hl) ⟨rfl,trivial⟩ trivial zd8 rfl rfl rfl rfl rfl trivial (TL.mul _ rfl rfl (wr64 (by omega)) rfl rfl (xai rfl (dR ?_)))))))))
 refine FQ.ret1 (v:=(.int _ _)) (Bs:=[]) [] rfl rfl rfl trivial ?_
 exact ⟨rfl,rfl⟩
theorem zcP {l:Lay} (hl:l.Ok)  : FnD Tryz.prog 17 [layV l] [] (.int .i64 l.nodes) []:=by
 have hb:=za3 hl
 refine Fn.enter (Tryz.func17) rfl rfl (fun w0 R=>?_)
 refine sA (xB 0 rfl (fun bk0=>(xai rfl (dS (TC.draw [(0,true),(2,true),(3,true),(5,true),(6,true),(7,true),(1,false),(4,true),(8,false),(9,true),(10,true),(11,true)] [0] fc_m (by kernel_rfl) (xL3 0 zaa rfl rfl (xf 0 zaq rfl (xli 0 zaf rfl rfl (xf 1 za9 rfl ?_)))))))))
 refine xli 0 zaf rfl rfl (xL3 0 zaa rfl rfl (TL.callD [] [] (zbC hl) ⟨rfl,trivial⟩ trivial zd8 rfl rfl rfl rfl rfl (kL1 rfl trivial) (TL.mul _ rfl rfl (wr64 (by omega)) rfl rfl (TL.callD [] [] (zhW hl) ⟨rfl,trivial⟩ trivial zj3 rfl rfl rfl rfl rfl (kL1 rfl trivial) (TL.mul _ rfl rfl (wr64 (by omega)) rfl rfl (TL.add _ rfl rfl (wr64 (by omega)) rfl rfl (xai rfl (dR ?_))))))))
 refine FQ.ret1 (v:=(.int _ _)) (Bs:=[]) [] rfl rfl rfl trivial ?_
 exact ⟨rfl,rfl⟩
theorem zcd {l:Lay} (hl:l.Ok) {i v:Int}:FnD Tryz.prog 51 [layV l,.int .i64 i,.int .i64 v] [] (.int .i64 (l.vertex i v)) []:=by
 have hb:=za3 hl
 refine Fn.enter (Tryz.func51) rfl rfl (fun w0 R=>?_)
 refine sA (xB 0 rfl (fun bk0=>(xai rfl (dB (xmi rfl (xL3 0 zaa rfl rfl (TL.callD [] [] (zbC hl) ⟨rfl,trivial⟩ trivial zd8 rfl rfl rfl rfl rfl trivial (TL.callD [] [] zaX ⟨rfl,rfl,trivial⟩ trivial zbe rfl rfl rfl rfl rfl trivial (TL.casesP rfl (fun q1=>?_) (fun q1=>?_))))))))))
 refine xnt rfl (xmf rfl (xmi rfl (xf 0 zaq rfl (xli 0 zaf rfl rfl (TL.callD [] [] zaX ⟨rfl,rfl,trivial⟩ trivial zbe rfl rfl rfl rfl rfl trivial (TL.casesP rfl (fun q2=>?_) (fun q2=>?_)))))))
 refine xnt rfl (xpF rfl (dF rfl (xmi rfl (xf 0 zaq rfl (xli 0 zaf rfl rfl (TL.mul _ rfl rfl (wr64 (by have:=zcG (a:=i) (A:=5) (b:=(l.V:Int)) (B:=16) (by omega) (by omega) (by omega) (by omega); omega)) rfl rfl (TL.add _ rfl rfl (wr64 (by have:=zcG (a:=i) (A:=5) (b:=(l.V:Int)) (B:=16) (by omega) (by omega) (by omega) (by omega); omega)) rfl rfl (xmi rfl ?_))))))))
 refine TL.add _ rfl rfl (wr64 (by have:=zcG (a:=i) (A:=5) (b:=(l.V:Int)) (B:=16) (by omega) (by omega) (by omega) (by omega); omega)) rfl rfl (xai rfl (dR ?_))
 refine FQ.ret1 (v:=(.int _ _)) (Bs:=[]) [] rfl rfl rfl trivial ?_
 first | exact ⟨iE (by unfold Lay.vertex; rw [if_pos (by omega)]),rfl⟩ | exact ⟨iE (by unfold Lay.vertex; rw [if_neg (by omega)]),rfl⟩
 refine xnf rfl (xpH rfl (dT rfl (xai rfl (dRR ?_))))
 refine FQ.ret1 (v:=(.int _ _)) (Bs:=[]) [] rfl rfl rfl trivial ?_
 first | exact ⟨iE (by unfold Lay.vertex; rw [if_pos (by omega)]),rfl⟩ | exact ⟨iE (by unfold Lay.vertex; rw [if_neg (by omega)]),rfl⟩
 refine xnf rfl (xmt rfl (xo rfl (xo rfl (xo rfl (xo rfl (xo rfl (xpT rfl (dT rfl ?_))))))))
 refine xai rfl (dRR ?_)
 refine FQ.ret1 (v:=(.int _ _)) (Bs:=[]) [] rfl rfl rfl trivial ?_
 first | exact ⟨iE (by unfold Lay.vertex; rw [if_pos (by omega)]),rfl⟩ | exact ⟨iE (by unfold Lay.vertex; rw [if_neg (by omega)]),rfl⟩
theorem znp {l:Lay} (hl:l.Ok) {s i d:Int}:FnD Tryz.prog 174 [layV l,.int .i64 s,.int .i64 i,.int .i64 d] [] (.int .i64 (l.arc s i d)) []:=by
 have hb:=za3 hl
 refine Fn.enter (Tryz.func174) rfl rfl (fun w0 R=>?_)
 refine sA (xB 0 rfl (fun bk0=>(xai rfl (dB (xmi rfl (xf 1 za9 rfl (xli 0 zaf rfl rfl (TL.callD [] [] zaX ⟨rfl,rfl,trivial⟩ trivial zbe rfl rfl rfl rfl rfl trivial (TL.casesP rfl (fun q1=>?_) (fun q1=>?_))))))))))
 refine xnt rfl (xmf rfl (xmi rfl (xL3 0 zaa rfl rfl (TL.callD [] [] (zbC hl) ⟨rfl,trivial⟩ trivial zd8 rfl rfl rfl rfl rfl trivial (TL.callD [] [] zaX ⟨rfl,rfl,trivial⟩ trivial zbe rfl rfl rfl rfl rfl trivial (TL.casesP rfl (fun q2=>?_) (fun q2=>?_)))))))
 refine xnt rfl (xpF rfl (xmf rfl (xmi rfl (TL.callD [] [] zaX ⟨rfl,rfl,trivial⟩ trivial zbe rfl rfl rfl rfl rfl trivial (TL.casesP rfl (fun q3=>?_) (fun q3=>?_))))))
 refine xnt rfl (xpF rfl (TL.done (TQ.then (TC.condF rfl (TC.skip (TQ.then (TC.seq (TC.draw [(0,true),(2,true),(3,true),(6,true),(7,true),(11,true),(12,true),(14,true),(1,false),(4,true),(5,true),(8,false),(9,true),(10,true),(13,true),(15,true),(16,true)] [0] fc_m (by kernel_rfl) ?_))))))))
 refine xL3 0 zaa rfl rfl (xf 0 zaq rfl (xli 0 zaf rfl rfl (xmi rfl (xL3 0 zaa rfl rfl (xmi rfl (TL.mul _ rfl rfl (wr64 (by omega)) rfl rfl (xmi rfl (TL.callD [] [] (zbC hl) ⟨rfl,trivial⟩ trivial zd8 rfl rfl rfl rfl rfl (kL1 rfl trivial) ?_))))))))
 refine TL.mul _ rfl rfl (wr64 (by omega)) rfl rfl (TL.add _ rfl rfl (wr64 (by omega)) rfl rfl (TL.callD [] [] (zhW hl) ⟨rfl,trivial⟩ trivial zj3 rfl rfl rfl rfl rfl (kL1 rfl trivial) (TL.mul _ rfl rfl (wr64 (by have:=zcG (a:=s) (A:=48) (b:=l.arcs) (B:=10) (by omega) (by omega) (by omega) (by omega); omega)) rfl rfl (TL.add _ rfl rfl (wr64 (by have:=zcG (a:=s) (A:=48) (b:=l.arcs) (B:=10) (by omega) (by omega) (by omega) (by omega); omega)) rfl rfl (TL.add _ rfl rfl (wr64 (by have:=zcG (a:=s) (A:=48) (b:=l.arcs) (B:=10) (by omega) (by omega) (by omega) (by omega); omega)) rfl rfl ?_)))))
 refine TL.add _ rfl rfl (wr64 (by have:=zcG (a:=s) (A:=48) (b:=l.arcs) (B:=10) (by omega) (by omega) (by omega) (by omega); omega)) rfl rfl (xai rfl (dR ?_))
 refine FQ.ret1 (v:=(.int _ _)) (Bs:=[]) [] rfl rfl rfl trivial ?_
 first | exact ⟨iE (by unfold Lay.arc; rw [if_pos (by omega)]),rfl⟩ | exact ⟨iE (by unfold Lay.arc; rw [if_neg (by omega)]),rfl⟩
 refine xnf rfl (xpH rfl (dT rfl (xai rfl (dRR ?_))))
 refine FQ.ret1 (v:=(.int _ _)) (Bs:=[]) [] rfl rfl rfl trivial ?_
 first | exact ⟨iE (by unfold Lay.arc; rw [if_pos (by omega)]),rfl⟩ | exact ⟨iE (by unfold Lay.arc; rw [if_neg (by omega)]),rfl⟩
 refine xnf rfl (xpH rfl (xmt rfl (xo rfl (xo rfl (xo rfl (xpT rfl (dT rfl (xai rfl ?_))))))))
 refine dRR ?_
 refine FQ.ret1 (v:=(.int _ _)) (Bs:=[]) [] rfl rfl rfl trivial ?_
 first | exact ⟨iE (by unfold Lay.arc; rw [if_pos (by omega)]),rfl⟩ | exact ⟨iE (by unfold Lay.arc; rw [if_neg (by omega)]),rfl⟩
 refine xnf rfl (xmt rfl (xo rfl (xo rfl (xo rfl (xo rfl (xo rfl (xpT rfl (xmt rfl ?_))))))))
 refine xo rfl (xo rfl (xo rfl (xpT rfl (dT rfl (xai rfl (dRR ?_))))))
 refine FQ.ret1 (v:=(.int _ _)) (Bs:=[]) [] rfl rfl rfl trivial ?_
 first | exact ⟨iE (by unfold Lay.arc; rw [if_pos (by omega)]),rfl⟩ | exact ⟨iE (by unfold Lay.arc; rw [if_neg (by omega)]),rfl⟩
theorem zhA {l:Lay} (hl:l.Ok)  : FnD Tryz.prog 122 [layV l] [] (.int .i64 l.free) []:=by
 have hb:=za3 hl
 refine Fn.enter (Tryz.func122) rfl rfl (fun w0 R=>?_)
 refine sA (xB 0 rfl (fun bk0=>(xai rfl (dA (xf 2 zdU rfl (xli 0 zaf rfl rfl (xai rfl (dR ?_))))))))
 refine FQ.ret1 (v:=(.int _ _)) (Bs:=[]) [] rfl rfl rfl trivial ?_
 exact ⟨rfl,rfl⟩
theorem zlH {l:Lay} (hl:l.Ok) {s f:Int} (hf:0≤f∧f≤8):FnD Tryz.prog 149 [layV l,.int .i64 s,.int .i64 f] [] (.int .i64 (l.of s f)) []:=by
 have hb:=za3 hl
 refine Fn.enter (Tryz.func149) rfl rfl (fun w0 R=>?_)
 refine sA (xB 0 rfl (fun bk0=>(xai rfl (dB (xmi rfl (xf 1 za9 rfl (xli 0 zaf rfl rfl (TL.callD [] [] zaX ⟨rfl,rfl,trivial⟩ trivial zbe rfl rfl rfl rfl rfl trivial (TL.casesP rfl (fun q1=>?_) (fun q1=>?_))))))))))
 refine xnt rfl (dF rfl (xL3 0 zaa rfl rfl (TL.callD [] [] (zhA hl) ⟨rfl,trivial⟩ trivial zhM rfl rfl rfl rfl rfl trivial (TL.add _ rfl rfl (wr64 (by omega)) rfl rfl (xmi rfl (TL.mul _ rfl rfl (wr64 (by omega)) rfl rfl (TL.add _ rfl rfl (wr64 (by omega)) rfl rfl (xmi rfl ?_))))))))
 refine TL.add _ rfl rfl (wr64 (by omega)) rfl rfl (xai rfl (dR ?_))
 refine FQ.ret1 (v:=(.int _ _)) (Bs:=[]) [] rfl rfl rfl trivial ?_
 first | exact ⟨iE (by unfold Lay.of Lay.free at *; rw [if_pos (by omega)]),rfl⟩ | exact ⟨iE (by unfold Lay.of Lay.free at *; rw [if_neg (by omega)]),rfl⟩
 refine xnf rfl (dT rfl (xai rfl (dRR ?_)))
 refine FQ.ret1 (v:=(.int _ _)) (Bs:=[]) [] rfl rfl rfl trivial ?_
 first | exact ⟨iE (by unfold Lay.of Lay.free at *; rw [if_pos (by omega)]),rfl⟩ | exact ⟨iE (by unfold Lay.of Lay.free at *; rw [if_neg (by omega)]),rfl⟩
theorem zmX {l:Lay} (hl:l.Ok) {s:Int}:FnD Tryz.prog 135 [layV l,.int .i64 s] [] (.int .i64 (l.ends s)) []:=by
 have hb:=za3 hl
 refine Fn.enter (Tryz.func135) rfl rfl (fun w0 R=>?_)
 refine sA (xB 0 rfl (fun bk0=>(xai rfl (dA (xL3 0 zaa rfl rfl (xmi rfl (TL.callD [] [] (zlH hl (by omega)) ⟨rfl,rfl,rfl,trivial⟩ trivial zgp rfl rfl rfl rfl rfl trivial (xai rfl (dR ?_)))))))))
 refine FQ.ret1 (v:=(.int _ _)) (Bs:=[]) [] rfl rfl rfl trivial ?_
 exact ⟨rfl,rfl⟩
theorem zhu {l:Lay} (hl:l.Ok) {s:Int}:FnD Tryz.prog 136 [layV l,.int .i64 s] [] (.int .i64 (l.level s)) []:=by
 have hb:=za3 hl
 refine Fn.enter (Tryz.func136) rfl rfl (fun w0 R=>?_)
 refine sA (xB 0 rfl (fun bk0=>(xai rfl (dA (xL3 0 zaa rfl rfl (xmi rfl (TL.callD [] [] (zlH hl (by omega)) ⟨rfl,rfl,rfl,trivial⟩ trivial zgp rfl rfl rfl rfl rfl trivial (xai rfl (dR ?_)))))))))
 refine FQ.ret1 (v:=(.int _ _)) (Bs:=[]) [] rfl rfl rfl trivial ?_
 exact ⟨rfl,rfl⟩
theorem zpD {l:Lay} (hl:l.Ok) {s d:Int}:FnD Tryz.prog 182 [layV l,.int .i64 s,.int .i64 d] [] (.int .i64 (l.next s d)) []:=by
 have hb:=za3 hl
 refine Fn.enter (Tryz.func182) rfl rfl (fun w0 R=>?_)
 refine sA (xB 0 rfl (fun bk0=>(xai rfl (dB (xmi rfl (TL.callD [] [] zaX ⟨rfl,rfl,trivial⟩ trivial zbe rfl rfl rfl rfl rfl trivial (TL.casesP rfl (fun q1=>?_) (fun q1=>?_))))))))
 refine xnt rfl (dF rfl (xL3 0 zaa rfl rfl (xmi rfl (xmi rfl (TL.add _ rfl rfl (wr64 (by omega)) rfl rfl (TL.callD [] [] (zlH hl (by omega)) ⟨rfl,rfl,rfl,trivial⟩ trivial zgp rfl rfl rfl rfl rfl trivial (xai rfl (dR ?_))))))))
 refine FQ.ret1 (v:=(.int _ _)) (Bs:=[]) [] rfl rfl rfl trivial ?_
 first | exact ⟨iE (by unfold Lay.next; rw [if_pos (by omega)]),rfl⟩ | exact ⟨iE (by unfold Lay.next; rw [if_neg (by omega)]),rfl⟩
 refine xnf rfl (dT rfl (xai rfl (dRR ?_)))
 refine FQ.ret1 (v:=(.int _ _)) (Bs:=[]) [] rfl rfl rfl trivial ?_
 first | exact ⟨iE (by unfold Lay.next; rw [if_pos (by omega)]),rfl⟩ | exact ⟨iE (by unfold Lay.next; rw [if_neg (by omega)]),rfl⟩
theorem zpr {l:Lay} (hl:l.Ok) {s d:Int}:FnD Tryz.prog 183 [layV l,.int .i64 s,.int .i64 d] [] (.int .i64 (l.prev s d)) []:=by
 have hb:=za3 hl
 refine Fn.enter (Tryz.func183) rfl rfl (fun w0 R=>?_)
 refine sA (xB 0 rfl (fun bk0=>(xai rfl (dB (xmi rfl (TL.callD [] [] zaX ⟨rfl,rfl,trivial⟩ trivial zbe rfl rfl rfl rfl rfl trivial (TL.casesP rfl (fun q1=>?_) (fun q1=>?_))))))))
 refine xnt rfl (dF rfl (xL3 0 zaa rfl rfl (xmi rfl (xmi rfl (TL.add _ rfl rfl (wr64 (by omega)) rfl rfl (TL.callD [] [] (zlH hl (by omega)) ⟨rfl,rfl,rfl,trivial⟩ trivial zgp rfl rfl rfl rfl rfl trivial (xai rfl (dR ?_))))))))
 refine FQ.ret1 (v:=(.int _ _)) (Bs:=[]) [] rfl rfl rfl trivial ?_
 first | exact ⟨iE (by unfold Lay.prev; rw [if_pos (by omega)]),rfl⟩ | exact ⟨iE (by unfold Lay.prev; rw [if_neg (by omega)]),rfl⟩
 refine xnf rfl (dT rfl (xai rfl (dRR ?_)))
 refine FQ.ret1 (v:=(.int _ _)) (Bs:=[]) [] rfl rfl rfl trivial ?_
 first | exact ⟨iE (by unfold Lay.prev; rw [if_pos (by omega)]),rfl⟩ | exact ⟨iE (by unfold Lay.prev; rw [if_neg (by omega)]),rfl⟩
theorem zjX {l:Lay} (hl:l.Ok)  : FnD Tryz.prog 148 [layV l] [] (.int .i64 l.heads) []:=by
 have hb:=za3 hl
 refine Fn.enter (Tryz.func148) rfl rfl (fun w0 R=>?_)
 refine sA (xB 0 rfl (fun bk0=>(xai rfl (dS (TC.draw [(0,true),(3,true),(4,true),(5,true),(1,false),(2,true),(6,true),(7,true)] [0] fc_m (by kernel_rfl) (xL3 0 zaa rfl rfl (xf 1 za9 rfl (xli 0 zaf rfl rfl (TL.mul _ rfl rfl (wr64 (by omega)) rfl rfl ?_)))))))))
 refine TL.callD [] [] (zhA hl) ⟨rfl,trivial⟩ trivial zhM rfl rfl rfl rfl rfl (kL1 rfl trivial) (TL.add _ rfl rfl (wr64 (by omega)) rfl rfl (TL.add _ rfl rfl (wr64 (by omega)) rfl rfl (xai rfl (dR ?_))))
 refine FQ.ret1 (v:=(.int _ _)) (Bs:=[]) [] rfl rfl rfl trivial ?_
 exact ⟨rfl,rfl⟩
theorem zhx {l:Lay} (hl:l.Ok) {v i:Int}:FnD Tryz.prog 164 [layV l,.int .i64 v,.int .i64 i] [] (.int .i64 (l.head v i)) []:=by
 have hb:=za3 hl
 refine Fn.enter (Tryz.func164) rfl rfl (fun w0 R=>?_)
 refine sA (xB 0 rfl (fun bk0=>(xai rfl (dB (xmi rfl (xf 0 zaq rfl (xli 0 zaf rfl rfl (TL.callD [] [] zaX ⟨rfl,rfl,trivial⟩ trivial zbe rfl rfl rfl rfl rfl trivial (TL.casesP rfl (fun q1=>?_) (fun q1=>?_))))))))))
 refine xnt rfl (xmf rfl (xmi rfl (xL3 0 zaa rfl rfl (TL.callD [] [] (zbC hl) ⟨rfl,trivial⟩ trivial zd8 rfl rfl rfl rfl rfl trivial (TL.callD [] [] zaX ⟨rfl,rfl,trivial⟩ trivial zbe rfl rfl rfl rfl rfl trivial (TL.casesP rfl (fun q2=>?_) (fun q2=>?_)))))))
 refine xnt rfl (xpF rfl (TL.done (TQ.then (TC.condF rfl (TC.skip (TQ.then (TC.seq (TC.draw [(0,true),(2,true),(3,true),(7,true),(1,false),(4,false),(5,true),(6,true),(8,true),(9,true)] [0] fc_m (by kernel_rfl) ?_))))))))
 refine xL3 0 zaa rfl rfl (xmi rfl (xL3 0 zaa rfl rfl (xmi rfl (TL.callD [] [] (zjX hl) ⟨rfl,trivial⟩ trivial zmD rfl rfl rfl rfl rfl (kL1 rfl trivial) (TL.callD [] [] (zbC hl) ⟨rfl,trivial⟩ trivial zd8 rfl rfl rfl rfl rfl (kL1 rfl trivial) (TL.mul _ rfl rfl (wr64 (by have:=zcG (a:=v) (A:=16) (b:=l.lev) (B:=5) (by omega) (by omega) (by omega) (by omega); omega)) rfl rfl (TL.add _ rfl rfl (wr64 (by have:=zcG (a:=v) (A:=16) (b:=l.lev) (B:=5) (by omega) (by omega) (by omega) (by omega); omega)) rfl rfl (TL.add _ rfl rfl (wr64 (by have:=zcG (a:=v) (A:=16) (b:=l.lev) (B:=5) (by omega) (by omega) (by omega) (by omega); omega)) rfl rfl ?_))))))))
 refine xai rfl (dR ?_)
 refine FQ.ret1 (v:=(.int _ _)) (Bs:=[]) [] rfl rfl rfl trivial ?_
 first | exact ⟨iE (by unfold Lay.head; rw [if_pos (by omega)]),rfl⟩ | exact ⟨iE (by unfold Lay.head; rw [if_neg (by omega)]),rfl⟩
 refine xnf rfl (xpH rfl (dT rfl (xai rfl (dRR ?_))))
 refine FQ.ret1 (v:=(.int _ _)) (Bs:=[]) [] rfl rfl rfl trivial ?_
 first | exact ⟨iE (by unfold Lay.head; rw [if_pos (by omega)]),rfl⟩ | exact ⟨iE (by unfold Lay.head; rw [if_neg (by omega)]),rfl⟩
 refine xnf rfl (xmt rfl (xo rfl (xo rfl (xo rfl (xo rfl (xo rfl (xpT rfl (dT rfl ?_))))))))
 refine xai rfl (dRR ?_)
 refine FQ.ret1 (v:=(.int _ _)) (Bs:=[]) [] rfl rfl rfl trivial ?_
 first | exact ⟨iE (by unfold Lay.head; rw [if_pos (by omega)]),rfl⟩ | exact ⟨iE (by unfold Lay.head; rw [if_neg (by omega)]),rfl⟩
theorem zj9 {l:Lay} (hl:l.Ok)  : FnD Tryz.prog 120 [layV l] [] (.int .i64 l.edges) []:=by
 have hb:=za3 hl
 refine Fn.enter (Tryz.func120) rfl rfl (fun w0 R=>?_)
 refine sA (xB 0 rfl (fun bk0=>(xai rfl (dS (TC.draw [(0,true),(2,true),(3,true),(4,true),(1,false),(5,false),(6,true),(7,true),(8,true)] [0] fc_m (by kernel_rfl) (xL3 0 zaa rfl rfl (xf 0 zaq rfl (xli 0 zaf rfl rfl (xL3 0 zaa rfl rfl ?_)))))))))
 refine TL.callD [] [] (zjX hl) ⟨rfl,trivial⟩ trivial zmD rfl rfl rfl rfl rfl (kL1 rfl trivial) (TL.callD [] [] (zbC hl) ⟨rfl,trivial⟩ trivial zd8 rfl rfl rfl rfl rfl (kL1 rfl trivial) (TL.mul _ rfl rfl (wr64 (by omega)) rfl rfl (TL.add _ rfl rfl (wr64 (by omega)) rfl rfl (xai rfl (dR ?_)))))
 refine FQ.ret1 (v:=(.int _ _)) (Bs:=[]) [] rfl rfl rfl trivial ?_
 exact ⟨rfl,rfl⟩
theorem zhR {l:Lay} (hl:l.Ok) {a b:Int}:FnD Tryz.prog 109 [layV l,.int .i64 a,.int .i64 b] [] (.int .i64 (l.edge a b)) []:=by
 have hb:=za3 hl
 refine Fn.enter (Tryz.func109) rfl rfl (fun w0 R=>?_)
 refine sA (xB 0 rfl (fun bk0=>(xai rfl (dA (xmi rfl (xmi rfl (TL.min2 rfl rfl rfl rfl (xmi rfl (xmi rfl ?_)))))))))
 refine TL.max2 rfl rfl rfl rfl (xai rfl (xai rfl (dB (xmi rfl (xmi rfl (TL.eql rfl rfl rfl rfl (fun q1=>?_) (fun q1=>?_)))))))
 refine xmt rfl (xo rfl (xo rfl (xo rfl (xo rfl (xo rfl (xpT rfl (xmt rfl (xo rfl ?_))))))))
 refine xo rfl (xo rfl (xo rfl (xo rfl (xpT rfl (dT rfl (xai rfl (dRR ?_)))))))
 refine FQ.ret1 (v:=(.int _ _)) (Bs:=[]) [] rfl rfl rfl trivial ?_
 first | exact ⟨iE (by unfold Lay.edge; rw [if_neg (by omega)]),rfl⟩ | exact ⟨iE (by unfold Lay.edge; rw [if_pos (by omega)]),rfl⟩
 refine xmf rfl (xmi rfl (xf 0 zaq rfl (xli 0 zaf rfl rfl (TL.callD [] [] zaX ⟨rfl,rfl,trivial⟩ trivial zbe rfl rfl rfl rfl rfl trivial (TL.casesP rfl (fun q2=>?_) (fun q2=>?_))))))
 refine xnt rfl (xpF rfl (xmf rfl (xmi rfl (xf 0 zaq rfl (xli 0 zaf rfl rfl (TL.callD [] [] zaX ⟨rfl,rfl,trivial⟩ trivial zbe rfl rfl rfl rfl rfl trivial (TL.casesP rfl (fun q3=>?_) (fun q3=>?_))))))))
 refine xnt rfl (xpF rfl (TL.done (TQ.then (TC.condF rfl (TC.skip (TQ.then (TC.seq (TC.draw [(0,true),(2,true),(3,true),(4,true),(5,true),(6,true),(7,true),(8,true),(9,true),(10,true),(12,true),(14,true),(1,false),(11,true),(13,true),(15,true),(16,true),(17,true)] [0] fc_m (by kernel_rfl) ?_))))))))
 refine xL3 0 zaa rfl rfl (xmi rfl (xf 0 zaq rfl (xli 0 zaf rfl rfl (TL.mul _ rfl rfl (wr64 (by omega)) rfl rfl (xmi rfl (TL.sub _ rfl rfl (wr64 (by omega)) rfl rfl (TL.sub _ rfl rfl (wr64 (by omega)) rfl rfl (TL.mul _ rfl rfl (wr64 (by have h9:=zen (x:=min a b) (V:=(l.V:Int)) (by omega) (by omega) (by omega); omega)) rfl rfl ?_))))))))
 refine TL.quo _ rfl rfl (by omega) (zlr (by have h9:=zen (x:=min a b) (V:=(l.V:Int)) (by omega) (by omega) (by omega); omega) (by omega) (by have h9:=zen (x:=min a b) (V:=(l.V:Int)) (by omega) (by omega) (by omega); omega)) rfl rfl (xmi rfl (xmi rfl (TL.callD [] [] (zj9 hl) ⟨rfl,trivial⟩ trivial zmO rfl rfl rfl rfl rfl (kL1 rfl trivial) (TL.add _ rfl rfl (wr64 (by have h9:=zen (x:=min a b) (V:=(l.V:Int)) (by omega) (by omega) (by omega); omega)) rfl rfl (TL.add _ rfl rfl (wr64 (by have h9:=zen (x:=min a b) (V:=(l.V:Int)) (by omega) (by omega) (by omega); omega)) rfl rfl ?_)))))
 refine TL.sub _ rfl rfl (wr64 (by have h9:=zen (x:=min a b) (V:=(l.V:Int)) (by omega) (by omega) (by omega); omega)) rfl rfl (TL.sub _ rfl rfl (wr64 (by have h9:=zen (x:=min a b) (V:=(l.V:Int)) (by omega) (by omega) (by omega); omega)) rfl rfl (xai rfl (dR ?_)))
 refine FQ.ret1 (v:=(.int _ _)) (Bs:=[]) [] rfl rfl rfl trivial ?_
 first | exact ⟨iE (by unfold Lay.edge; rw [if_neg (by omega)]),rfl⟩ | exact ⟨iE (by unfold Lay.edge; rw [if_pos (by omega)]),rfl⟩
 refine xnf rfl (xpH rfl (dT rfl (xai rfl (dRR ?_))))
 refine FQ.ret1 (v:=(.int _ _)) (Bs:=[]) [] rfl rfl rfl trivial ?_
 first | exact ⟨iE (by unfold Lay.edge; rw [if_neg (by omega)]),rfl⟩ | exact ⟨iE (by unfold Lay.edge; rw [if_pos (by omega)]),rfl⟩
 refine xnf rfl (xpH rfl (xmt rfl (xo rfl (xo rfl (xo rfl (xo rfl (xo rfl (xpT rfl ?_))))))))
 refine dT rfl (xai rfl (dRR ?_))
 refine FQ.ret1 (v:=(.int _ _)) (Bs:=[]) [] rfl rfl rfl trivial ?_
 first | exact ⟨iE (by unfold Lay.edge; rw [if_neg (by omega)]),rfl⟩ | exact ⟨iE (by unfold Lay.edge; rw [if_pos (by omega)]),rfl⟩
theorem znn {l:Lay} (hl:l.Ok)  : FnD Tryz.prog 88 [layV l] [] (.int .i64 l.base) []:=by
 have hb:=za3 hl
 refine Fn.enter (Tryz.func88) rfl rfl (fun w0 R=>?_)
 refine sA (xB 0 rfl (fun bk0=>(xai rfl (dS (TC.draw [(0,true),(2,true),(3,true),(4,true),(5,true),(6,true),(7,true),(8,true),(1,false),(9,true),(10,true)] [0] fc_m (by kernel_rfl) (xL3 0 zaa rfl rfl (xf 0 zaq rfl (xli 0 zaf rfl rfl (xf 0 zaq rfl ?_)))))))))
 refine xli 0 zaf rfl rfl (TL.sub _ rfl rfl (wr64 (by omega)) rfl rfl (TL.mul _ rfl rfl (wr64 (by omega)) rfl rfl (TL.quo _ rfl rfl (by omega) (zlr (by omega) (by omega) (by omega)) rfl rfl (TL.callD [] [] (zj9 hl) ⟨rfl,trivial⟩ trivial zmO rfl rfl rfl rfl rfl (kL1 rfl trivial) (TL.add _ rfl rfl (wr64 (by omega)) rfl rfl (xai rfl (dR ?_)))))))
 refine FQ.ret1 (v:=(.int _ _)) (Bs:=[]) [] rfl rfl rfl trivial ?_
 exact ⟨rfl,rfl⟩
theorem zaS {l:Lay} (hl:l.Ok) {x f:Int}:FnD Tryz.prog 54 [layV l,.int .i64 x,.int .i64 f] [] (.int .i64 (l.field x f)) []:=by
 have hb:=za3 hl
 refine Fn.enter (Tryz.func54) rfl rfl (fun w0 R=>?_)
 refine sA (xB 0 rfl (fun bk0=>(xai rfl (dB (xmi rfl (TL.sub _ rfl rfl (rfl) rfl rfl (xL3 0 zaa rfl rfl (TL.callD [] [] (zcP hl) ⟨rfl,trivial⟩ trivial zfx rfl rfl rfl rfl rfl trivial (TL.callD [] [] zaX ⟨rfl,rfl,trivial⟩ trivial zbe rfl rfl rfl rfl rfl trivial ?_)))))))))
 refine TL.casesP rfl (fun q1=>?_) (fun q1=>?_)
 refine xnt rfl (xmf rfl (xmi rfl (TL.callD [] [] zaX ⟨rfl,rfl,trivial⟩ trivial zbe rfl rfl rfl rfl rfl trivial (TL.casesP rfl (fun q2=>?_) (fun q2=>?_)))))
 refine xnt rfl (xpF rfl (dF rfl (xL3 0 zaa rfl rfl (TL.callD [] [] (znn hl) ⟨rfl,trivial⟩ trivial zoP rfl rfl rfl rfl rfl trivial (xmi rfl (TL.sub _ rfl rfl (rfl) rfl rfl (TL.mul _ rfl rfl (wr64 (by omega)) rfl rfl (TL.add _ rfl rfl (wr64 (by omega)) rfl rfl ?_))))))))
 refine xmi rfl (TL.add _ rfl rfl (wr64 (by omega)) rfl rfl (xai rfl (dR ?_)))
 refine FQ.ret1 (v:=(.int _ _)) (Bs:=[]) [] rfl rfl rfl trivial ?_
 first | exact ⟨iE (by unfold Lay.field; rw [if_pos (by omega)]),rfl⟩ | exact ⟨iE (by unfold Lay.field; rw [if_neg (by omega)]),rfl⟩
 refine xnf rfl (xpH rfl (dT rfl (xai rfl (dRR ?_))))
 refine FQ.ret1 (v:=(.int _ _)) (Bs:=[]) [] rfl rfl rfl trivial ?_
 first | exact ⟨iE (by unfold Lay.field; rw [if_pos (by omega)]),rfl⟩ | exact ⟨iE (by unfold Lay.field; rw [if_neg (by omega)]),rfl⟩
 refine xnf rfl (xmt rfl (xo rfl (xo rfl (xo rfl (xpT rfl (dT rfl (xai rfl (dRR ?_))))))))
 refine FQ.ret1 (v:=(.int _ _)) (Bs:=[]) [] rfl rfl rfl trivial ?_
 first | exact ⟨iE (by unfold Lay.field; rw [if_pos (by omega)]),rfl⟩ | exact ⟨iE (by unfold Lay.field; rw [if_neg (by omega)]),rfl⟩
theorem zoi {l:Lay} (hl:l.Ok)  : FnD Tryz.prog 30 [layV l] [] (.int .i64 l.cells) []:=by
 have hb:=za3 hl
 refine Fn.enter (Tryz.func30) rfl rfl (fun w0 R=>?_)
 refine sA (xB 0 rfl (fun bk0=>(xai rfl (dS (TC.draw [(0,true),(2,true),(1,false),(3,false),(4,true),(5,true),(6,true)] [0] fc_m (by kernel_rfl) (xL3 0 zaa rfl rfl (xL3 0 zaa rfl rfl (TL.callD [] [] (znn hl) ⟨rfl,trivial⟩ trivial zoP rfl rfl rfl rfl rfl (kL1 rfl trivial) (TL.callD [] [] (zcP hl) ⟨rfl,trivial⟩ trivial zfx rfl rfl rfl rfl rfl (kL1 rfl trivial) ?_)))))))))
 refine TL.mul _ rfl rfl (wr64 (by omega)) rfl rfl (TL.add _ rfl rfl (wr64 (by omega)) rfl rfl (xai rfl (dR ?_)))
 refine FQ.ret1 (v:=(.int _ _)) (Bs:=[]) [] rfl rfl rfl trivial ?_
 exact ⟨rfl,rfl⟩
theorem ze1 {l:Lay} (hl:l.Ok) {x:Int}:FnD Tryz.prog 47 [layV l,.int .i64 x] [] (.tuple #[zqE (l.node x).1,.bool (l.node x).2]) []:=by
 have hb:=za3 hl
 refine Fn.enter (Tryz.func47) rfl rfl (fun w0 R=>?_)
 refine sA (xB 0 rfl (fun bk0=>(TL.alloc 1 (cs:=#[.bool false,.int .i64 0,.int .i64 0,.int .i64 0,.int .i64 0]) zd6 rfl rfl rfl (fun _=>trivial) (fun bk1=>(xaf rfl (dB (xmi rfl (TL.sub _ rfl rfl (rfl) rfl rfl (xL3 0 zaa rfl rfl (TL.callD [] [] (zcP hl) ⟨rfl,trivial⟩ trivial zfx rfl rfl rfl rfl rfl trivial ?_))))))))))
 refine TL.callD [] [] zaX ⟨rfl,rfl,trivial⟩ trivial zbe rfl rfl rfl rfl rfl trivial (TL.casesP rfl (fun q1=>?_) (fun q1=>?_))
 refine xnt rfl (dF rfl (xmi rfl (TL.sub _ rfl rfl (rfl) rfl rfl (xai rfl (dS (TC.draw [(0,true),(2,true),(3,true),(1,false),(4,true),(5,true)] [0] fc_m (by kernel_rfl) (xL3 0 zaa rfl rfl (xf 0 zaq rfl ?_))))))))
 refine xli 0 zaf rfl rfl (TL.callD [] [] (zbC hl) ⟨rfl,trivial⟩ trivial zd8 rfl rfl rfl rfl rfl (kL1 rfl trivial) (TL.mul _ rfl rfl (wr64 (by omega)) rfl rfl (xai rfl (dB (xmi rfl (xmi rfl (TL.lss rfl rfl rfl rfl (fun q2=>?_) (fun q2=>?_))))))))
 refine TL.done (TQ.then (TC.condT rfl (TC.seq (TC.draw [(0,true),(1,true),(2,true),(3,true),(4,true),(5,true),(6,true),(7,true),(8,true),(9,false),(10,true)] [0] fc_m (by kernel_rfl) (xmi rfl (xf 0 zaq rfl (xli 0 zaf rfl rfl (TL.quo _ rfl rfl (by omega) (zlr (by omega) (by omega) (by omega)) rfl rfl ?_))))))))
 refine xmi rfl (xf 0 zaq rfl (xli 0 zaf rfl rfl (TL.rem _ rfl rfl (by omega) (zpo (by omega)) rfl rfl (TL.bld [.bool false,.int .i64 0,.int .i64 0,.int .i64 0,.int .i64 0] [(.int _ _),(.int _ _)] [_,_,_,_,_] zd6 zmi ⟨rfl,rfl,trivial⟩ ⟨rfl,rfl⟩ rfl rfl (TL.stW 1 5 [_,_,_,_,_] rfl rfl rfl rfl rfl rfl zbG rfl rfl (kL1 rfl trivial) (xat rfl (dRR ?_)))))))
 refine FQ.retG (rs:=[.cell 4 94,.tmp 5]) [(.agg _),(.bool true)] (Bs:=[]) [] rfl ⟨⟨_,_,_,_,_,1,rfl,rfl,.inr ⟨5,[_,_,_,_,_],zbG,rfl,rfl⟩⟩,rfl,trivial⟩ rfl rfl trivial ?_
 first | exact ⟨by unfold Lay.node; simp only []; rw [if_neg (by omega)]; rfl,rfl⟩ | exact ⟨by unfold Lay.node; simp only []; rw [if_pos (by omega),if_pos (by omega)]; rfl,rfl⟩ | exact ⟨by unfold Lay.node; simp only []; rw [if_pos (by omega),if_neg (by omega)]; rfl,rfl⟩
 refine dF rfl (xmi rfl (xmi rfl (TL.sub _ rfl rfl (wr64 (by omega)) rfl rfl (xai rfl (dS (TC.draw [(0,true),(1,true),(4,true),(5,true),(9,true),(10,true),(2,false),(3,true),(6,false),(7,true),(8,true),(11,true),(12,false),(13,true)] [0] fc_m (by kernel_rfl) (xmi rfl (xL3 0 zaa rfl rfl ?_))))))))
 refine xmi rfl (xL3 0 zaa rfl rfl (xmi rfl (TL.rem _ rfl rfl (by omega) (zpo (by omega)) rfl rfl (TL.callD [] [] (zhW hl) ⟨rfl,trivial⟩ trivial zj3 rfl rfl rfl rfl rfl (kL1 rfl trivial) (TL.quo _ rfl rfl (by omega) (zlr (by omega) (by omega) (by omega)) rfl rfl (TL.callD [] [] (zhW hl) ⟨rfl,trivial⟩ trivial zj3 rfl rfl rfl rfl rfl (kL1 rfl trivial) (TL.rem _ rfl rfl (by omega) (zpo (by omega)) rfl rfl (TL.quo _ rfl rfl (by omega) (zlr (Int.emod_nonneg _ (by omega)) (by omega) (by have:=Int.emod_lt_of_pos (IntKind.i64.wrap (x - 1) - l.lev * l.V) (b:=l.arcs) (by omega); omega)) rfl rfl ?_))))))))
 refine TL.bld [.bool false,.int .i64 0,.int .i64 0,.int .i64 0,.int .i64 0] [(.bool true),(.int _ _),(.int _ _),(.int _ _)] [_,_,_,_,_] zd6 zmi ⟨rfl,rfl,rfl,rfl,trivial⟩ ⟨rfl,rfl⟩ rfl rfl (TL.stW 1 5 [_,_,_,_,_] rfl rfl rfl rfl rfl rfl zbG rfl rfl (kL1 rfl trivial) (xat rfl (dR ?_)))
 refine FQ.retG (rs:=[.cell 4 94,.tmp 5]) [(.agg _),(.bool true)] (Bs:=[]) [] rfl ⟨⟨_,_,_,_,_,1,rfl,rfl,.inr ⟨5,[_,_,_,_,_],zbG,rfl,rfl⟩⟩,rfl,trivial⟩ rfl rfl trivial ?_
 first | exact ⟨by unfold Lay.node; simp only []; rw [if_neg (by omega)]; rfl,rfl⟩ | exact ⟨by unfold Lay.node; simp only []; rw [if_pos (by omega),if_pos (by omega)]; rfl,rfl⟩ | exact ⟨by unfold Lay.node; simp only []; rw [if_pos (by omega),if_neg (by omega)]; rfl,rfl⟩
 refine xnf rfl (dT rfl (TL.bld [.bool false,.int .i64 0,.int .i64 0,.int .i64 0,.int .i64 0] [] [_,_,_,_,_] zd6 zmi trivial ⟨rfl,rfl⟩ rfl rfl (TL.stW 1 5 [_,_,_,_,_] rfl rfl rfl rfl rfl rfl zbG rfl rfl trivial (xaf rfl (dRR ?_)))))
 refine FQ.retG (rs:=[.cell 4 94,.tmp 5]) [(.agg _),(.bool false)] (Bs:=[]) [] rfl ⟨⟨_,_,_,_,_,1,rfl,rfl,.inr ⟨5,[_,_,_,_,_],zbG,rfl,rfl⟩⟩,rfl,trivial⟩ rfl rfl trivial ?_
 first | exact ⟨by unfold Lay.node; simp only []; rw [if_neg (by omega)]; rfl,rfl⟩ | exact ⟨by unfold Lay.node; simp only []; rw [if_pos (by omega),if_pos (by omega)]; rfl,rfl⟩ | exact ⟨by unfold Lay.node; simp only []; rw [if_pos (by omega),if_neg (by omega)]; rfl,rfl⟩
theorem zcZ {n m:Int}:FnD Tryz.prog 163 [.int .i64 n,.int .i64 m] [] (.bool (decide (0≤n∧n≤m))) []:=by
 refine Fn.enter (Tryz.func163) rfl rfl (fun w0 R=>?_)
 refine sA (xaf rfl (dA (xmi rfl (TL.geq rfl rfl rfl rfl (fun q1=>?_) (fun q1=>?_)))))
 refine xmt rfl (xmi rfl (xmi rfl (TL.leqV rfl rfl rfl rfl (TL.pickT (.bool _) rfl rfl rfl rfl (xab rfl (dR ?_))))))
 refine FQ.ret1 (v:=(.bool _)) (Bs:=[]) [] rfl rfl rfl trivial ?_
 first | exact ⟨bT (by omega),rfl⟩ | exact ⟨bF (by omega),rfl⟩ | exact ⟨congrArg Value.bool (decide_eq_decide.2 (by omega)),rfl⟩
 refine xmf rfl (xo rfl (xo rfl (xo rfl (xpF rfl (xaf rfl (dR ?_))))))
 refine FQ.ret1 (v:=(.bool false)) (Bs:=[]) [] rfl rfl rfl trivial ?_
 first | exact ⟨bT (by omega),rfl⟩ | exact ⟨bF (by omega),rfl⟩ | exact ⟨congrArg Value.bool (decide_eq_decide.2 (by omega)),rfl⟩
theorem zew {o m t g:Int}:FnD Tryz.prog 132 [.agg #[.int .i64 o,.int .i64 m,.int .i64 t,.int .i64 g]] [] (.bool (decide (t=0))) []:=by
 refine Fn.enter (Tryz.func132) rfl rfl (fun w0 R=>?_)
 refine sA (xB 0 rfl (fun bk0=>(xaf rfl (dA (xf 2 zb7 rfl (xli 0 zaf rfl rfl (TL.eqlV rfl rfl rfl rfl (xab rfl (dR ?_)))))))))
 refine FQ.ret1 (v:=(.bool _)) (Bs:=[]) [] rfl rfl rfl trivial ?_
 exact ⟨rfl,rfl⟩
theorem zhZ {o m t g:Int}:FnD Tryz.prog 162 [.agg #[.int .i64 o,.int .i64 m,.int .i64 t,.int .i64 g]] [] (.bool (⟨o,m,t,g⟩:Wd).right) []:=by
 refine Fn.enter (Tryz.func162) rfl rfl (fun w0 R=>?_)
 refine sA (xB 0 rfl (fun bk0=>(xaf rfl (dB (xf 0 za7 rfl (xli 0 zaf rfl rfl (TL.callD [] [] zcZ ⟨rfl,rfl,trivial⟩ trivial zfj rfl rfl rfl rfl rfl trivial (TL.casesP rfl (fun q1=>?_) (fun q1=>?_)))))))))
 refine xnt rfl (xmf rfl (xf 1 zaJ rfl (xli 0 zaf rfl rfl (TL.callD [] [] zcZ ⟨rfl,rfl,trivial⟩ trivial zfj rfl rfl rfl rfl rfl trivial (TL.casesP rfl (fun q2=>?_) (fun q2=>?_))))))
 refine xnt rfl (xpF rfl (xmf rfl (xf 2 zb7 rfl (xli 0 zaf rfl rfl (TL.callD [] [] zcZ ⟨rfl,rfl,trivial⟩ trivial zfj rfl rfl rfl rfl rfl trivial (TL.casesP rfl (fun q3=>?_) (fun q3=>?_)))))))
 refine xnt rfl (xpF rfl (xmf rfl (xf 3 zb6 rfl (xli 0 zaf rfl rfl (TL.callD [] [] zcZ ⟨rfl,rfl,trivial⟩ trivial zfj rfl rfl rfl rfl rfl trivial (TL.casesP rfl (fun q4=>?_) (fun q4=>?_)))))))
 refine xnt rfl (xpF rfl (dF rfl (xL4 0 zak rfl rfl (TL.callD [] [] zew ⟨rfl,trivial⟩ trivial zhL rfl rfl rfl rfl rfl trivial (TL.casesP rfl (fun q5=>?_) (fun q5=>?_))))))
 refine xnt rfl (xmf rfl (xf 0 za7 rfl (xli 0 zaf rfl rfl (xf 1 zaJ rfl (xli 0 zaf rfl rfl (TL.eql rfl rfl rfl rfl (fun q6=>?_) (fun q6=>?_)))))))
 refine xmt rfl (xf 3 zb6 rfl (xli 0 zaf rfl rfl (TL.eqlV rfl rfl rfl rfl (TL.pickT (.bool _) rfl rfl rfl rfl (TL.pickF (.bool _) rfl rfl rfl rfl (xab rfl (dR ?_)))))))
 refine FQ.ret1 (v:=(.bool _)) (Bs:=[]) [] rfl rfl rfl trivial ?_
 exact ⟨congrArg Value.bool (by simp [Wd.right, *]),rfl⟩
 refine xmf rfl (xo rfl (xo rfl (xo rfl (xpF rfl (xpF rfl (xaf rfl (dR ?_)))))))
 refine FQ.ret1 (v:=(.bool false)) (Bs:=[]) [] rfl rfl rfl trivial ?_
 exact ⟨congrArg Value.bool (by simp [Wd.right, *]),rfl⟩
 refine xnf rfl (xmt rfl (xo rfl (xo rfl (xo rfl (xo rfl (xo rfl (xo rfl (xo rfl ?_))))))))
 refine xo rfl (xo rfl (xo rfl (xpT rfl (xat rfl (dR ?_)))))
 refine FQ.ret1 (v:=(.bool true)) (Bs:=[]) [] rfl rfl rfl trivial ?_
 exact ⟨congrArg Value.bool (by simp [Wd.right, *]),rfl⟩
 refine xnf rfl (xpH rfl (dT rfl (xaf rfl (dRR ?_))))
 refine FQ.ret1 (v:=(.bool false)) (Bs:=[]) [] rfl rfl rfl trivial ?_
 exact ⟨congrArg Value.bool (by simp [Wd.right, *]),rfl⟩
 refine xnf rfl (xpH rfl (xmt rfl (xo rfl (xo rfl (xo rfl (xo rfl (xpT rfl (dT rfl ?_))))))))
 refine xaf rfl (dRR ?_)
 refine FQ.ret1 (v:=(.bool false)) (Bs:=[]) [] rfl rfl rfl trivial ?_
 exact ⟨congrArg Value.bool (by simp [Wd.right, *]),rfl⟩
 refine xnf rfl (xpH rfl (xmt rfl (xo rfl (xo rfl (xo rfl (xo rfl (xpT rfl (xmt rfl ?_))))))))
 refine xo rfl (xo rfl (xo rfl (xo rfl (xpT rfl (dT rfl (xaf rfl (dRR ?_)))))))
 refine FQ.ret1 (v:=(.bool false)) (Bs:=[]) [] rfl rfl rfl trivial ?_
 exact ⟨congrArg Value.bool (by simp [Wd.right, *]),rfl⟩
 refine xnf rfl (xmt rfl (xo rfl (xo rfl (xo rfl (xo rfl (xpT rfl (xmt rfl (xo rfl ?_))))))))
 refine xo rfl (xo rfl (xo rfl (xpT rfl (xmt rfl (xo rfl (xo rfl (xo rfl (xo rfl ?_))))))))
 refine xpT rfl (dT rfl (xaf rfl (dRR ?_)))
 refine FQ.ret1 (v:=(.bool false)) (Bs:=[]) [] rfl rfl rfl trivial ?_
 exact ⟨congrArg Value.bool (by simp [Wd.right, *]),rfl⟩
theorem zhj {o m t g:Int}:FnD Tryz.prog 143 [.agg #[.int .i64 o,.int .i64 m,.int .i64 t,.int .i64 g]] [] (.tuple #[.int .u64 (if (⟨o,m,t,g⟩:Wd).right then (⟨o,m,t,g⟩:Wd).pack else 0),.int .i64 (if (⟨o,m,t,g⟩:Wd).right then 0 else 11)]) []:=by
 refine Fn.enter (Tryz.func143) rfl rfl (fun w0 R=>?_)
 refine sA (xB 0 rfl (fun bk0=>(xai rfl (xai rfl (dB (xL4 0 zak rfl rfl (TL.callD [] [] zhZ ⟨rfl,trivial⟩ trivial zmz rfl rfl rfl rfl rfl trivial (TL.cases rfl (fun q1=>?_) (fun q1=>?_)))))))))
 refine xnt rfl (dF rfl (xf 1 zaJ rfl (xli 0 zaf rfl rfl (TL.conv _ rfl zeN za0 (rfl) rfl rfl (xf 0 za7 rfl (xli 0 zaf rfl rfl (TL.conv _ rfl zeN za0 (rfl) rfl rfl (TL.shl _ rfl rfl (by decide) rfl rfl rfl ?_))))))))
 refine TL.or _ rfl rfl rfl rfl rfl (xf 2 zb7 rfl (xli 0 zaf rfl rfl (TL.conv _ rfl zeN za0 (rfl) rfl rfl (TL.shl _ rfl rfl (by decide) rfl rfl rfl (TL.or _ rfl rfl rfl rfl rfl (xf 3 zb6 rfl (xli 0 zaf rfl rfl (TL.conv _ rfl zeN za0 (rfl) rfl rfl ?_))))))))
 refine TL.shl _ rfl rfl (by decide) rfl rfl rfl (TL.or _ rfl rfl rfl rfl rfl (xai rfl (xai rfl (dR ?_))))
 refine FQ.ret2 (v:=(.int _ _)) (x:=(.int _ _)) (Bs:=[]) [] rfl rfl rfl rfl trivial ?_
 exact ⟨by simp only [*,if_true,Bool.false_eq_true,if_false]<;>rfl,rfl⟩
 refine xnf rfl (dT rfl (xai rfl (xai rfl (dRR ?_))))
 refine FQ.ret2 (v:=(.int _ _)) (x:=(.int _ _)) (Bs:=[]) [] rfl rfl rfl rfl trivial ?_
 exact ⟨by simp only [*,if_true,Bool.false_eq_true,if_false]<;>rfl,rfl⟩
theorem zjy {v a n:Int} (ha:0≤a) (hn:0≤n):FnD Tryz.prog 161 [.int .u64 v,.int .i64 a,.int .i64 n] [] (.int .i64 (zgJ v a n)) []:=by
 refine Fn.enter (Tryz.func161) rfl rfl (fun w0 R=>?_)
 refine sA (xai rfl (dS (TC.draw [(0,true),(1,true),(2,true),(3,true),(4,true),(5,true),(6,true),(7,true),(8,true)] [] fc_m (by kernel_rfl) (xmi rfl (xmi rfl (TL.shr _ rfl rfl (by omega) rfl rfl rfl (xmi rfl (TL.shl _ rfl rfl (by omega) rfl rfl rfl ?_))))))))
 refine TL.sub _ rfl rfl (rfl) rfl rfl (TL.and _ rfl rfl rfl rfl rfl (TL.conv _ rfl zdF zbr (rfl) rfl rfl (xai rfl (dR ?_))))
 refine FQ.ret1 (v:=(.int _ _)) (Bs:=[]) [] rfl rfl rfl trivial ?_
 exact ⟨iE (by unfold zgJ andU shrU shlU; rw [Int.one_mul]),rfl⟩
theorem zbB {v:Int}:FnD Tryz.prog 131 [.int .u64 v] [] (.tuple #[wdV (zae v).1,.int .i64 (if (zae v).2 then 0 else 21)]) []:=by
 refine Fn.enter (Tryz.func131) rfl rfl (fun w0 R=>?_)
 refine sA (TL.alloc 0 (cs:=#[.int .i64 0,.int .i64 0,.int .i64 0,.int .i64 0]) za6 rfl rfl rfl (fun _=>trivial) (fun bk0=>(xai rfl (dA (xmi rfl (TL.callD [] [] (zjy (by decide) (by decide)) ⟨rfl,rfl,rfl,trivial⟩ trivial zjs rfl rfl rfl rfl rfl trivial (xmi rfl (TL.callD [] [] (zjy (by decide) (by decide)) ⟨rfl,rfl,rfl,trivial⟩ trivial zjs rfl rfl rfl rfl rfl trivial (xmi rfl ?_)))))))))
 refine TL.callD [] [] (zjy (by decide) (by decide)) ⟨rfl,rfl,rfl,trivial⟩ trivial zjs rfl rfl rfl rfl rfl trivial (xmi rfl (TL.shr _ rfl rfl (by decide) rfl rfl rfl (TL.conv _ rfl zdF zbr (rfl) rfl rfl (TL.bld [.int .i64 0,.int .i64 0,.int .i64 0,.int .i64 0] [(.int _ _),(.int _ _),(.int _ _),(.int _ _)] [_,_,_,_] za6 zfc ⟨rfl,rfl,rfl,rfl,trivial⟩ ⟨rfl,rfl⟩ rfl rfl (TL.alloc 1 (cs:=#[.int .i64 0,.int .i64 0,.int .i64 0,.int .i64 0]) za6 rfl rfl rfl (fun _=>trivial) (fun bk1=>(TL.stW 1 4 [_,_,_,_] rfl rfl rfl rfl rfl rfl zak rfl rfl trivial (dB (xL4 1 zak rfl rfl ?_)))))))))
 refine TL.callD [] [] zhZ ⟨rfl,trivial⟩ trivial zmz rfl rfl rfl rfl rfl trivial (TL.cases rfl (fun q1=>?_) (fun q1=>?_))
 refine xnt rfl (dF rfl (xL4 1 zak rfl rfl (TL.stW 0 4 [_,_,_,_] rfl rfl rfl rfl rfl rfl zak rfl rfl trivial (xai rfl (dR ?_)))))
 refine FQ.retG (rs:=[.cell 2 175,.tmp 3]) [(.agg _),(.int _ _)] (Bs:=[]) [] rfl ⟨⟨_,_,_,_,_,0,rfl,rfl,.inr ⟨4,[_,_,_,_],zak,rfl,rfl⟩⟩,rfl,trivial⟩ rfl rfl trivial ?_
 first | exact ⟨(by have q:(zbP v).right=true:=‹(zbP v).right=true›; simp only [zae,q,if_true]; rfl),rfl⟩ | exact ⟨(by have q:(zbP v).right=false:=‹(zbP v).right=false›; simp only [zae,q,Bool.false_eq_true,if_false]; rfl),rfl⟩
 refine xnf rfl (dT rfl (TL.bld [.int .i64 0,.int .i64 0,.int .i64 0,.int .i64 0] [] [_,_,_,_] za6 zfc trivial ⟨rfl,rfl⟩ rfl rfl (TL.stW 0 4 [_,_,_,_] rfl rfl rfl rfl rfl rfl zak rfl rfl trivial (xai rfl (dRR ?_)))))
 refine FQ.retG (rs:=[.cell 2 175,.tmp 3]) [(.agg _),(.int _ _)] (Bs:=[]) [] rfl ⟨⟨_,_,_,_,_,0,rfl,rfl,.inr ⟨4,[_,_,_,_],zak,rfl,rfl⟩⟩,rfl,trivial⟩ rfl rfl trivial ?_
 first | exact ⟨(by have q:(zbP v).right=true:=‹(zbP v).right=true›; simp only [zae,q,if_true]; rfl),rfl⟩ | exact ⟨(by have q:(zbP v).right=false:=‹(zbP v).right=false›; simp only [zae,q,Bool.false_eq_true,if_false]; rfl),rfl⟩
theorem zhY {p:Pen} {x o m t g:Int} {b1 b2:Nat}:FnD Tryz.prog 134 [.agg #[.int .i64 o,.int .i64 m,.int .i64 t,.int .i64 g],.pointer (some ⟨b1,0,none⟩),.pointer (some ⟨b2,0,none⟩)] [pt b1 (.cells #[.int .i64 p.thread,.int .i64 p.tag] 37),pt b2 (.cells #[.int .i64 x] 3)] (wdV (p.to x (⟨o,m,t,g⟩:Wd))) [pt b1 (.cells #[.int .i64 p.thread,.int .i64 p.tag] 37),pt b2 (.cells #[.int .i64 x] 3)]:=by
 refine Fn.enter (Tryz.func134) rfl rfl (fun w0 R=>?_)
 refine sA (xB 2 rfl (fun bk2=>(TL.alloc 3 (cs:=#[.int .i64 0,.int .i64 0,.int .i64 0,.int .i64 0]) za6 rfl rfl rfl (fun _=>trivial) (fun bk3=>(dB (xf 2 zb7 rfl (xli 2 zaf rfl rfl (xf 0 zc9 rfl (xli 0 zaf rfl rfl (TL.neq rfl rfl rfl rfl (fun q1=>?_) (fun q1=>?_)))))))))))
 refine xmt rfl (xo rfl (xo rfl (xo rfl (xo rfl (xo rfl (xpT rfl (TL.done (TQ.then ?_))))))))
 refine TC.condT rfl (TC.region (xf 1 zaJ rfl (xli 2 zaf rfl rfl (xf 0 za7 rfl (TL.st 2 #[_,_,_,_] (.int _ _) rfl rfl rfl rfl rfl rfl zaf rfl rfl trivial (dA (xf 0 za7 rfl (xli 2 zaf rfl rfl ?_))))))))
 refine xli 1 zaf rfl rfl (xf 0 zc9 rfl (xli 0 zaf rfl rfl (xf 1 zb5 rfl (xli 0 zaf rfl rfl (TL.bld [.int .i64 0,.int .i64 0,.int .i64 0,.int .i64 0] [(.int _ _),(.int _ _),(.int _ _),(.int _ _)] [_,_,_,_] za6 zfc ⟨rfl,rfl,rfl,rfl,trivial⟩ ⟨rfl,rfl⟩ rfl rfl (TL.stW 3 4 [_,_,_,_] rfl rfl rfl rfl rfl rfl zak rfl rfl trivial (dR ?_)))))))
 refine FQ.retG (rs:=[.cell 4 175]) [(.agg _)] (Bs:=[pt b1 (.cells #[.int .i64 p.thread,.int .i64 p.tag] 37),pt b2 (.cells #[.int .i64 x] 3)]) [0,1] rfl ⟨⟨_,_,_,_,_,3,rfl,rfl,.inr ⟨4,[_,_,_,_],zak,rfl,rfl⟩⟩,trivial⟩ rfl rfl ⟨rfl,rfl,trivial⟩ ?_
 first | exact ⟨(by unfold Pen.to; dsimp only; rw [if_pos (by omega)]; rfl),rfl⟩ | exact ⟨(by unfold Pen.to; dsimp only; rw [if_neg (by omega)]; rfl),rfl⟩
 refine xmf rfl (xf 3 zb6 rfl (xli 2 zaf rfl rfl (xf 1 zb5 rfl (xli 0 zaf rfl rfl (TL.neq rfl rfl rfl rfl (fun q2=>?_) (fun q2=>?_))))))
 refine xpH rfl (TL.done (TQ.then (TC.condT rfl (TC.region (xf 1 zaJ rfl (xli 2 zaf rfl rfl (xf 0 za7 rfl (TL.st 2 #[_,_,_,_] (.int _ _) rfl rfl rfl rfl rfl rfl zaf rfl rfl trivial ?_))))))))
 refine dA (xf 0 za7 rfl (xli 2 zaf rfl rfl (xli 1 zaf rfl rfl (xf 0 zc9 rfl (xli 0 zaf rfl rfl (xf 1 zb5 rfl (xli 0 zaf rfl rfl (TL.bld [.int .i64 0,.int .i64 0,.int .i64 0,.int .i64 0] [(.int _ _),(.int _ _),(.int _ _),(.int _ _)] [_,_,_,_] za6 zfc ⟨rfl,rfl,rfl,rfl,trivial⟩ ⟨rfl,rfl⟩ rfl rfl ?_))))))))
 refine TL.stW 3 4 [_,_,_,_] rfl rfl rfl rfl rfl rfl zak rfl rfl trivial (dR ?_)
 refine FQ.retG (rs:=[.cell 4 175]) [(.agg _)] (Bs:=[pt b1 (.cells #[.int .i64 p.thread,.int .i64 p.tag] 37),pt b2 (.cells #[.int .i64 x] 3)]) [0,1] rfl ⟨⟨_,_,_,_,_,3,rfl,rfl,.inr ⟨4,[_,_,_,_],zak,rfl,rfl⟩⟩,trivial⟩ rfl rfl ⟨rfl,rfl,trivial⟩ ?_
 first | exact ⟨(by unfold Pen.to; dsimp only; rw [if_pos (by omega)]; rfl),rfl⟩ | exact ⟨(by unfold Pen.to; dsimp only; rw [if_neg (by omega)]; rfl),rfl⟩
 refine xpF rfl (dF rfl (xf 0 za7 rfl (xli 2 zaf rfl rfl (xli 1 zaf rfl rfl (xf 0 zc9 rfl (xli 0 zaf rfl rfl (xf 1 zb5 rfl (xli 0 zaf rfl rfl ?_))))))))
 refine TL.bld [.int .i64 0,.int .i64 0,.int .i64 0,.int .i64 0] [(.int _ _),(.int _ _),(.int _ _),(.int _ _)] [_,_,_,_] za6 zfc ⟨rfl,rfl,rfl,rfl,trivial⟩ ⟨rfl,rfl⟩ rfl rfl (TL.stW 3 4 [_,_,_,_] rfl rfl rfl rfl rfl rfl zak rfl rfl trivial (dR ?_))
 refine FQ.retG (rs:=[.cell 4 175]) [(.agg _)] (Bs:=[pt b1 (.cells #[.int .i64 p.thread,.int .i64 p.tag] 37),pt b2 (.cells #[.int .i64 x] 3)]) [0,1] rfl ⟨⟨_,_,_,_,_,3,rfl,rfl,.inr ⟨4,[_,_,_,_],zak,rfl,rfl⟩⟩,trivial⟩ rfl rfl ⟨rfl,rfl,trivial⟩ ?_
 first | exact ⟨(by unfold Pen.to; dsimp only; rw [if_pos (by omega)]; rfl),rfl⟩ | exact ⟨(by unfold Pen.to; dsimp only; rw [if_neg (by omega)]; rfl),rfl⟩
theorem znd {S:Type} [MemLike S] {mt:TypeId} {mv:Value} {A:S→Assn} (hM:MemI Tryz.prog mt mv A) {σ:S} {p:Pen} {c x:Int} {b1 b2:Nat} (h:(zae (MemLike.get σ c)).2=false):FnD Tryz.prog 113 [.iface mt mv,.int .i64 c,.func (.func 134) #[] #[.pointer (some ⟨b1,0,none⟩),.pointer (some ⟨b2,0,none⟩)]] [A σ,pt b1 (.cells #[.int .i64 p.thread,.int .i64 p.tag] 37),pt b2 (.cells #[.int .i64 x] 3)] (.tuple #[]) [A (MemLike.ld σ c),pt b1 (.cells #[.int .i64 p.thread,.int .i64 p.tag] 37),pt b2 (.cells #[.int .i64 x] 3)]:=by
 refine Fn.enter (Tryz.func113) rfl rfl (fun w0 R=>?_)
 refine sA (xmc rfl (xmi rfl (TL.mload 0 hM rfl rfl rfl rfl rfl trivial (TL.callD [] [] zbB ⟨rfl,trivial⟩ trivial zcY rfl rfl rfl rfl rfl trivial (xmu rfl (TL.ext (.agg _) rfl rfl rfl rfl (xei rfl rfl (TL.alloc 3 (cs:=#[.int .i64 0,.int .i64 0,.int .i64 0,.int .i64 0]) za6 rfl rfl rfl (fun _=>trivial) (fun bk3=>?_)))))))))
 refine TL.stW 3 4 [_,_,_,_] rfl rfl rfl rfl rfl rfl zak rfl rfl trivial (xai rfl (dB (xmi rfl (TL.neqT rfl rfl (by rw [h]; decide) rfl rfl (TL.done (TQ.then (TC.condT rfl (TC.ret ?_))))))))
 refine TQ.thenRet ?_
 refine FQ.ret0 (Bs:=[A (MemLike.ld σ c),pt b1 (.cells #[.int .i64 p.thread,.int .i64 p.tag] 37),pt b2 (.cells #[.int .i64 x] 3)]) [0,1,2] rfl rfl ⟨rfl,rfl,rfl,trivial⟩ ?_
 exact ⟨rfl,rfl⟩
theorem znc {S:Type} [MemLike S] {mt:TypeId} {mv:Value} {A:S→Assn} (hM:MemI Tryz.prog mt mv A) {σ:S} {p:Pen} {c x:Int} {b1 b2:Nat} (h:(zae (MemLike.get σ c)).2=true) (h2:(p.to x (zae (MemLike.get σ c)).1).right=false):FnD Tryz.prog 113 [.iface mt mv,.int .i64 c,.func (.func 134) #[] #[.pointer (some ⟨b1,0,none⟩),.pointer (some ⟨b2,0,none⟩)]] [A σ,pt b1 (.cells #[.int .i64 p.thread,.int .i64 p.tag] 37),pt b2 (.cells #[.int .i64 x] 3)] (.tuple #[]) [A (MemLike.ld σ c),pt b1 (.cells #[.int .i64 p.thread,.int .i64 p.tag] 37),pt b2 (.cells #[.int .i64 x] 3)]:=by
 refine Fn.enter (Tryz.func113) rfl rfl (fun w0 R=>?_)
 refine sA (xmc rfl (xmi rfl (TL.mload 0 hM rfl rfl rfl rfl rfl trivial (TL.callD [] [] zbB ⟨rfl,trivial⟩ trivial zcY rfl rfl rfl rfl rfl trivial (xmu rfl (TL.ext (.agg _) rfl rfl rfl rfl (xei rfl rfl (TL.alloc 3 (cs:=#[.int .i64 0,.int .i64 0,.int .i64 0,.int .i64 0]) za6 rfl rfl rfl (fun _=>trivial) (fun bk3=>?_)))))))))
 refine TL.stW 3 4 [_,_,_,_] rfl rfl rfl rfl rfl rfl zak rfl rfl trivial (xai rfl (dB (xmi rfl (TL.neqF rfl rfl (by rw [h]; decide) rfl rfl (dF rfl (TL.mv (.func _ _ _) rfl rfl rfl (xL4 3 zak rfl rfl (TL.callC (c1:=[]) (c2:=[_,_]) (vs:=[_]) [1,2] [1,2] rfl zhY ⟨rfl,trivial⟩ ⟨rfl,rfl,trivial⟩ zmJ rfl rfl rfl rfl rfl trivial ?_))))))))
 refine TL.callD [] [] zhj ⟨rfl,trivial⟩ trivial zhJ rfl rfl rfl rfl rfl trivial (xmu rfl (xei rfl rfl (xei rfl rfl (xai rfl (xai rfl (dA (xmi rfl (TL.eqlF rfl rfl (by rw [h2]; decide) rfl rfl ?_))))))))
 refine TL.done (TQ.then (TC.condF rfl (TC.skip ?_)))
 refine FQ.end0 (Bs:=[A (MemLike.ld σ c),pt b1 (.cells #[.int .i64 p.thread,.int .i64 p.tag] 37),pt b2 (.cells #[.int .i64 x] 3)]) [0,1,2] rfl rfl ⟨rfl,rfl,rfl,trivial⟩ ?_
 exact ⟨rfl,rfl⟩
theorem znb {S:Type} [MemLike S] {mt:TypeId} {mv:Value} {A:S→Assn} (hM:MemI Tryz.prog mt mv A) {σ:S} {p:Pen} {c x:Int} {b1 b2:Nat} (h:(zae (MemLike.get σ c)).2=true) (h2:(p.to x (zae (MemLike.get σ c)).1).right=true):FnD Tryz.prog 113 [.iface mt mv,.int .i64 c,.func (.func 134) #[] #[.pointer (some ⟨b1,0,none⟩),.pointer (some ⟨b2,0,none⟩)]] [A σ,pt b1 (.cells #[.int .i64 p.thread,.int .i64 p.tag] 37),pt b2 (.cells #[.int .i64 x] 3)] (.tuple #[]) [A (MemLike.st (MemLike.ld σ c) c (p.to x (zae (MemLike.get σ c)).1).pack),pt b1 (.cells #[.int .i64 p.thread,.int .i64 p.tag] 37),pt b2 (.cells #[.int .i64 x] 3)]:=by
 refine Fn.enter (Tryz.func113) rfl rfl (fun w0 R=>?_)
 refine sA (xmc rfl (xmi rfl (TL.mload 0 hM rfl rfl rfl rfl rfl trivial (TL.callD [] [] zbB ⟨rfl,trivial⟩ trivial zcY rfl rfl rfl rfl rfl trivial (xmu rfl (TL.ext (.agg _) rfl rfl rfl rfl (xei rfl rfl (TL.alloc 3 (cs:=#[.int .i64 0,.int .i64 0,.int .i64 0,.int .i64 0]) za6 rfl rfl rfl (fun _=>trivial) (fun bk3=>?_)))))))))
 refine TL.stW 3 4 [_,_,_,_] rfl rfl rfl rfl rfl rfl zak rfl rfl trivial (xai rfl (dB (xmi rfl (TL.neqF rfl rfl (by rw [h]; decide) rfl rfl (dF rfl (TL.mv (.func _ _ _) rfl rfl rfl (xL4 3 zak rfl rfl (TL.callC (c1:=[]) (c2:=[_,_]) (vs:=[_]) [1,2] [1,2] rfl zhY ⟨rfl,trivial⟩ ⟨rfl,rfl,trivial⟩ zmJ rfl rfl rfl rfl rfl trivial ?_))))))))
 refine TL.callD [] [] zhj ⟨rfl,trivial⟩ trivial zhJ rfl rfl rfl rfl rfl trivial (xmu rfl (xei rfl rfl (xei rfl rfl (xai rfl (xai rfl (dA (xmi rfl (TL.eqlT rfl rfl (by rw [h2]; decide) rfl rfl ?_))))))))
 refine TL.done (TQ.then (TC.condT rfl (TC.region (xmc rfl (xmi rfl (xmi rfl (TL.mstore 0 hM rfl rfl rfl (by rw [h2]; exact zcq _ _) rfl rfl rfl trivial (TL.done ?_))))))))
 refine FQ.end0 (Bs:=[A _,pt b1 (.cells #[.int .i64 p.thread,.int .i64 p.tag] 37),pt b2 (.cells #[.int .i64 x] 3)]) [0,1,2] rfl rfl ⟨rfl,rfl,rfl,trivial⟩ ?_
 exact ⟨rfl,by rw [h2]; rfl⟩
theorem zne {S:Type} [MemLike S] {mt:TypeId} {mv:Value} {A:S→Assn} (hM:MemI Tryz.prog mt mv A) {σ:S} {p:Pen} {c x:Int} {b1 b2:Nat}:FnD Tryz.prog 113 [.iface mt mv,.int .i64 c,.func (.func 134) #[] #[.pointer (some ⟨b1,0,none⟩),.pointer (some ⟨b2,0,none⟩)]] [A σ,pt b1 (.cells #[.int .i64 p.thread,.int .i64 p.tag] 37),pt b2 (.cells #[.int .i64 x] 3)] (.tuple #[]) [A (p.write σ c x),pt b1 (.cells #[.int .i64 p.thread,.int .i64 p.tag] 37),pt b2 (.cells #[.int .i64 x] 3)]:=by
 unfold Pen.write
 cases h:(zae (MemLike.get σ c)).2
 ·exact znd hM h
 ·rw [if_pos rfl]
  cases h2:(p.to x (zae (MemLike.get σ c)).1).right
  ·exact znc hM h h2
  ·exact znb hM h h2
theorem znw {S:Type} [MemLike S] {mt:TypeId} {mv:Value} {A:S→Assn} (hM:MemI Tryz.prog mt mv A) {σ:S} {p:Pen} {c x:Int}:FnD Tryz.prog 106 [.agg #[.int .i64 p.thread,.int .i64 p.tag],.iface mt mv,.int .i64 c,.int .i64 x] [A σ] (.tuple #[]) [A (p.write σ c x)]:=by
 refine Fn.enter (Tryz.func106) rfl rfl (fun w0 R=>?_)
 refine sA (xB 1 rfl (fun bk1=>(TL.box1 2 (.int _ _) rfl rfl rfl rfl (fun _=>trivial) (fun bk2=>(dG (xmc rfl (xmi rfl (TL.mf (xs:=[]) (ys:=[_,_]) [] [_,_] trivial ⟨rfl,rfl,trivial⟩ rfl rfl (TL.callD [0,1,2] [0,1,2] (zne hM) ⟨rfl,rfl,rfl,trivial⟩ ⟨rfl,rfl,rfl,trivial⟩ zmQ rfl rfl rfl rfl rfl trivial (TL.done ?_))))))))))
 refine FQ.end0 (Bs:=[A (p.write σ c x)]) [0] rfl rfl ⟨rfl,trivial⟩ ?_
 exact ⟨rfl,rfl⟩
theorem zqN {S:Type} [MemLike S] {mt:TypeId} {mv:Value} {A:S→Assn} (hM:MemI Tryz.prog mt mv A) {σ:S} {c:Int}:FnD Tryz.prog 107 [.iface mt mv,.int .i64 c] [A σ] (.int .i64 (pnew σ c)) [A (MemLike.ld σ c)]:=by
 refine Fn.enter (Tryz.func107) rfl rfl (fun w0 R=>?_)
 refine sA (xai rfl (dA (xmc rfl (xmi rfl (TL.mload 0 hM rfl rfl rfl rfl rfl trivial (TL.callD [] [] zbB ⟨rfl,trivial⟩ trivial zcY rfl rfl rfl rfl rfl trivial (xmu rfl (TL.ext (.agg _) rfl rfl rfl rfl ?_))))))))
 refine xei rfl rfl (TL.alloc 1 (cs:=#[.int .i64 0,.int .i64 0,.int .i64 0,.int .i64 0]) za6 rfl rfl rfl (fun _=>trivial) (fun bk1=>(TL.stW 1 4 [_,_,_,_] rfl rfl rfl rfl rfl rfl zak rfl rfl trivial (xai rfl (dA (xf 1 zaJ rfl (xli 1 zaf rfl rfl (xai rfl (dR ?_)))))))))
 refine FQ.ret1 (v:=(.int _ _)) (Bs:=[A (MemLike.ld σ c)]) [0] rfl rfl rfl ⟨rfl,trivial⟩ ?_
 exact ⟨rfl,rfl⟩
theorem zcA {S:Type} [MemLike S] {mt:TypeId} {mv:Value} {A:S→Assn} (hM:MemI Tryz.prog mt mv A) {l:Lay} (hl:l.Ok) {p:Pen} {σ:S} {x f:Int}:FnD Tryz.prog 147 [zaV l mt mv p,.int .i64 x,.int .i64 f] [A σ] (.int .i64 (tget l σ x f)) [A (zeY l σ x f)]:=by
 refine Fn.enter (Tryz.func147) rfl rfl (fun w0 R=>?_)
 refine sA (xB 1 rfl (fun bk1=>(xai rfl (dS (TC.draw [(0,true),(1,true),(2,true),(3,true),(4,true),(5,true),(7,true),(8,true),(6,false),(9,false),(10,true),(11,true)] [1] fc_m (by kernel_rfl) (xf 3 zaT rfl (xlc 1 zbg rfl rfl (xf 0 zav rfl (xL3 1 zaa rfl rfl ?_)))))))))
 refine xmi rfl (xmi rfl (TL.ncI rfl rfl rfl (xmc rfl (TL.callD [] [] (zaS hl) ⟨rfl,rfl,rfl,trivial⟩ trivial zbK rfl rfl rfl rfl rfl (kL1 rfl trivial) (TL.mload 0 hM rfl rfl rfl rfl rfl (kL1 rfl trivial) (TL.conv _ rfl zdF zbr (rfl) rfl rfl (xai rfl (dR ?_))))))))
 refine FQ.ret1 (v:=(.int _ _)) (Bs:=[A _]) [0] rfl rfl rfl ⟨rfl,trivial⟩ ?_
 exact ⟨rfl,rfl⟩
theorem zg9 {S:Type} [MemLike S] {mt:TypeId} {mv:Value} {A:S→Assn} (hM:MemI Tryz.prog mt mv A) {l:Lay} (hl:l.Ok) {p:Pen} {σ:S} {x f v:Int}:FnD Tryz.prog 150 [zaV l mt mv p,.int .i64 x,.int .i64 f,.int .i64 v] [A σ] (.tuple #[]) [A (tput l σ x f v)]:=by
 refine Fn.enter (Tryz.func150) rfl rfl (fun w0 R=>?_)
 refine sA (xB 1 rfl (fun bk1=>(TL.done (TQ.then (TC.draw [(0,true),(1,true),(2,true),(3,true),(4,true),(5,true),(7,true),(8,true),(9,true),(10,true),(6,false),(11,false)] [1] fc_m (by kernel_rfl) (xf 3 zaT rfl (xlc 1 zbg rfl rfl (xf 0 zav rfl (xL3 1 zaa rfl rfl ?_)))))))))
 refine xmi rfl (xmi rfl (xmi rfl (TL.conv _ rfl zeN za0 (rfl) rfl rfl (TL.ncI rfl rfl rfl (xmc rfl (TL.callD [] [] (zaS hl) ⟨rfl,rfl,rfl,trivial⟩ trivial zbK rfl rfl rfl rfl rfl (kL1 rfl trivial) (TL.mstore 0 hM rfl rfl rfl (by first | exact zeq _ | exact zcq _ _ | exact MemLike.rng _ _ | decide | assumption) rfl rfl rfl (kL1 rfl trivial) (TL.done ?_))))))))
 refine FQ.end0 (Bs:=[A _]) [0] rfl rfl ⟨rfl,trivial⟩ ?_
 exact ⟨rfl,rfl⟩
theorem zjE {mt:TypeId} {mv:Value} {l:Lay} (hl:l.Ok) {p:Pen} {x:Int}:FnD Tryz.prog 146 [zaV l mt mv p,.int .i64 x] [] (.bool (zcp l x)) []:=by
 refine Fn.enter (Tryz.func146) rfl rfl (fun w0 R=>?_)
 refine sA (xB 0 rfl (fun bk0=>(xaf rfl (dA (xf 0 zav rfl (xL3 0 zaa rfl rfl (xmi rfl (TL.callD [] [] (ze1 hl) ⟨rfl,rfl,trivial⟩ trivial zg3 rfl rfl rfl rfl rfl trivial (xmu rfl ?_)))))))))
 refine TL.ext (.agg _) rfl rfl rfl rfl (TL.ext (.bool _) rfl rfl rfl rfl (TL.alloc 1 (cs:=#[.bool false,.int .i64 0,.int .i64 0,.int .i64 0,.int .i64 0]) zd6 rfl rfl rfl (fun _=>trivial) (fun bk1=>(TL.stW 1 5 [_,_,_,_,_] rfl rfl rfl rfl rfl rfl zbG rfl rfl trivial (xab rfl (dA (xf 1 zff rfl (xli 1 zaf rfl rfl (TL.eqlV rfl rfl rfl rfl ?_)))))))))
 refine xab rfl (dR ?_)
 refine FQ.ret1 (v:=(.bool _)) (Bs:=[]) [] rfl rfl rfl trivial ?_
 exact ⟨rfl,rfl⟩
theorem zc5 {S:Type} [MemLike S] {mt:TypeId} {mv:Value} {A:S→Assn} (hM:MemI Tryz.prog mt mv A) {l:Lay} (hl:l.Ok) {p:Pen} {σ:S} {x:Int}:FnD Tryz.prog 119 [zaV l mt mv p,.int .i64 x] [A σ] (.int .i64 (parent l σ x)) [A (zcW l σ x)]:=by
 refine Fn.enter (Tryz.func119) rfl rfl (fun w0 R=>?_)
 refine sA (xB 1 rfl (fun bk1=>(xai rfl (dB (xL6 1 zab rfl rfl (xmi rfl (TL.callD [] [] (zjE hl) ⟨rfl,rfl,trivial⟩ trivial zmE rfl rfl rfl rfl rfl trivial (TL.cases rfl (fun q1=>?_) (fun q1=>?_)))))))))
 refine TL.done (TQ.then (TC.condT rfl (TC.seq (TC.draw [(0,true),(1,true),(2,true),(3,true),(4,true),(5,false),(6,false),(7,true)] [1] fc_m (by kernel_rfl) (xf 3 zaT rfl (xlc 1 zbg rfl rfl (xf 0 zav rfl (xL3 1 zaa rfl rfl ?_))))))))
 refine xmi rfl (TL.callD [] [] (zaS hl) ⟨rfl,rfl,rfl,trivial⟩ trivial zbK rfl rfl rfl rfl rfl (kL1 rfl trivial) (TL.callD [0] [0] (zqN hM) ⟨rfl,rfl,trivial⟩ ⟨rfl,trivial⟩ zqk rfl rfl rfl rfl rfl (kL1 rfl trivial) (xai rfl (dRR ?_))))
 refine FQ.ret1 (v:=(.int _ _)) (Bs:=[A _]) [0] rfl rfl rfl ⟨rfl,trivial⟩ ?_
 exact ⟨(by simp only [parent, *,if_true,Bool.false_eq_true,if_false]),rfl⟩
 refine dF rfl (xL6 1 zab rfl rfl (xmi rfl (TL.callD [0] [0] (zcA hM hl) ⟨rfl,rfl,rfl,trivial⟩ ⟨rfl,trivial⟩ zcL rfl rfl rfl rfl rfl trivial (xai rfl (dR ?_)))))
 refine FQ.ret1 (v:=(.int _ _)) (Bs:=[A _]) [0] rfl rfl rfl ⟨rfl,trivial⟩ ?_
 exact ⟨(by simp only [parent, *,if_true,Bool.false_eq_true,if_false]),rfl⟩
theorem zf6 {S:Type} [MemLike S] {mt:TypeId} {mv:Value} {A:S→Assn} (hM:MemI Tryz.prog mt mv A) {l:Lay} (hl:l.Ok) {p:Pen} {σ:S} {x q:Int}:FnD Tryz.prog 151 [zaV l mt mv p,.int .i64 x,.int .i64 q] [A σ] (.tuple #[]) [A (hang l p σ x q)]:=by
 refine Fn.enter (Tryz.func151) rfl rfl (fun w0 R=>?_)
 refine sA (xB 1 rfl (fun bk1=>(dK (sA (xmi rfl (TL.eql rfl rfl rfl rfl (fun q1=>?_) (fun q1=>?_)))))))
 refine xat rfl (TL.done (TQ.then (TC.condT rfl (TC.skip (TQ.inBlock ?_)))))
 refine FQ.end0 (Bs:=[A _]) [0] rfl rfl ⟨rfl,trivial⟩ ?_
 first | exact ⟨rfl,(by simp only [hang, *,if_true,Bool.false_eq_true,if_false])⟩ | exact ⟨rfl,(by simp only [hang]; rw [if_pos (by assumption)])⟩
 refine xaf rfl (TL.done (TQ.then (TC.condF rfl (sA (xL6 1 zab rfl rfl (xmi rfl (TL.callD [] [] (zjE hl) ⟨rfl,rfl,trivial⟩ trivial zmE rfl rfl rfl rfl rfl trivial (TL.cases rfl (fun q2=>?_) (fun q2=>?_)))))))))
 refine xat rfl (TL.done (TQ.then (TC.condT rfl (TC.draw [(0,true),(1,true),(2,true),(3,true),(4,true),(5,true),(6,true),(8,true),(7,false),(9,false)] [1] fc_m (by kernel_rfl) (xf 4 zg1 rfl (xL2 1 zby rfl rfl (xf 3 zaT rfl (xlc 1 zbg rfl rfl ?_))))))))
 refine xf 0 zav rfl (xL3 1 zaa rfl rfl (xmi rfl (xmi rfl (TL.callD [] [] (zaS hl) ⟨rfl,rfl,rfl,trivial⟩ trivial zbK rfl rfl rfl rfl rfl (kL1 rfl trivial) (TL.callD [0] [0] (znw hM) ⟨rfl,rfl,rfl,rfl,trivial⟩ ⟨rfl,trivial⟩ zql rfl rfl rfl rfl rfl (kL1 rfl trivial) (TL.done (TQ.inBlock ?_)))))))
 refine FQ.end0 (Bs:=[A _]) [0] rfl rfl ⟨rfl,trivial⟩ ?_
 first | exact ⟨rfl,(by simp only [hang, *,if_true,Bool.false_eq_true,if_false])⟩ | exact ⟨rfl,(by simp only [hang]; rw [if_pos (by assumption)])⟩
 refine xaf rfl (TL.done (TQ.then (TC.condF rfl (TC.region (xL6 1 zab rfl rfl (xmi rfl (xmi rfl (TL.callD [0] [0] (zg9 hM hl) ⟨rfl,rfl,rfl,rfl,trivial⟩ ⟨rfl,trivial⟩ zhI rfl rfl rfl rfl rfl trivial ?_))))))))
 refine TL.done (TQ.inBlock ?_)
 refine FQ.end0 (Bs:=[A _]) [0] rfl rfl ⟨rfl,trivial⟩ ?_
 first | exact ⟨rfl,(by simp only [hang, *,if_true,Bool.false_eq_true,if_false])⟩ | exact ⟨rfl,(by simp only [hang]; rw [if_pos (by assumption)])⟩
theorem zfP {S:Type} [MemLike S] {mt:TypeId} {mv:Value} {A:S→Assn} (hM:MemI Tryz.prog mt mv A) {l:Lay} (hl:l.Ok) {p:Pen} {σ:S} {x:Int}:FnD Tryz.prog 195 [zaV l mt mv p,.int .i64 x] [A σ] (.int .u64 (tsum l σ x)) [A (zb0 l σ x)]:=by
 refine Fn.enter (Tryz.func195) rfl rfl (fun w0 R=>?_)
 refine sA (xB 1 rfl (fun bk1=>(xai rfl (dB (xmi rfl (TL.eql rfl rfl rfl rfl (fun q1=>?_) (fun q1=>?_)))))))
 refine dT rfl (xai rfl (dRR ?_))
 refine FQ.ret1 (v:=(.int _ _)) (Bs:=[A _]) [0] rfl rfl rfl ⟨rfl,trivial⟩ ?_
 first | exact ⟨(by simp only [tsum]; rw [if_pos (by assumption)]),(by simp only [zb0]; rw [if_pos (by assumption)])⟩ | exact ⟨(by simp only [tsum]; rw [if_neg (by assumption)]),(by simp only [zb0]; rw [if_neg (by assumption)])⟩
 refine TL.done (TQ.then (TC.condF rfl (TC.skip (TQ.then (TC.seq (TC.draw [(0,true),(1,true),(2,true),(3,true),(4,true),(6,true),(7,true),(5,false),(8,false),(9,true)] [1] fc_m (by kernel_rfl) (xf 3 zaT rfl (xlc 1 zbg rfl rfl ?_))))))))
 refine xf 0 zav rfl (xL3 1 zaa rfl rfl (xmi rfl (TL.ncI rfl rfl rfl (xmc rfl (TL.callD [] [] (zaS hl) ⟨rfl,rfl,rfl,trivial⟩ trivial zbK rfl rfl rfl rfl rfl (kL1 rfl trivial) (TL.mload 0 hM rfl rfl rfl rfl rfl (kL1 rfl trivial) (xai rfl (dR ?_))))))))
 refine FQ.ret1 (v:=(.int _ _)) (Bs:=[A _]) [0] rfl rfl rfl ⟨rfl,trivial⟩ ?_
 first | exact ⟨(by simp only [tsum]; rw [if_pos (by assumption)]),(by simp only [zb0]; rw [if_pos (by assumption)])⟩ | exact ⟨(by simp only [tsum]; rw [if_neg (by assumption)]),(by simp only [zb0]; rw [if_neg (by assumption)])⟩
theorem zm3 {v:Int}:FnD Tryz.prog 196 [.int .u64 v] [] (.int .u64 (zkc v)) []:=by
 refine Fn.enter (Tryz.func196) rfl rfl (fun w0 R=>?_)
 refine sA (xai rfl (dA (xmi rfl (TL.and _ rfl rfl rfl rfl rfl (xai rfl (dR ?_))))))
 refine FQ.ret1 (v:=(.int _ _)) (Bs:=[]) [] rfl rfl rfl trivial ?_
 exact ⟨rfl,rfl⟩
theorem zlO {mt:TypeId} {mv:Value} {l:Lay} (hl:l.Ok) {p:Pen} {x m:Int}:FnD Tryz.prog 152 [zaV l mt mv p,.int .i64 x,.int .u64 m] [] (.int .u64 (zd2 l x m)) []:=by
 refine Fn.enter (Tryz.func152) rfl rfl (fun w0 R=>?_)
 refine sA (xB 0 rfl (fun bk0=>(xai rfl (dA (xmi rfl (TL.shl _ rfl rfl (by decide) rfl rfl rfl (TL.or _ rfl rfl rfl rfl rfl (xmi rfl (TL.shl _ rfl rfl (by decide) rfl rfl rfl ?_)))))))))
 refine TL.or _ rfl rfl rfl rfl rfl (xai rfl (dB (xf 0 zav rfl (xL3 0 zaa rfl rfl (xmi rfl (TL.callD [] [] (ze1 hl) ⟨rfl,rfl,trivial⟩ trivial zg3 rfl rfl rfl rfl rfl trivial (xmu rfl (TL.ext (.agg _) rfl rfl rfl rfl ?_))))))))
 refine TL.ext (.bool _) rfl rfl rfl rfl (TL.alloc 1 (cs:=#[.bool false,.int .i64 0,.int .i64 0,.int .i64 0,.int .i64 0]) zd6 rfl rfl rfl (fun _=>trivial) (fun bk1=>(TL.stW 1 5 [_,_,_,_,_] rfl rfl rfl rfl rfl rfl zbG rfl rfl trivial (xab rfl (dA (xf 0 zgX rfl (xlb 1 zbW rfl rfl (TL.not _ _ rfl rfl rfl rfl (TL.done ?_)))))))))
 refine TQ.then (TC.cond rfl (fun q1=>?_) (fun q1=>?_))
 refine TC.region (xmi rfl (TL.or _ rfl rfl rfl rfl rfl (xai rfl (dA (xmi rfl (xai rfl (dR ?_)))))))
 refine FQ.ret1 (v:=(.int _ _)) (Bs:=[]) [] rfl rfl rfl trivial ?_
 first | exact ⟨(by have q:(l.node x).1.arc=false:=(by simpa using ‹(!(l.node x).1.arc)=true›); simp only [zd2,q,Bool.false_eq_true,if_false]; rfl),rfl⟩ | exact ⟨(by have q:(l.node x).1.arc=true:=(by simpa using ‹(!(l.node x).1.arc)=false›); simp only [zd2,q,if_true]; rfl),rfl⟩
 refine TC.skip (TQ.then (sA (xmi rfl (xai rfl (dR ?_)))))
 refine FQ.ret1 (v:=(.int _ _)) (Bs:=[]) [] rfl rfl rfl trivial ?_
 first | exact ⟨(by have q:(l.node x).1.arc=false:=(by simpa using ‹(!(l.node x).1.arc)=true›); simp only [zd2,q,Bool.false_eq_true,if_false]; rfl),rfl⟩ | exact ⟨(by have q:(l.node x).1.arc=true:=(by simpa using ‹(!(l.node x).1.arc)=false›); simp only [zd2,q,if_true]; rfl),rfl⟩
theorem zev {S:Type} [MemLike S] {mt:TypeId} {mv:Value} {A:S→Assn} (hM:MemI Tryz.prog mt mv A) {l:Lay} (hl:l.Ok) {p:Pen} {σ:S} {x m:Int}:FnD Tryz.prog 187 [zaV l mt mv p,.int .i64 x,.int .u64 m] [A σ] (.tuple #[]) [A (zfZ l σ x m)]:=by
 refine Fn.enter (Tryz.func187) rfl rfl (fun w0 R=>?_)
 refine sA (xB 1 rfl (fun bk1=>(dA (xL6 1 zab rfl rfl (xmi rfl (xmi rfl (TL.callD [] [] (zlO hl) ⟨rfl,rfl,rfl,trivial⟩ trivial zmC rfl rfl rfl rfl rfl trivial (xai rfl (dB ?_)))))))))
 refine TL.bldA [.int .i64 0,.int .i64 0] [(.int _ _),(.int _ _)] [_,_] zpR zeO ⟨rfl,rfl,trivial⟩ ⟨rfl,rfl⟩ rfl rfl (xmi rfl (dK (TC.loopK (X:=Nat) [1,3,14] [1] (fun i=>[(6,.int .u64 (zc3 l σ x m i).1),(15,.int .i64 (i:Int))]) (fun i=>[(0,A (zc3 l σ x m i).2)]) (fun i=>i≤2) (fun i=>2 - i) (0) (by decide) ⟨rfl,rfl,trivial⟩ ⟨rfl,trivial⟩ (fun i hI=>(TC.sub (env':=[(6,_),(15,_),(1,_),(3,_),(14,_)]) (L':=[(0,_),(1,_)]) ⟨rfl,rfl,rfl,rfl,rfl,trivial⟩ ⟨rfl,rfl,trivial⟩ (sA (TL.lss rfl rfl rfl rfl (fun q1=>?_) (fun q1=>?_))))))))
 refine dS (TC.condT rfl (TC.skip (TQ.then (TC.seq (TC.block (sA (TL.ixA (.int .i64 (3+(i:Int))) rfl rfl zeO zaf (by omega) (by omega) (by have:i=0∨i=1:=(by omega); rcases this with rfl | rfl<;>rfl) rfl rfl (xai rfl ?_))))))))
 refine dS (TC.draw [(0,true),(1,true),(2,true),(3,true),(4,false),(5,false),(6,true)] [1] fc_m (by kernel_rfl) (xL6 1 zab rfl rfl (xL6 1 zab rfl rfl (xmi rfl (xmi rfl (TL.callD [0] [0] (zcA hM hl) ⟨rfl,rfl,rfl,trivial⟩ ⟨rfl,trivial⟩ zcL rfl rfl rfl rfl rfl (kL1 rfl trivial) (TL.callD [0] [0] (zfP hM hl) ⟨rfl,rfl,trivial⟩ ⟨rfl,trivial⟩ zgk rfl rfl rfl rfl rfl (kL1 rfl trivial) (xai rfl ?_))))))))
 refine dG (xmi rfl (xmi rfl (TL.callD [] [] zm3 ⟨rfl,trivial⟩ trivial zpX rfl rfl rfl rfl rfl trivial (TL.add _ rfl rfl (rfl) rfl rfl (xmi rfl (TL.shr _ rfl rfl (by decide) rfl rfl rfl (TL.and _ rfl rfl rfl rfl rfl (TL.shl _ rfl rfl (by decide) rfl rfl rfl ?_))))))))
 refine TL.or _ rfl rfl rfl rfl rfl (xai rfl (dI (TL.add _ rfl rfl (wr64 (by omega)) rfl rfl (xmi rfl (TL.done (TQ.roundK (i+1) ⟨by omega,by omega⟩ ⟨rfl,rfl,trivial⟩ ⟨rfl,trivial⟩ (kE3 rfl rfl rfl trivial) (kL1 rfl trivial)))))))
 refine dS (TC.condF rfl (TC.exit (TQ.thenExit (TQ.thenExit (TQ.blockHere (TQ.then (TC.draw [(0,true),(1,true),(2,true),(3,true),(4,true),(6,true),(7,true),(8,true),(5,false),(9,false)] [1] fc_m (by kernel_rfl) (xf 3 zaT rfl ?_))))))))
 refine xlc 1 zbg rfl rfl (xf 0 zav rfl (xL3 1 zaa rfl rfl (xmi rfl (xmi rfl (TL.ncI rfl rfl rfl (xmc rfl (TL.callD [] [] (zaS hl) ⟨rfl,rfl,rfl,trivial⟩ trivial zbK rfl rfl rfl rfl rfl (kL1 rfl trivial) (TL.mstore 0 hM rfl rfl rfl (zky _ _ _ _ _) rfl rfl rfl (kL1 rfl trivial) ?_))))))))
 refine TL.done ?_
 refine FQ.end0 (Bs:=[A _]) [0] rfl rfl ⟨rfl,trivial⟩ ?_
 obtain rfl:i=2:=by omega
 refine ⟨rfl,?_⟩
 unfold zfZ
 rfl
theorem zdQ {S:Type} [MemLike S] {mt:TypeId} {mv:Value} {A:S→Assn} (hM:MemI Tryz.prog mt mv A) {l:Lay} (hl:l.Ok) {p:Pen} {σ:S} {x:Int}:FnD Tryz.prog 186 [zaV l mt mv p,.int .i64 x] [A σ] (.int .u64 (zf3 l σ x)) [A (zfr l σ x)]:=by
 refine Fn.enter (Tryz.func186) rfl rfl (fun w0 R=>?_)
 refine sA (xB 1 rfl (fun bk1=>(xai rfl (dA (xL6 1 zab rfl rfl (xmi rfl (TL.callD [0] [0] (zfP hM hl) ⟨rfl,rfl,trivial⟩ ⟨rfl,trivial⟩ zgk rfl rfl rfl rfl rfl trivial (TL.shr _ rfl rfl (by decide) rfl rfl rfl (TL.and _ rfl rfl rfl rfl rfl ?_)))))))))
 refine xai rfl (dR ?_)
 refine FQ.ret1 (v:=(.int _ _)) (Bs:=[A _]) [0] rfl rfl rfl ⟨rfl,trivial⟩ ?_
 exact ⟨rfl,rfl⟩
theorem zeT {S:Type} [MemLike S] {mt:TypeId} {mv:Value} {A:S→Assn} (hM:MemI Tryz.prog mt mv A) {l:Lay} (hl:l.Ok) {p:Pen} {σ:S} {x:Int}:FnD Tryz.prog 123 [zaV l mt mv p,.int .i64 x] [A σ] (.tuple #[]) [A (alone l p σ x)]:=by
 refine Fn.enter (Tryz.func123) rfl rfl (fun w0 R=>?_)
 refine sA (xB 1 rfl (fun bk1=>(dA (xL6 1 zab rfl rfl (xmi rfl (TL.callD [0] [0] (zg9 hM hl) ⟨rfl,rfl,rfl,rfl,trivial⟩ ⟨rfl,trivial⟩ zhI rfl rfl rfl rfl rfl trivial (dA (xL6 1 zab rfl rfl (xmi rfl ?_)))))))))
 refine TL.callD [0] [0] (zg9 hM hl) ⟨rfl,rfl,rfl,rfl,trivial⟩ ⟨rfl,trivial⟩ zhI rfl rfl rfl rfl rfl trivial (dA (xL6 1 zab rfl rfl (xmi rfl (TL.callD [0] [0] (zf6 hM hl) ⟨rfl,rfl,rfl,trivial⟩ ⟨rfl,trivial⟩ zgo rfl rfl rfl rfl rfl trivial (TL.done (TQ.then (TC.draw [(0,true),(1,true),(2,true),(3,true),(4,true),(6,true),(7,true),(9,true),(10,true),(5,false),(8,false),(11,false)] [1] fc_m (by kernel_rfl) (xf 3 zaT rfl ?_))))))))
 refine xlc 1 zbg rfl rfl (xf 0 zav rfl (xL3 1 zaa rfl rfl (xmi rfl (xL6 1 zab rfl rfl (xmi rfl (TL.ncI rfl rfl rfl (xmc rfl (TL.callD [] [] (zaS hl) ⟨rfl,rfl,rfl,trivial⟩ trivial zbK rfl rfl rfl rfl rfl (kL1 rfl trivial) ?_))))))))
 refine TL.callD [] [] (zlO hl) ⟨rfl,rfl,rfl,trivial⟩ trivial zmC rfl rfl rfl rfl rfl (kL1 rfl trivial) (TL.mstore 0 hM rfl rfl rfl (by first | exact zjS _ _ _) rfl rfl rfl (kL1 rfl trivial) (TL.done ?_))
 refine FQ.end0 (Bs:=[A _]) [0] rfl rfl ⟨rfl,trivial⟩ ?_
 exact ⟨rfl,rfl⟩
theorem zhc {S:Type} [MemLike S] {mt:TypeId} {mv:Value} {A:S→Assn} (hM:MemI Tryz.prog mt mv A) {l:Lay} (hl:l.Ok) {p:Pen} {σ:S} {x:Int}:FnD Tryz.prog 188 [zaV l mt mv p,.int .i64 x] [A σ] (.int .i64 (size l σ x)) [A (zb0 l σ x)]:=by
 refine Fn.enter (Tryz.func188) rfl rfl (fun w0 R=>?_)
 refine sA (xB 1 rfl (fun bk1=>(xai rfl (dA (xL6 1 zab rfl rfl (xmi rfl (TL.callD [0] [0] (zfP hM hl) ⟨rfl,rfl,trivial⟩ ⟨rfl,trivial⟩ zgk rfl rfl rfl rfl rfl trivial (TL.and _ rfl rfl rfl rfl rfl (TL.conv _ rfl zdF zbr (rfl) rfl rfl ?_)))))))))
 refine xai rfl (dR ?_)
 refine FQ.ret1 (v:=(.int _ _)) (Bs:=[A _]) [0] rfl rfl rfl ⟨rfl,trivial⟩ ?_
 exact ⟨rfl,rfl⟩
theorem zny {S:Type} [MemLike S] {mt:TypeId} {mv:Value} {A:S→Assn} (hM:MemI Tryz.prog mt mv A) {l:Lay} (hl:l.Ok) {p:Pen} {σ:S} {x:Int}:FnD Tryz.prog 190 [zaV l mt mv p,.int .i64 x] [A σ] (.int .i64 (verts l σ x)) [A (zb0 l σ x)]:=by
 refine Fn.enter (Tryz.func190) rfl rfl (fun w0 R=>?_)
 refine sA (xB 1 rfl (fun bk1=>(xai rfl (dA (xL6 1 zab rfl rfl (xmi rfl (TL.callD [0] [0] (zfP hM hl) ⟨rfl,rfl,trivial⟩ ⟨rfl,trivial⟩ zgk rfl rfl rfl rfl rfl trivial (TL.shr _ rfl rfl (by decide) rfl rfl rfl (TL.and _ rfl rfl rfl rfl rfl ?_)))))))))
 refine TL.conv _ rfl zdF zbr (rfl) rfl rfl (xai rfl (dR ?_))
 refine FQ.ret1 (v:=(.int _ _)) (Bs:=[A _]) [0] rfl rfl rfl ⟨rfl,trivial⟩ ?_
 exact ⟨rfl,rfl⟩
theorem zed {S:Type} [MemLike S] {mt:TypeId} {mv:Value} {A:S→Assn} (hM:MemI Tryz.prog mt mv A) {l:Lay} (hl:l.Ok) {p:Pen} {σ:S} {x r:Int} {k:Nat} {σ2:S} (h:root l k σ x=some (r,σ2)):FnD Tryz.prog 86 [zaV l mt mv p,.int .i64 x] [A σ] (.int .i64 r) [A σ2]:=by
 refine Fn.enter (Tryz.func86) rfl rfl (fun w0 R=>?_)
 refine sA (xB 1 rfl (fun bk1=>(xai rfl (dS (TC.block (TC.loopK (X:=Nat×S×Int) [2,4] [1] (fun y=>[(1,.int .i64 y.2.2)]) (fun y=>[(0,A y.2.1)]) (fun y=>root l y.1 y.2.1 y.2.2=some (r,σ2)) (fun y=>y.1) ((k,σ,x)) h ⟨rfl,trivial⟩ ⟨rfl,trivial⟩ (fun y hI=>?_)))))))
 obtain ⟨k,σ1,z⟩:=y
 rcases k with _ | k
 ·simp [root] at hI
 dsimp only at hI
 refine TC.sub (env':=[(1,_),(2,_),(4,_)]) (L':=[(0,_),(1,_)]) ⟨rfl,rfl,rfl,trivial⟩ ⟨rfl,rfl,trivial⟩ (sB (xmi rfl (TL.neq rfl rfl rfl rfl (fun q1=>?_) (fun q1=>?_))))
 refine TL.done (TQ.then (TC.condT rfl (TC.skip (TQ.then (TC.block (sA (xL6 1 zab rfl rfl (xmi rfl ?_))))))))
 refine TL.callD [0] [0] (zc5 hM hl) ⟨rfl,rfl,trivial⟩ ⟨rfl,trivial⟩ zfk rfl rfl rfl rfl rfl trivial (xai rfl (dB (xmi rfl (TL.eql rfl rfl rfl rfl (fun q2=>?_) (fun q2=>?_)))))
 refine TL.done (TQ.then (TC.condT rfl (TC.exit (TQ.thenExit (TQ.blockOut rfl (TQ.thenExit (TQ.blockHere (TQ.then ?_))))))))
 refine sA (xmi rfl (xai rfl (dR ?_)))
 refine FQ.ret1 (v:=(.int _ _)) (Bs:=[A _]) [0] rfl rfl rfl ⟨rfl,trivial⟩ ?_
 rw [root,if_pos q1,if_pos q2] at hI; cases hI; exact ⟨rfl,rfl⟩
 refine TL.done (TQ.then (TC.condF rfl (TC.skip (TQ.then (TC.region (xmi rfl (xai rfl (TL.done ?_))))))))
 refine TQ.inBlock (TQ.roundK ((k,zcW l σ1 z,parent l σ1 z)) ⟨(by rw [root,if_pos q1,if_neg q2] at hI; exact hI),Nat.lt_succ_self _⟩ ⟨rfl,trivial⟩ ⟨rfl,trivial⟩ (kE2 rfl rfl trivial) (kL1 rfl trivial))
 refine dE rfl (sA (xmi rfl (xai rfl (dR ?_))))
 refine FQ.ret1 (v:=(.int _ _)) (Bs:=[A _]) [0] rfl rfl rfl ⟨rfl,trivial⟩ ?_
 rw [root,if_neg q1] at hI; cases hI; exact ⟨rfl,rfl⟩
theorem zhv {S:Type} [MemLike S] {mt:TypeId} {mv:Value} {A:S→Assn} (hM:MemI Tryz.prog mt mv A) {l:Lay} (hl:l.Ok) {p:Pen} {σ:S} {x r:Int} {k:Nat} {σ2:S} (h:index l k σ x=some (r,σ2)):FnD Tryz.prog 175 [zaV l mt mv p,.int .i64 x] [A σ] (.int .i64 r) [A σ2]:=by
 unfold index at h
 dsimp only at h
 refine Fn.enter (Tryz.func175) rfl rfl (fun w0 R=>?_)
 refine sA (xB 1 rfl (fun bk1=>(xai rfl (dS (TC.draw [(0,true),(1,true),(2,true),(3,false),(4,false),(5,true)] [1] fc_m (by kernel_rfl) (xL6 1 zab rfl rfl (xL6 1 zab rfl rfl (xmi rfl (TL.callD [0] [0] (zcA hM hl) ⟨rfl,rfl,rfl,trivial⟩ ⟨rfl,trivial⟩ zcL rfl rfl rfl rfl rfl (kL1 rfl trivial) ?_)))))))))
 refine TL.callD [0] [0] (zhc hM hl) ⟨rfl,rfl,trivial⟩ ⟨rfl,trivial⟩ zhF rfl rfl rfl rfl rfl (kL1 rfl trivial) (xai rfl (dK (TC.loopK (X:=Nat×S×Int×Int) [2] [1] (fun y=>[(1,.int .i64 y.2.2.1),(5,.int .i64 y.2.2.2)]) (fun y=>[(0,A y.2.1)]) (fun y=>zch l y.1 y.2.1 y.2.2.1 y.2.2.2=some (r,σ2)) (fun y=>y.1) ((k,_,_,_)) h ⟨rfl,rfl,trivial⟩ ⟨rfl,trivial⟩ (fun y hI=>?_))))
 obtain ⟨k,σ1,z,n⟩:=y
 rcases k with _ | k
 ·simp [zch] at hI
 dsimp only at hI
 refine TC.sub (env':=[(1,_),(5,_),(2,_)]) (L':=[(0,_),(1,_)]) ⟨rfl,rfl,rfl,trivial⟩ ⟨rfl,rfl,trivial⟩ (TC.block (sA (xL6 1 zab rfl rfl (xmi rfl (TL.callD [0] [0] (zc5 hM hl) ⟨rfl,rfl,trivial⟩ ⟨rfl,trivial⟩ zfk rfl rfl rfl rfl rfl trivial (xai rfl (dB (xmi rfl ?_))))))))
 refine TL.eql rfl rfl rfl rfl (fun q1=>?_) (fun q1=>?_)
 refine dT rfl (xmi rfl (xai rfl (dRR (TQ.blockRet (TQ.thenRet (TQ.blockRet ?_))))))
 refine FQ.ret1 (v:=(.int _ _)) (Bs:=[A _]) [0] rfl rfl rfl ⟨rfl,trivial⟩ ?_
 rw [zch,if_pos q1] at hI; cases hI; exact ⟨rfl,rfl⟩
 refine TL.done (TQ.then (TC.condF rfl (TC.skip (TQ.then (sB (xL6 1 zab rfl rfl (xmi rfl (TL.callD [0] [0] (zcA hM hl) ⟨rfl,rfl,rfl,trivial⟩ ⟨rfl,trivial⟩ zcL rfl rfl rfl rfl rfl trivial ?_))))))))
 refine xmi rfl (TL.eql rfl rfl rfl rfl (fun q2=>?_) (fun q2=>?_))
 refine TL.done (TQ.then (TC.condT rfl (TC.draw [(0,true),(1,true),(2,true),(3,true),(4,false),(5,false),(6,true),(7,true),(8,true)] [1] fc_m (by kernel_rfl) (xmi rfl (xL6 1 zab rfl rfl (xL6 1 zab rfl rfl (xmi rfl (TL.callD [0] [0] (zcA hM hl) ⟨rfl,rfl,rfl,trivial⟩ ⟨rfl,trivial⟩ zcL rfl rfl rfl rfl rfl (kL1 rfl trivial) ?_))))))))
 refine TL.callD [0] [0] (zhc hM hl) ⟨rfl,rfl,trivial⟩ ⟨rfl,trivial⟩ zhF rfl rfl rfl rfl rfl (kL1 rfl trivial) (TL.add _ rfl rfl (rfl) rfl rfl (TL.add _ rfl rfl (rfl) rfl rfl (xai rfl (dG (xmi rfl (xai rfl (TL.done (TQ.inBlock ?_))))))))
 refine TQ.roundK ((k,_,_,_)) ⟨(by rw [zch,if_neg q1] at hI; dsimp only at hI; rw [if_pos q2] at hI; exact hI),Nat.lt_succ_self _⟩ ⟨rfl,rfl,trivial⟩ ⟨rfl,trivial⟩ (kE1 rfl trivial) (kL1 rfl trivial)
 refine TL.done (TQ.then (TC.condF rfl (TC.skip (TQ.then (TC.region (xmi rfl (xai rfl (TL.done ?_))))))))
 refine TQ.inBlock (TQ.roundK ((k,_,_,_)) ⟨(by rw [zch,if_neg q1] at hI; dsimp only at hI; rw [if_neg q2] at hI; exact hI),Nat.lt_succ_self _⟩ ⟨rfl,rfl,trivial⟩ ⟨rfl,trivial⟩ (kE1 rfl trivial) (kL1 rfl trivial))
theorem zjF {S:Type} [MemLike S] {mt:TypeId} {mv:Value} {A:S→Assn} (hM:MemI Tryz.prog mt mv A) {l:Lay} (hl:l.Ok) {p:Pen} {σ:S} {x f c:Int}:FnD Tryz.prog 194 [zaV l mt mv p,.int .i64 x,.int .i64 f,.int .i64 c] [A σ] (.tuple #[]) [A (setC l p σ x f c)]:=by
 refine Fn.enter (Tryz.func194) rfl rfl (fun w0 R=>?_)
 refine sA (xB 1 rfl (fun bk1=>(dA (xL6 1 zab rfl rfl (xmi rfl (xmi rfl (xmi rfl (TL.callD [0] [0] (zg9 hM hl) ⟨rfl,rfl,rfl,rfl,trivial⟩ ⟨rfl,trivial⟩ zhI rfl rfl rfl rfl rfl trivial (dA ?_)))))))))
 refine xL6 1 zab rfl rfl (xmi rfl (xmi rfl (TL.callD [0] [0] (zf6 hM hl) ⟨rfl,rfl,rfl,trivial⟩ ⟨rfl,trivial⟩ zgo rfl rfl rfl rfl rfl trivial (TL.done (TQ.then (TC.draw [(0,true),(1,true),(2,true),(3,true),(4,false),(5,false)] [1] fc_m (by kernel_rfl) (xL6 1 zab rfl rfl (xmi rfl ?_))))))))
 refine xL6 1 zab rfl rfl (xmi rfl (TL.callD [0] [0] (zdQ hM hl) ⟨rfl,rfl,trivial⟩ ⟨rfl,trivial⟩ zfg rfl rfl rfl rfl rfl (kL1 rfl trivial) (TL.callD [0] [0] (zev hM hl) ⟨rfl,rfl,rfl,trivial⟩ ⟨rfl,trivial⟩ zgl rfl rfl rfl rfl rfl (kL1 rfl trivial) (TL.done ?_))))
 refine FQ.end0 (Bs:=[A _]) [0] rfl rfl ⟨rfl,trivial⟩ ?_
 exact ⟨rfl,(by unfold setC zfr; rfl)⟩
theorem znC {S:Type} [MemLike S] {mt:TypeId} {mv:Value} {A:S→Assn} (hM:MemI Tryz.prog mt mv A) {l:Lay} (hl:l.Ok) {p:Pen} {σ:S} {x n:Int} {r:Int×Int} {k:Nat} {σ2:S} (h:split l p k σ x n=some (r,σ2)):FnD Tryz.prog 189 [zaV l mt mv p,.int .i64 x,.int .i64 n] [A σ] (.tuple #[.int .i64 r.1,.int .i64 r.2]) [A σ2]:=by
 induction k generalizing σ x n r σ2
 case zero=>simp [split] at h
 case succ k ih =>
  refine Fn.enter (Tryz.func189) rfl rfl (fun w0 R=>?_)
  refine sA (xB 1 rfl (fun bk1=>(xai rfl (xai rfl (dB (xmi rfl (TL.eql rfl rfl rfl rfl (fun q1=>?_) (fun q1=>?_))))))))
  refine dT rfl (xai rfl (xai rfl (dRR ?_)))
  refine FQ.ret2 (v:=(.int _ _)) (x:=(.int _ _)) (Bs:=[A _]) [0] rfl rfl rfl rfl ⟨rfl,trivial⟩ ?_
  rw [split,if_pos q1] at h; cases h; exact ⟨rfl,rfl⟩
  refine dF rfl (xL6 1 zab rfl rfl (xmi rfl (TL.callD [0] [0] (zcA hM hl) ⟨rfl,rfl,rfl,trivial⟩ ⟨rfl,trivial⟩ zcL rfl rfl rfl rfl rfl trivial (xai rfl (dA (xL6 1 zab rfl rfl (xmi rfl (TL.callD [0] [0] (zhc hM hl) ⟨rfl,rfl,trivial⟩ ⟨rfl,trivial⟩ zhF rfl rfl rfl rfl rfl trivial ?_))))))))
  refine xai rfl (dB (xmi rfl (xmi rfl (TL.leq rfl rfl rfl rfl (fun q2=>?_) (fun q2=>?_)))))
  refine dT rfl (xL6 1 zab rfl rfl (xmi rfl (xmi rfl ?_)))
  rw [split,if_neg q1] at h
  dsimp only at h
  rw [if_pos q2] at h
  obtain ⟨⟨ab,σ3⟩,h1,h9⟩:=Option.bind_eq_some_iff.1 h
  refine TL.callD [0] [0] (ih h1) ⟨rfl,rfl,rfl,trivial⟩ ⟨rfl,trivial⟩ zjn rfl rfl rfl rfl rfl trivial (xmu rfl (xei rfl rfl (xei rfl rfl (xai rfl (xai rfl (dA (xL6 1 zab rfl rfl (xmi rfl ?_))))))))
  refine xmi rfl (TL.callD [0] [0] (zjF hM hl) ⟨rfl,rfl,rfl,rfl,trivial⟩ ⟨rfl,trivial⟩ zhE rfl rfl rfl rfl rfl trivial (dA (xmi rfl (xmi rfl (xai rfl (xai rfl (dRR ?_)))))))
  refine FQ.ret2 (v:=(.int _ _)) (x:=(.int _ _)) (Bs:=[A _]) [0] rfl rfl rfl rfl ⟨rfl,trivial⟩ ?_
  cases h9; exact ⟨rfl,rfl⟩
  refine TL.done (TQ.then (TC.condF rfl (TC.skip (TQ.then (TC.seq (TC.draw [(0,true),(1,true),(2,true),(4,true),(5,true),(6,true),(7,true),(3,false),(8,false),(9,true),(10,true),(11,true),(12,true),(13,true)] [1] fc_m (by kernel_rfl) (xL6 1 zab rfl rfl (xL6 1 zab rfl rfl ?_))))))))
  refine xmi rfl (xmi rfl (xmi rfl (TL.sub _ rfl rfl (rfl) rfl rfl (TL.sub _ rfl rfl (rfl) rfl rfl (TL.callD [0] [0] (zcA hM hl) ⟨rfl,rfl,rfl,trivial⟩ ⟨rfl,trivial⟩ zcL rfl rfl rfl rfl rfl (kL1 rfl trivial) ?_)))))
  rw [split,if_neg q1] at h
  dsimp only at h
  rw [if_neg q2] at h
  obtain ⟨⟨ab,σ3⟩,h1,h9⟩:=Option.bind_eq_some_iff.1 h
  refine TL.callD [0] [0] (ih h1) ⟨rfl,rfl,rfl,trivial⟩ ⟨rfl,trivial⟩ zjn rfl rfl rfl rfl rfl (kL1 rfl trivial) (xmu rfl (xei rfl rfl (xei rfl rfl (xai rfl (xai rfl (dA (xL6 1 zab rfl rfl (xmi rfl ?_))))))))
  refine xmi rfl (TL.callD [0] [0] (zjF hM hl) ⟨rfl,rfl,rfl,rfl,trivial⟩ ⟨rfl,trivial⟩ zhE rfl rfl rfl rfl rfl trivial (dA (xmi rfl (xmi rfl (xai rfl (xai rfl (dR ?_)))))))
  refine FQ.ret2 (v:=(.int _ _)) (x:=(.int _ _)) (Bs:=[A _]) [0] rfl rfl rfl rfl ⟨rfl,trivial⟩ ?_
  cases h9; exact ⟨rfl,rfl⟩
theorem zbR {S:Type} [MemLike S] {mt:TypeId} {mv:Value} {A:S→Assn} (hM:MemI Tryz.prog mt mv A) {l:Lay} (hl:l.Ok) {p:Pen} {σ:S} {x n:Int} {r:Int×Int} {k:Nat} {σ2:S} (h:zd4 l p k σ x n=some (r,σ2)):FnD Tryz.prog 176 [zaV l mt mv p,.int .i64 x,.int .i64 n] [A σ] (.tuple #[.int .i64 r.1,.int .i64 r.2]) [A σ2]:=by
 obtain ⟨⟨ab,σ3⟩,h1,h9⟩:=Option.bind_eq_some_iff.1 h
 cases h9
 refine Fn.enter (Tryz.func176) rfl rfl (fun w0 R=>?_)
 refine sA (xB 1 rfl (fun bk1=>(xai rfl (xai rfl (dS (TC.draw [(0,true),(1,true),(2,true),(3,true),(4,true),(5,true),(6,false),(7,true),(8,false),(9,true),(10,true),(11,true),(12,true),(13,true)] [1] fc_m (by kernel_rfl) (xL6 1 zab rfl rfl (xmi rfl (xmi rfl ?_)))))))))
 refine TL.max2 rfl rfl rfl rfl (xL6 1 zab rfl rfl (xmi rfl (TL.callD [0] [0] (zhc hM hl) ⟨rfl,rfl,trivial⟩ ⟨rfl,trivial⟩ zhF rfl rfl rfl rfl rfl (kL1 rfl trivial) (TL.min2 rfl rfl rfl rfl (TL.callD [0] [0] (znC hM hl h1) ⟨rfl,rfl,rfl,trivial⟩ ⟨rfl,trivial⟩ zjn rfl rfl rfl rfl rfl (kL1 rfl trivial) (xmu rfl (xei rfl rfl (xei rfl rfl ?_))))))))
 refine xai rfl (xai rfl (dA (xL6 1 zab rfl rfl (xmi rfl (TL.callD [0] [0] (zf6 hM hl) ⟨rfl,rfl,rfl,trivial⟩ ⟨rfl,trivial⟩ zgo rfl rfl rfl rfl rfl trivial (dA (xL6 1 zab rfl rfl (xmi rfl ?_))))))))
 refine TL.callD [0] [0] (zf6 hM hl) ⟨rfl,rfl,rfl,trivial⟩ ⟨rfl,trivial⟩ zgo rfl rfl rfl rfl rfl trivial (dA (xmi rfl (xmi rfl (xai rfl (xai rfl (dR ?_))))))
 refine FQ.ret2 (v:=(.int _ _)) (x:=(.int _ _)) (Bs:=[A _]) [0] rfl rfl rfl rfl ⟨rfl,trivial⟩ ?_
 exact ⟨rfl,rfl⟩
theorem zoq {S:Type} [MemLike S] {mt:TypeId} {mv:Value} {A:S→Assn} (hM:MemI Tryz.prog mt mv A) {l:Lay} (hl:l.Ok) {p:Pen} {σ:S} {x y:Int}:FnD Tryz.prog 193 [zaV l mt mv p,.int .i64 x,.int .i64 y] [A σ] (.bool (zfp l σ x y)) [A (zkl l σ x y)]:=by
 refine Fn.enter (Tryz.func193) rfl rfl (fun w0 R=>?_)
 refine sA (xB 1 rfl (fun bk1=>(xaf rfl (dS (TC.draw [(0,true),(1,true),(2,true),(3,true),(4,true),(6,true),(7,true),(9,true),(10,true),(11,true),(12,true),(13,true),(15,true),(16,true),(5,false),(8,false),(14,false),(17,false),(18,true),(19,true)] [1] fc_m (by kernel_rfl) (xf 3 zaT rfl (xlc 1 zbg rfl rfl (xf 0 zav rfl (xL3 1 zaa rfl rfl ?_)))))))))
 refine xmi rfl (TL.ncI rfl rfl rfl (xmc rfl (xf 3 zaT rfl (xlc 1 zbg rfl rfl (xf 0 zav rfl (xL3 1 zaa rfl rfl (xmi rfl (TL.ncI rfl rfl rfl ?_))))))))
 refine xmc rfl (TL.callD [] [] (zaS hl) ⟨rfl,rfl,rfl,trivial⟩ trivial zbK rfl rfl rfl rfl rfl (kL1 rfl trivial) (TL.mload 0 hM rfl rfl rfl rfl rfl (kL1 rfl trivial) (TL.callD [] [] (zaS hl) ⟨rfl,rfl,rfl,trivial⟩ trivial zbK rfl rfl rfl rfl rfl (kL1 rfl trivial) (TL.mload 0 hM rfl rfl rfl rfl rfl (kL1 rfl trivial) (xai rfl (xai rfl (dA (xmi rfl ?_))))))))
 refine xmi rfl (TL.gtr rfl rfl rfl rfl (fun q1=>?_) (fun q1=>?_))
 refine xmt rfl (xo rfl (xo rfl (xo rfl (xo rfl (xo rfl (xo rfl (xo rfl (xo rfl ?_))))))))
 refine xpT rfl (xat rfl (dR ?_))
 refine FQ.ret1 (v:=(.bool true)) (Bs:=[A _]) [0] rfl rfl rfl ⟨rfl,trivial⟩ ?_
 first | exact ⟨(by unfold zfp; dsimp only; rw [if_pos q1]),rfl⟩ | exact ⟨(by unfold zfp; dsimp only; rw [if_neg q1,if_pos q2]),rfl⟩ | exact ⟨(by unfold zfp; dsimp only; rw [if_neg q1,if_neg q2]),rfl⟩
 refine xmf rfl (xmi rfl (xmi rfl (TL.eql rfl rfl rfl rfl (fun q2=>?_) (fun q2=>?_))))
 refine xmt rfl (xmi rfl (xmi rfl (TL.lssV rfl rfl rfl rfl (TL.pickT (.bool _) rfl rfl rfl rfl (TL.pickF (.bool _) rfl rfl rfl rfl (xab rfl (dR ?_)))))))
 refine FQ.ret1 (v:=(.bool _)) (Bs:=[A _]) [0] rfl rfl rfl ⟨rfl,trivial⟩ ?_
 first | exact ⟨(by unfold zfp; dsimp only; rw [if_pos q1]),rfl⟩ | exact ⟨(by unfold zfp; dsimp only; rw [if_neg q1,if_pos q2]),rfl⟩ | exact ⟨(by unfold zfp; dsimp only; rw [if_neg q1,if_neg q2]),rfl⟩
 refine xmf rfl (xo rfl (xo rfl (xo rfl (xpF rfl (xpF rfl (xaf rfl (dR ?_)))))))
 refine FQ.ret1 (v:=(.bool false)) (Bs:=[A _]) [0] rfl rfl rfl ⟨rfl,trivial⟩ ?_
 first | exact ⟨(by unfold zfp; dsimp only; rw [if_pos q1]),rfl⟩ | exact ⟨(by unfold zfp; dsimp only; rw [if_neg q1,if_pos q2]),rfl⟩ | exact ⟨(by unfold zfp; dsimp only; rw [if_neg q1,if_neg q2]),rfl⟩
theorem znZ {S:Type} [MemLike S] {mt:TypeId} {mv:Value} {A:S→Assn} (hM:MemI Tryz.prog mt mv A) {l:Lay} (hl:l.Ok) {p:Pen} {σ:S} {a b r:Int} {k:Nat} {σ2:S} (h:merge l p k σ a b=some (r,σ2)):FnD Tryz.prog 185 [zaV l mt mv p,.int .i64 a,.int .i64 b] [A σ] (.int .i64 r) [A σ2]:=by
 induction k generalizing σ a b r σ2
 case zero=>simp [merge] at h
 case succ k ih =>
  refine Fn.enter (Tryz.func185) rfl rfl (fun w0 R=>?_)
  refine sA (xB 1 rfl (fun bk1=>(xai rfl (dS (TC.block (sA (xmi rfl (TL.eql rfl rfl rfl rfl (fun q1=>?_) (fun q1=>?_)))))))))
  refine xat rfl (dT rfl (xmi rfl (xai rfl (dR (TQ.blockRet (TQ.thenRet ?_))))))
  refine FQ.ret1 (v:=(.int _ _)) (Bs:=[A _]) [0] rfl rfl rfl ⟨rfl,trivial⟩ ?_
  rw [merge,if_pos q1] at h; cases h; exact ⟨rfl,rfl⟩
  refine xaf rfl (TL.done (TQ.then (TC.condF rfl (sA (xmi rfl (TL.eql rfl rfl rfl rfl (fun q2=>?_) (fun q2=>?_)))))))
  refine xat rfl (dT rfl (xmi rfl (xai rfl (dR (TQ.blockRet (TQ.thenRet ?_))))))
  refine FQ.ret1 (v:=(.int _ _)) (Bs:=[A _]) [0] rfl rfl rfl ⟨rfl,trivial⟩ ?_
  rw [merge,if_neg q1,if_pos q2] at h; cases h; exact ⟨rfl,rfl⟩
  refine xaf rfl (TL.done (TQ.then (TC.condF rfl (sA (xL6 1 zab rfl rfl (xmi rfl (xmi rfl (TL.callD [0] [0] (zoq hM hl) ⟨rfl,rfl,rfl,trivial⟩ ⟨rfl,trivial⟩ zpY rfl rfl rfl rfl rfl trivial ?_))))))))
  refine TL.cases rfl (fun q3=>?_) (fun q3=>?_)
  refine xat rfl (TL.done (TQ.then (TC.condT rfl (TC.seq (TC.draw [(0,true),(1,true),(2,true),(3,true),(4,true),(6,true),(5,false),(7,false),(8,false)] [1] fc_m (by kernel_rfl) (xL6 1 zab rfl rfl (xmi rfl (xL6 1 zab rfl rfl ?_))))))))
  refine xL6 1 zab rfl rfl (xmi rfl (xmi rfl (TL.callD [0] [0] (zcA hM hl) ⟨rfl,rfl,rfl,trivial⟩ ⟨rfl,trivial⟩ zcL rfl rfl rfl rfl rfl (kL1 rfl trivial) ?_)))
  rw [merge,if_neg q1,if_neg q2] at h
  dsimp only at h
  rw [if_pos q3] at h
  obtain ⟨⟨c,σ3⟩,h1,h9⟩:=Option.bind_eq_some_iff.1 h
  refine TL.callD [0] [0] (ih h1) ⟨rfl,rfl,rfl,trivial⟩ ⟨rfl,trivial⟩ zjo rfl rfl rfl rfl rfl (kL1 rfl trivial) (TL.callD [0] [0] (zjF hM hl) ⟨rfl,rfl,rfl,rfl,trivial⟩ ⟨rfl,trivial⟩ zhE rfl rfl rfl rfl rfl (kL1 rfl trivial) (dA (xmi rfl (xai rfl (dR (TQ.blockRet (TQ.thenRet ?_)))))))
  refine FQ.ret1 (v:=(.int _ _)) (Bs:=[A _]) [0] rfl rfl rfl ⟨rfl,trivial⟩ ?_
  cases h9; exact ⟨rfl,rfl⟩
  refine xaf rfl (TL.done (TQ.then (TC.condF rfl (TC.skip (TQ.inBlock (TQ.then (TC.seq (TC.draw [(0,true),(1,true),(2,true),(3,true),(4,true),(5,true),(6,false),(7,false),(8,false)] [1] fc_m (by kernel_rfl) ?_))))))))
  refine xL6 1 zab rfl rfl (xmi rfl (xL6 1 zab rfl rfl (xmi rfl (xL6 1 zab rfl rfl (xmi rfl (TL.callD [0] [0] (zcA hM hl) ⟨rfl,rfl,rfl,trivial⟩ ⟨rfl,trivial⟩ zcL rfl rfl rfl rfl rfl (kL1 rfl trivial) ?_))))))
  rw [merge,if_neg q1,if_neg q2] at h
  dsimp only at h
  rw [if_neg (by rw [q3]; decide)] at h
  obtain ⟨⟨c,σ3⟩,h1,h9⟩:=Option.bind_eq_some_iff.1 h
  refine TL.callD [0] [0] (ih h1) ⟨rfl,rfl,rfl,trivial⟩ ⟨rfl,trivial⟩ zjo rfl rfl rfl rfl rfl (kL1 rfl trivial) (TL.callD [0] [0] (zjF hM hl) ⟨rfl,rfl,rfl,rfl,trivial⟩ ⟨rfl,trivial⟩ zhE rfl rfl rfl rfl rfl (kL1 rfl trivial) (dA (xmi rfl (xai rfl (dR ?_)))))
  refine FQ.ret1 (v:=(.int _ _)) (Bs:=[A _]) [0] rfl rfl rfl ⟨rfl,trivial⟩ ?_
  cases h9; exact ⟨rfl,rfl⟩
theorem zc7 {S:Type} [MemLike S] {mt:TypeId} {mv:Value} {A:S→Assn} (hM:MemI Tryz.prog mt mv A) {l:Lay} (hl:l.Ok) {p:Pen} {σ:S} {a b r:Int} {k:Nat} {σ2:S} (h:zd5 l p k σ a b=some (r,σ2)):FnD Tryz.prog 171 [zaV l mt mv p,.int .i64 a,.int .i64 b] [A σ] (.int .i64 r) [A σ2]:=by
 obtain ⟨⟨c,σ3⟩,h1,h9⟩:=Option.bind_eq_some_iff.1 h
 cases h9
 refine Fn.enter (Tryz.func171) rfl rfl (fun w0 R=>?_)
 refine sA (xB 1 rfl (fun bk1=>(xai rfl (dA (xL6 1 zab rfl rfl (xmi rfl (xmi rfl (TL.callD [0] [0] (znZ hM hl h1) ⟨rfl,rfl,rfl,trivial⟩ ⟨rfl,trivial⟩ zjo rfl rfl rfl rfl rfl trivial (xai rfl ?_)))))))))
 refine dA (xL6 1 zab rfl rfl (xmi rfl (TL.callD [0] [0] (zf6 hM hl) ⟨rfl,rfl,rfl,trivial⟩ ⟨rfl,trivial⟩ zgo rfl rfl rfl rfl rfl trivial (dA (xmi rfl (xai rfl (dR ?_)))))))
 refine FQ.ret1 (v:=(.int _ _)) (Bs:=[A _]) [0] rfl rfl rfl ⟨rfl,trivial⟩ ?_
 exact ⟨rfl,rfl⟩
theorem zlK {S:Type} [MemLike S] {mt:TypeId} {mv:Value} {A:S→Assn} (hM:MemI Tryz.prog mt mv A) {l:Lay} (hl:l.Ok) {p:Pen} {σ:S} {x m:Int} {k:Nat} {σ2:S} (h0:0≤m) (h:zf4 l k σ x m true=some σ2):FnD Tryz.prog 173 [zaV l mt mv p,.int .i64 x,.int .i64 m,.bool true] [A σ] (.tuple #[]) [A σ2]:=by
 unfold zf4 at h
 dsimp only [zhq] at h
 simp only [if_true,Bool.false_eq_true,if_false] at h
 refine Fn.enter (Tryz.func173) rfl rfl (fun w0 R=>?_)
 refine sA (xB 1 rfl (fun bk1=>(dS (TC.draw [(0,true),(1,true),(3,true),(4,true),(2,false),(5,true),(6,true)] [1] fc_m (by kernel_rfl) (xL6 1 zab rfl rfl (xmi rfl (xmi rfl (TL.shl _ rfl rfl (by omega) rfl rfl rfl (TL.callD [0] [0] (zdQ hM hl) ⟨rfl,rfl,trivial⟩ ⟨rfl,trivial⟩ zfg rfl rfl rfl rfl rfl (kL1 rfl trivial) ?_)))))))))
 refine TL.andNot _ rfl rfl rfl rfl rfl (xai rfl (dB (xmt rfl (TL.done (TQ.then (TC.condT rfl (TC.region (xmi rfl ?_))))))))
 refine xmi rfl (TL.shl _ rfl rfl (by omega) rfl rfl rfl (TL.or _ rfl rfl rfl rfl rfl (xai rfl (dA (xL6 1 zab rfl rfl (xmi rfl (xmi rfl (TL.callD [0] [0] (zev hM hl) ⟨rfl,rfl,rfl,trivial⟩ ⟨rfl,trivial⟩ zgl rfl rfl rfl rfl rfl trivial ?_))))))))
 refine dA (xL6 1 zab rfl rfl (xmi rfl (TL.callD [0] [0] (zc5 hM hl) ⟨rfl,rfl,trivial⟩ ⟨rfl,trivial⟩ zfk rfl rfl rfl rfl rfl trivial (xai rfl (dK (TC.loopK (X:=Nat×S×Int) [4] [1] (fun y=>[(9,.int .i64 y.2.2)]) (fun y=>[(0,A y.2.1)]) (fun y=>zbT l y.1 y.2.1 y.2.2=some σ2) (fun y=>y.1) ((k,_,_)) h ⟨rfl,trivial⟩ ⟨rfl,trivial⟩ (fun y hI=>?_)))))))
 obtain ⟨k,σ1,z⟩:=y
 rcases k with _ | k
 ·simp [zbT] at hI
 dsimp only at hI
 refine TC.sub (env':=[(9,_),(4,_)]) (L':=[(0,_),(1,_)]) ⟨rfl,rfl,trivial⟩ ⟨rfl,rfl,trivial⟩ (sB (xmi rfl (TL.neq rfl rfl rfl rfl (fun q1=>?_) (fun q1=>?_))))
 refine TL.done (TQ.then (TC.condT rfl (TC.skip (TQ.then (TC.seq (TC.block (TC.draw [(0,true),(1,true),(2,true),(3,true),(4,false),(5,false)] [1] fc_m (by kernel_rfl) (xL6 1 zab rfl rfl ?_))))))))
 refine xmi rfl (xL6 1 zab rfl rfl (xmi rfl (TL.callD [0] [0] (zdQ hM hl) ⟨rfl,rfl,trivial⟩ ⟨rfl,trivial⟩ zfg rfl rfl rfl rfl rfl (kL1 rfl trivial) (TL.callD [0] [0] (zev hM hl) ⟨rfl,rfl,rfl,trivial⟩ ⟨rfl,trivial⟩ zgl rfl rfl rfl rfl rfl (kL1 rfl trivial) (dI (xL6 1 zab rfl rfl (xmi rfl (TL.callD [0] [0] (zc5 hM hl) ⟨rfl,rfl,trivial⟩ ⟨rfl,trivial⟩ zfk rfl rfl rfl rfl rfl trivial ?_))))))))
 refine xai rfl (TL.done (TQ.roundK ((k,_,_)) ⟨(by rw [zbT,if_pos q1] at hI; exact hI),Nat.lt_succ_self _⟩ ⟨rfl,trivial⟩ ⟨rfl,trivial⟩ (kE1 rfl trivial) (kL1 rfl trivial)))
 refine TL.done (TQ.then (TC.condF rfl (TC.exit (TQ.thenExit (TQ.thenExit (TQ.blockHere ?_))))))
 refine FQ.end0 (Bs:=[A _]) [0] rfl rfl ⟨rfl,trivial⟩ ?_
 rw [zbT,if_neg q1] at hI; cases hI; exact ⟨rfl,rfl⟩
theorem zkA {S:Type} [MemLike S] {mt:TypeId} {mv:Value} {A:S→Assn} (hM:MemI Tryz.prog mt mv A) {l:Lay} (hl:l.Ok) {p:Pen} {σ:S} {x m:Int} {k:Nat} {σ2:S} (h0:0≤m) (h:zf4 l k σ x m false=some σ2):FnD Tryz.prog 173 [zaV l mt mv p,.int .i64 x,.int .i64 m,.bool false] [A σ] (.tuple #[]) [A σ2]:=by
 unfold zf4 at h
 dsimp only [zhq] at h
 simp only [if_true,Bool.false_eq_true,if_false] at h
 refine Fn.enter (Tryz.func173) rfl rfl (fun w0 R=>?_)
 refine sA (xB 1 rfl (fun bk1=>(dS (TC.draw [(0,true),(1,true),(3,true),(4,true),(2,false),(5,true),(6,true)] [1] fc_m (by kernel_rfl) (xL6 1 zab rfl rfl (xmi rfl (xmi rfl (TL.shl _ rfl rfl (by omega) rfl rfl rfl (TL.callD [0] [0] (zdQ hM hl) ⟨rfl,rfl,trivial⟩ ⟨rfl,trivial⟩ zfg rfl rfl rfl rfl rfl (kL1 rfl trivial) ?_)))))))))
 refine TL.andNot _ rfl rfl rfl rfl rfl (xai rfl (dB (xmf rfl (dF rfl (xL6 1 zab rfl rfl (xmi rfl (xmi rfl (TL.callD [0] [0] (zev hM hl) ⟨rfl,rfl,rfl,trivial⟩ ⟨rfl,trivial⟩ zgl rfl rfl rfl rfl rfl trivial ?_))))))))
 refine dA (xL6 1 zab rfl rfl (xmi rfl (TL.callD [0] [0] (zc5 hM hl) ⟨rfl,rfl,trivial⟩ ⟨rfl,trivial⟩ zfk rfl rfl rfl rfl rfl trivial (xai rfl (dK (TC.loopK (X:=Nat×S×Int) [4] [1] (fun y=>[(9,.int .i64 y.2.2)]) (fun y=>[(0,A y.2.1)]) (fun y=>zbT l y.1 y.2.1 y.2.2=some σ2) (fun y=>y.1) ((k,_,_)) h ⟨rfl,trivial⟩ ⟨rfl,trivial⟩ (fun y hI=>?_)))))))
 obtain ⟨k,σ1,z⟩:=y
 rcases k with _ | k
 ·simp [zbT] at hI
 dsimp only at hI
 refine TC.sub (env':=[(9,_),(4,_)]) (L':=[(0,_),(1,_)]) ⟨rfl,rfl,trivial⟩ ⟨rfl,rfl,trivial⟩ (sB (xmi rfl (TL.neq rfl rfl rfl rfl (fun q1=>?_) (fun q1=>?_))))
 refine TL.done (TQ.then (TC.condT rfl (TC.skip (TQ.then (TC.seq (TC.block (TC.draw [(0,true),(1,true),(2,true),(3,true),(4,false),(5,false)] [1] fc_m (by kernel_rfl) (xL6 1 zab rfl rfl ?_))))))))
 refine xmi rfl (xL6 1 zab rfl rfl (xmi rfl (TL.callD [0] [0] (zdQ hM hl) ⟨rfl,rfl,trivial⟩ ⟨rfl,trivial⟩ zfg rfl rfl rfl rfl rfl (kL1 rfl trivial) (TL.callD [0] [0] (zev hM hl) ⟨rfl,rfl,rfl,trivial⟩ ⟨rfl,trivial⟩ zgl rfl rfl rfl rfl rfl (kL1 rfl trivial) (dI (xL6 1 zab rfl rfl (xmi rfl (TL.callD [0] [0] (zc5 hM hl) ⟨rfl,rfl,trivial⟩ ⟨rfl,trivial⟩ zfk rfl rfl rfl rfl rfl trivial ?_))))))))
 refine xai rfl (TL.done (TQ.roundK ((k,_,_)) ⟨(by rw [zbT,if_pos q1] at hI; exact hI),Nat.lt_succ_self _⟩ ⟨rfl,trivial⟩ ⟨rfl,trivial⟩ (kE1 rfl trivial) (kL1 rfl trivial)))
 refine TL.done (TQ.then (TC.condF rfl (TC.exit (TQ.thenExit (TQ.thenExit (TQ.blockHere ?_))))))
 refine FQ.end0 (Bs:=[A _]) [0] rfl rfl ⟨rfl,trivial⟩ ?_
 rw [zbT,if_neg q1] at hI; cases hI; exact ⟨rfl,rfl⟩
theorem zlL {S:Type} [MemLike S] {mt:TypeId} {mv:Value} {A:S→Assn} (hM:MemI Tryz.prog mt mv A) {l:Lay} (hl:l.Ok) {p:Pen} {σ:S} {x m:Int} {on:Bool} {k:Nat} {σ2:S} (h0:0≤m) (h:zf4 l k σ x m on=some σ2):FnD Tryz.prog 173 [zaV l mt mv p,.int .i64 x,.int .i64 m,.bool on] [A σ] (.tuple #[]) [A σ2]:=by
 cases on
 ·exact zkA hM hl h0 h
 ·exact zlK hM hl h0 h
theorem zif {S:Type} [MemLike S] {mt:TypeId} {mv:Value} {A:S→Assn} (hM:MemI Tryz.prog mt mv A) {l:Lay} (hl:l.Ok) {p:Pen} {σ:S} {x m:Int} (h0:0≤m):FnD Tryz.prog 184 [zaV l mt mv p,.int .i64 x,.int .i64 m] [A σ] (.bool (zgT l σ x m)) [A (zfr l σ x)]:=by
 refine Fn.enter (Tryz.func184) rfl rfl (fun w0 R=>?_)
 refine sA (xB 1 rfl (fun bk1=>(xaf rfl (dA (xL6 1 zab rfl rfl (xmi rfl (TL.callD [0] [0] (zdQ hM hl) ⟨rfl,rfl,trivial⟩ ⟨rfl,trivial⟩ zfg rfl rfl rfl rfl rfl trivial (xmi rfl (TL.shr _ rfl rfl (by omega) rfl rfl rfl ?_)))))))))
 refine TL.and _ rfl rfl rfl rfl rfl (TL.eqlV rfl rfl rfl rfl (xab rfl (dR ?_)))
 refine FQ.ret1 (v:=(.bool _)) (Bs:=[A _]) [0] rfl rfl rfl ⟨rfl,trivial⟩ ?_
 exact ⟨rfl,rfl⟩
theorem zoH {S:Type} [MemLike S] {mt:TypeId} {mv:Value} {A:S→Assn} (hM:MemI Tryz.prog mt mv A) {l:Lay} (hl:l.Ok) {p:Pen} {σ:S} {x m:Int} (h0:0≤m):FnD Tryz.prog 197 [zaV l mt mv p,.int .i64 x,.int .i64 m] [A σ] (.bool (has l σ x m)) [A (zb0 l σ x)]:=by
 refine Fn.enter (Tryz.func197) rfl rfl (fun w0 R=>?_)
 refine sA (xB 1 rfl (fun bk1=>(xaf rfl (dA (xL6 1 zab rfl rfl (xmi rfl (TL.callD [0] [0] (zfP hM hl) ⟨rfl,rfl,trivial⟩ ⟨rfl,trivial⟩ zgk rfl rfl rfl rfl rfl trivial (TL.shr _ rfl rfl (by decide) rfl rfl rfl (xmi rfl ?_)))))))))
 refine TL.shr _ rfl rfl (by omega) rfl rfl rfl (TL.and _ rfl rfl rfl rfl rfl (TL.eqlV rfl rfl rfl rfl (xab rfl (dR ?_))))
 refine FQ.ret1 (v:=(.bool _)) (Bs:=[A _]) [0] rfl rfl rfl ⟨rfl,trivial⟩ ?_
 exact ⟨rfl,rfl⟩
theorem zn8 {S:Type} [MemLike S] {mt:TypeId} {mv:Value} {A:S→Assn} (hM:MemI Tryz.prog mt mv A) {l:Lay} (hl:l.Ok) {p:Pen} {σ:S} {x m r:Int} {k:Nat} {σ2:S} (h0:0≤m) (h:first l k σ x m=some (r,σ2)):FnD Tryz.prog 191 [zaV l mt mv p,.int .i64 x,.int .i64 m] [A σ] (.int .i64 r) [A σ2]:=by
 unfold first at h
 refine Fn.enter (Tryz.func191) rfl rfl (fun w0 R=>?_)
 refine sA (xB 1 rfl (fun bk1=>(xai rfl (dA (xmi rfl (xai rfl (dB (xL6 1 zab rfl rfl (xmi rfl ?_)))))))))
 refine xmi rfl (TL.callD [0] [0] (zoH hM hl h0) ⟨rfl,rfl,rfl,trivial⟩ ⟨rfl,trivial⟩ zms rfl rfl rfl rfl rfl trivial (TL.cases rfl (fun q1=>?_) (fun q1=>?_)))
 refine xnt rfl (TL.done (TQ.then (TC.condF rfl (TC.skip (TQ.then (TC.block (TC.loopK (X:=Nat×S×Int) [2,3] [1] (fun y=>[(7,.int .i64 y.2.2)]) (fun y=>[(0,A y.2.1)]) (fun y=>zcR l m y.1 y.2.1 y.2.2=some (r,σ2)) (fun y=>y.1) ((k,_,x)) (by rw [if_pos q1] at h; exact h) ⟨rfl,trivial⟩ ⟨rfl,trivial⟩ (fun y hI=>?_))))))))
 obtain ⟨k,σ1,z⟩:=y
 rcases k with _ | k
 ·simp [zcR] at hI
 dsimp only at hI
 refine TC.sub (env':=[(7,_),(2,_),(3,_)]) (L':=[(0,_),(1,_)]) ⟨rfl,rfl,rfl,trivial⟩ ⟨rfl,rfl,trivial⟩ (TC.block (sA (xL6 1 zab rfl rfl (xmi rfl (TL.callD [0] [0] (zcA hM hl) ⟨rfl,rfl,rfl,trivial⟩ ⟨rfl,trivial⟩ zcL rfl rfl rfl rfl rfl trivial (xai rfl (dK (sA ?_))))))))
 refine xL6 1 zab rfl rfl (xmi rfl (xmi rfl (TL.callD [0] [0] (zoH hM hl h0) ⟨rfl,rfl,rfl,trivial⟩ ⟨rfl,trivial⟩ zms rfl rfl rfl rfl rfl trivial (TL.cases rfl (fun q2=>?_) (fun q2=>?_)))))
 refine xat rfl (TL.done (TQ.then (TC.condT rfl (TC.region (xmi rfl (xai rfl (TL.done (TQ.inBlock ?_))))))))
 refine TQ.inBlock (TQ.roundK ((k,_,_)) ⟨(by rw [zcR] at hI; dsimp only at hI; rw [if_pos q2] at hI; exact hI),Nat.lt_succ_self _⟩ ⟨rfl,trivial⟩ ⟨rfl,trivial⟩ (kE2 rfl rfl trivial) (kL1 rfl trivial))
 refine xaf rfl (TL.done (TQ.then (TC.condF rfl (sA (xL6 1 zab rfl rfl (xmi rfl (xmi rfl (TL.callD [0] [0] (zif hM hl h0) ⟨rfl,rfl,rfl,trivial⟩ ⟨rfl,trivial⟩ zmu rfl rfl rfl rfl rfl trivial ?_))))))))
 refine TL.cases rfl (fun q3=>?_) (fun q3=>?_)
 refine xat rfl (dT rfl (xmi rfl (xai rfl (dR (TQ.blockRet (TQ.blockRet (TQ.thenRet (TQ.blockRet ?_))))))))
 refine FQ.ret1 (v:=(.int _ _)) (Bs:=[A _]) [0] rfl rfl rfl ⟨rfl,trivial⟩ ?_
 rw [zcR] at hI; dsimp only at hI; rw [if_neg (by rw [q2]; decide),if_pos q3] at hI; cases hI; exact ⟨rfl,rfl⟩
 refine xaf rfl (TL.done (TQ.then (TC.condF rfl (TC.region (xL6 1 zab rfl rfl (xmi rfl (TL.callD [0] [0] (zcA hM hl) ⟨rfl,rfl,rfl,trivial⟩ ⟨rfl,trivial⟩ zcL rfl rfl rfl rfl rfl trivial (xai rfl ?_))))))))
 refine TL.done (TQ.inBlock (TQ.inBlock (TQ.roundK ((k,_,_)) ⟨(by rw [zcR] at hI; dsimp only at hI; rw [if_neg (by rw [q2]; decide),if_neg (by rw [q3]; decide)] at hI; exact hI),Nat.lt_succ_self _⟩ ⟨rfl,trivial⟩ ⟨rfl,trivial⟩ (kE2 rfl rfl trivial) (kL1 rfl trivial))))
 refine xnf rfl (dT rfl (xai rfl (dRR ?_)))
 refine FQ.ret1 (v:=(.int _ _)) (Bs:=[A _]) [0] rfl rfl rfl ⟨rfl,trivial⟩ ?_
 rw [if_neg (by rw [q1]; decide)] at h; cases h; exact ⟨rfl,rfl⟩
theorem zkh {S:Type} [MemLike S] {mt:TypeId} {mv:Value} {A:S→Assn} (hM:MemI Tryz.prog mt mv A) {l:Lay} (hl:l.Ok) {p:Pen} {σ:S} {i u r:Int} {k:Nat} {σ2:S} (h:zgx l p k σ i u=some (r,σ2)):FnD Tryz.prog 172 [zaV l mt mv p,.int .i64 i,.int .i64 u] [A σ] (.int .i64 r) [A σ2]:=by
 unfold zgx at h
 dsimp only at h
 obtain ⟨⟨a,σa⟩,h1,h⟩:=Option.bind_eq_some_iff.1 h
 obtain ⟨⟨j,σb⟩,h2,h⟩:=Option.bind_eq_some_iff.1 h
 obtain ⟨⟨s,σc⟩,h3,h4⟩:=Option.bind_eq_some_iff.1 h
 dsimp only at h1 h2 h3 h4
 refine Fn.enter (Tryz.func172) rfl rfl (fun w0 R=>?_)
 refine sA (xB 1 rfl (fun bk1=>(xai rfl (dA (xf 0 zai rfl (xf 0 zav rfl (xL3 1 zaa rfl rfl (xmi rfl (xmi rfl ?_)))))))))
 refine TL.callD [] [] (zcd hl) ⟨rfl,rfl,rfl,trivial⟩ trivial zfw rfl rfl rfl rfl rfl trivial (xai rfl (dS (TC.draw [(0,true),(1,true),(2,true),(3,true),(4,true),(6,true),(7,true),(8,true),(5,false),(9,false),(10,false),(11,true),(12,true),(13,true),(14,true),(15,true)] [1] fc_m (by kernel_rfl) (xf 0 zai rfl (xL6 1 zab rfl rfl (xf 0 zai rfl (xL6 1 zab rfl rfl (xmi rfl ?_))))))))
 refine xf 0 zai rfl (xL6 1 zab rfl rfl (xmi rfl (TL.callD [0] [0] (zed hM hl h1) ⟨rfl,rfl,trivial⟩ ⟨rfl,trivial⟩ zgi rfl rfl rfl rfl rfl (kL1 rfl trivial) (TL.callD [0] [0] (zhv hM hl h2) ⟨rfl,rfl,trivial⟩ ⟨rfl,trivial⟩ zjp rfl rfl rfl rfl rfl (kL1 rfl trivial) (TL.callD [0] [0] (zbR hM hl h3) ⟨rfl,rfl,rfl,trivial⟩ ⟨rfl,trivial⟩ zdn rfl rfl rfl rfl rfl (kL1 rfl trivial) (xmu rfl (xei rfl rfl (xei rfl rfl ?_))))))))
 refine xai rfl (xai rfl (dA (xf 0 zai rfl (xL6 1 zab rfl rfl (xmi rfl (xmi rfl (TL.callD [0] [0] (zc7 hM hl h4) ⟨rfl,rfl,rfl,trivial⟩ ⟨rfl,trivial⟩ zfh rfl rfl rfl rfl rfl trivial (xai rfl ?_))))))))
 refine dR ?_
 refine FQ.ret1 (v:=(.int _ _)) (Bs:=[A _]) [0] rfl rfl rfl ⟨rfl,trivial⟩ ?_
 exact ⟨rfl,rfl⟩
theorem zll {S:Type} [MemLike S] {mt:TypeId} {mv:Value} {A:S→Assn} (hM:MemI Tryz.prog mt mv A) {l:Lay} (hl:l.Ok) {p:Pen} {σ:S} {i u v:Int} {b:Bool} {k:Nat} {σ2:S} (h:same l k σ i u v=some (b,σ2)):FnD Tryz.prog 100 [zaV l mt mv p,.int .i64 i,.int .i64 u,.int .i64 v] [A σ] (.bool b) [A σ2]:=by
 unfold same at h
 obtain ⟨⟨a,σa⟩,h1,h⟩:=Option.bind_eq_some_iff.1 h
 obtain ⟨⟨c,σb⟩,h2,h⟩:=Option.bind_eq_some_iff.1 h
 dsimp only at h1 h2 h
 cases h
 refine Fn.enter (Tryz.func100) rfl rfl (fun w0 R=>?_)
 refine sA (xB 1 rfl (fun bk1=>(xaf rfl (dS (TC.draw [(0,true),(1,true),(2,true),(3,true),(4,true),(5,true),(6,true),(9,true),(10,true),(11,true),(12,true),(13,true),(14,true),(15,true),(7,false),(8,false),(16,false),(17,false),(18,true),(19,true)] [1] fc_m (by kernel_rfl) (xf 0 zai rfl (xL6 1 zab rfl rfl (xf 0 zai rfl (xf 0 zav rfl ?_)))))))))
 refine xL3 1 zaa rfl rfl (xmi rfl (xmi rfl (xf 0 zai rfl (xL6 1 zab rfl rfl (xf 0 zai rfl (xf 0 zav rfl (xL3 1 zaa rfl rfl (xmi rfl ?_))))))))
 refine xmi rfl (TL.callD [] [] (zcd hl) ⟨rfl,rfl,rfl,trivial⟩ trivial zfw rfl rfl rfl rfl rfl (kL1 rfl trivial) (TL.callD [0] [0] (zed hM hl h1) ⟨rfl,rfl,trivial⟩ ⟨rfl,trivial⟩ zgi rfl rfl rfl rfl rfl (kL1 rfl trivial) (TL.callD [] [] (zcd hl) ⟨rfl,rfl,rfl,trivial⟩ trivial zfw rfl rfl rfl rfl rfl (kL1 rfl trivial) (TL.callD [0] [0] (zed hM hl h2) ⟨rfl,rfl,trivial⟩ ⟨rfl,trivial⟩ zgi rfl rfl rfl rfl rfl (kL1 rfl trivial) (TL.eqlV rfl rfl rfl rfl (xab rfl (dR ?_)))))))
 refine FQ.ret1 (v:=(.bool _)) (Bs:=[A _]) [0] rfl rfl rfl ⟨rfl,trivial⟩ ?_
 exact ⟨rfl,rfl⟩
theorem zkd {S:Type} [MemLike S] {mt:TypeId} {mv:Value} {A:S→Assn} (hM:MemI Tryz.prog mt mv A) {l:Lay} (hl:l.Ok) {p:Pen} {σ:S} {i u r:Int} {k:Nat} {σ2:S} (h:count l k σ i u=some (r,σ2)):FnD Tryz.prog 177 [zaV l mt mv p,.int .i64 i,.int .i64 u] [A σ] (.int .i64 r) [A σ2]:=by
 unfold count at h
 obtain ⟨⟨a,σa⟩,h1,h⟩:=Option.bind_eq_some_iff.1 h
 dsimp only at h1 h
 cases h
 refine Fn.enter (Tryz.func177) rfl rfl (fun w0 R=>?_)
 refine sA (xB 1 rfl (fun bk1=>(xai rfl (dS (TC.draw [(0,true),(1,true),(2,true),(3,true),(4,true),(5,true),(6,true),(7,true),(8,true),(9,false),(10,false),(11,false),(12,true)] [1] fc_m (by kernel_rfl) (xf 0 zai rfl (xL6 1 zab rfl rfl (xf 0 zai rfl (xL6 1 zab rfl rfl ?_)))))))))
 refine xf 0 zai rfl (xf 0 zav rfl (xL3 1 zaa rfl rfl (xmi rfl (xmi rfl (TL.callD [] [] (zcd hl) ⟨rfl,rfl,rfl,trivial⟩ trivial zfw rfl rfl rfl rfl rfl (kL1 rfl trivial) (TL.callD [0] [0] (zed hM hl h1) ⟨rfl,rfl,trivial⟩ ⟨rfl,trivial⟩ zgi rfl rfl rfl rfl rfl (kL1 rfl trivial) (TL.callD [0] [0] (zny hM hl) ⟨rfl,rfl,trivial⟩ ⟨rfl,trivial⟩ zp0 rfl rfl rfl rfl rfl (kL1 rfl trivial) (xai rfl ?_))))))))
 refine dR ?_
 refine FQ.ret1 (v:=(.int _ _)) (Bs:=[A _]) [0] rfl rfl rfl ⟨rfl,trivial⟩ ?_
 exact ⟨rfl,rfl⟩
theorem zkj {mt:TypeId} {mv:Value} {l:Lay} (hl:l.Ok) {p:Pen} {i s:Int}:FnD Tryz.prog 170 [zaV l mt mv p,.int .i64 i,.int .i64 s] [] (.tuple #[.int .i64 (l.arc s i 0),.int .i64 (l.arc s i 1)]) []:=by
 refine Fn.enter (Tryz.func170) rfl rfl (fun w0 R=>?_)
 refine sA (xB 0 rfl (fun bk0=>(xai rfl (xai rfl (dS (TC.draw [(0,true),(1,true),(2,true),(3,true),(4,true),(6,true),(7,true),(8,true),(9,true),(10,true),(5,false),(11,false),(12,true),(13,true)] [0] fc_m (by kernel_rfl) (xf 0 zai rfl (xf 0 zav rfl (xL3 0 zaa rfl rfl ?_)))))))))
 refine xmi rfl (xmi rfl (xf 0 zai rfl (xf 0 zav rfl (xL3 0 zaa rfl rfl (xmi rfl (xmi rfl (TL.callD [] [] (znp hl) ⟨rfl,rfl,rfl,rfl,trivial⟩ trivial zjq rfl rfl rfl rfl rfl (kL1 rfl trivial) (TL.callD [] [] (znp hl) ⟨rfl,rfl,rfl,rfl,trivial⟩ trivial zjq rfl rfl rfl rfl rfl (kL1 rfl trivial) ?_))))))))
 refine xai rfl (xai rfl (dR ?_))
 refine FQ.ret2 (v:=(.int _ _)) (x:=(.int _ _)) (Bs:=[]) [] rfl rfl rfl rfl trivial ?_
 exact ⟨rfl,rfl⟩
theorem zlT {S:Type} [MemLike S] {mt:TypeId} {mv:Value} {A:S→Assn} (hM:MemI Tryz.prog mt mv A) {l:Lay} (hl:l.Ok) {p:Pen} {σ:S} {i s u v r:Int} {k:Nat} {σ2:S} (h:link l p k σ i s u v=some (r,σ2)):FnD Tryz.prog 141 [zaV l mt mv p,.int .i64 i,.int .i64 s,.int .i64 u,.int .i64 v] [A σ] (.int .i64 r) [A σ2]:=by
 unfold link at h
 obtain ⟨⟨a,σa⟩,h1,h⟩:=Option.bind_eq_some_iff.1 h
 obtain ⟨⟨x,σb⟩,h2,h⟩:=Option.bind_eq_some_iff.1 h
 obtain ⟨⟨b,σc⟩,h3,h⟩:=Option.bind_eq_some_iff.1 h
 obtain ⟨⟨y,σd⟩,h4,h5⟩:=Option.bind_eq_some_iff.1 h
 dsimp only at h1 h2 h3 h4 h5
 refine Fn.enter (Tryz.func141) rfl rfl (fun w0 R=>?_)
 refine sA (xB 1 rfl (fun bk1=>(xai rfl (dA (xL6 1 zbx rfl rfl (xmi rfl (xmi rfl (TL.callD [] [] (zkj hl) ⟨rfl,rfl,rfl,trivial⟩ trivial zmy rfl rfl rfl rfl rfl trivial (xmu rfl ?_)))))))))
 refine xei rfl rfl (xei rfl rfl (xai rfl (xai rfl (dS (TC.draw [(0,true),(1,true),(2,true),(3,true),(4,true),(6,true),(5,false),(7,false),(8,true)] [1] fc_m (by kernel_rfl) (xf 0 zai rfl (xL6 1 zab rfl rfl (xL6 1 zbx rfl rfl ?_))))))))
 refine xmi rfl (xmi rfl (xmi rfl (TL.callD [0] [0] (zkh hM hl h1) ⟨rfl,rfl,rfl,trivial⟩ ⟨rfl,trivial⟩ zmx rfl rfl rfl rfl rfl (kL1 rfl trivial) (TL.callD [0] [0] (zc7 hM hl h2) ⟨rfl,rfl,rfl,trivial⟩ ⟨rfl,trivial⟩ zfh rfl rfl rfl rfl rfl (kL1 rfl trivial) (xai rfl (dS (TC.draw [(0,true),(1,true),(2,true),(3,true),(4,true),(5,true),(6,false),(7,false),(8,true)] [1] fc_m (by kernel_rfl) (xf 0 zai rfl ?_))))))))
 refine xL6 1 zab rfl rfl (xmi rfl (xL6 1 zbx rfl rfl (xmi rfl (xmi rfl (TL.callD [0] [0] (zkh hM hl h3) ⟨rfl,rfl,rfl,trivial⟩ ⟨rfl,trivial⟩ zmx rfl rfl rfl rfl rfl (kL1 rfl trivial) (TL.callD [0] [0] (zc7 hM hl h4) ⟨rfl,rfl,rfl,trivial⟩ ⟨rfl,trivial⟩ zfh rfl rfl rfl rfl rfl (kL1 rfl trivial) (xai rfl (dA ?_))))))))
 refine xf 0 zai rfl (xL6 1 zab rfl rfl (xmi rfl (xmi rfl (TL.callD [0] [0] (zc7 hM hl h5) ⟨rfl,rfl,rfl,trivial⟩ ⟨rfl,trivial⟩ zfh rfl rfl rfl rfl rfl trivial (xai rfl (dR ?_))))))
 refine FQ.ret1 (v:=(.int _ _)) (Bs:=[A _]) [0] rfl rfl rfl ⟨rfl,trivial⟩ ?_
 exact ⟨rfl,rfl⟩
theorem zrp {S:Type} [MemLike S] {mt:TypeId} {mv:Value} {A:S→Assn} (hM:MemI Tryz.prog mt mv A) {l:Lay} (hl:l.Ok) {p:Pen} {σ:S} {i s:Int} {r:Int×Int} {k:Nat} {σ2:S} (h:cut l p k σ i s=some (r,σ2)):FnD Tryz.prog 155 [zaV l mt mv p,.int .i64 i,.int .i64 s] [A σ] (.tuple #[.int .i64 r.1,.int .i64 r.2]) [A σ2]:=by
 unfold cut at h
 dsimp only at h
 obtain ⟨⟨i0,σa⟩,h1,h⟩:=Option.bind_eq_some_iff.1 h
 obtain ⟨⟨j0,σb⟩,h2,h⟩:=Option.bind_eq_some_iff.1 h
 obtain ⟨⟨rt,σc⟩,h3,h⟩:=Option.bind_eq_some_iff.1 h
 obtain ⟨⟨s1,σd⟩,h4,h⟩:=Option.bind_eq_some_iff.1 h
 obtain ⟨⟨s2,σe⟩,h5,h⟩:=Option.bind_eq_some_iff.1 h
 obtain ⟨⟨s3,σf⟩,h6,h⟩:=Option.bind_eq_some_iff.1 h
 obtain ⟨⟨s4,σg⟩,h7,h⟩:=Option.bind_eq_some_iff.1 h
 obtain ⟨⟨m,σh⟩,h8,h9⟩:=Option.bind_eq_some_iff.1 h
 dsimp only at h1 h2 h3 h4 h5 h6 h7 h8 h9
 cases h9
 refine Fn.enter (Tryz.func155) rfl rfl (fun w0 R=>?_)
 refine sA (xB 1 rfl (fun bk1=>(xai rfl (xai rfl (dA (xL6 1 zbx rfl rfl (xmi rfl (xmi rfl (TL.callD [] [] (zkj hl) ⟨rfl,rfl,rfl,trivial⟩ trivial zmy rfl rfl rfl rfl rfl trivial ?_)))))))))
 refine xmu rfl (xei rfl rfl (xei rfl rfl (xai rfl (xai rfl (dS (TC.draw [(0,true),(1,true),(2,true),(4,true),(5,true),(6,true),(3,false),(7,false),(8,true),(9,true)] [1] fc_m (by kernel_rfl) (xf 0 zai rfl (xL6 1 zab rfl rfl ?_))))))))
 refine xmi rfl (xf 0 zai rfl (xL6 1 zab rfl rfl (xmi rfl (TL.callD [0] [0] (zhv hM hl h1) ⟨rfl,rfl,trivial⟩ ⟨rfl,trivial⟩ zjp rfl rfl rfl rfl rfl (kL1 rfl trivial) (TL.callD [0] [0] (zhv hM hl h2) ⟨rfl,rfl,trivial⟩ ⟨rfl,trivial⟩ zjp rfl rfl rfl rfl rfl (kL1 rfl trivial) (xai rfl (xai rfl (dB ?_))))))))
 refine xmi rfl (xmi rfl (TL.gtr rfl rfl rfl rfl (fun q1=>?_) (fun q1=>?_)))
 refine TL.done (TQ.then (TC.condT rfl (TC.region (xmi rfl (xmi rfl (xai rfl (xai rfl (dS ?_))))))))
 refine TC.draw [(0,true),(1,true),(2,true),(3,true),(4,true),(6,true),(5,false),(7,false),(8,true),(9,true),(10,true),(11,true),(12,true)] [1] fc_m (by kernel_rfl) (xf 0 zai rfl (xL6 1 zab rfl rfl (xf 0 zai rfl (xL6 1 zab rfl rfl (xmi rfl (xmi rfl (TL.callD [0] [0] (zed hM hl h3) ⟨rfl,rfl,trivial⟩ ⟨rfl,trivial⟩ zgi rfl rfl rfl rfl rfl (kL1 rfl trivial) (TL.callD [0] [0] (zbR hM hl (by rw [if_pos q1] at h4; exact h4)) ⟨rfl,rfl,rfl,trivial⟩ ⟨rfl,trivial⟩ zdn rfl rfl rfl rfl rfl (kL1 rfl trivial) ?_))))))))
 refine xmu rfl (xei rfl rfl (xei rfl rfl (xai rfl (xai rfl (dA (xf 0 zai rfl (xL6 1 zab rfl rfl (xmi rfl ?_))))))))
 refine TL.callD [0] [0] (zbR hM hl h5) ⟨rfl,rfl,rfl,trivial⟩ ⟨rfl,trivial⟩ zdn rfl rfl rfl rfl rfl trivial (xmu rfl (xei rfl rfl (xei rfl rfl (xai rfl (dA (xf 0 zai rfl (xL6 1 zab rfl rfl (xmi rfl ?_))))))))
 refine xmi rfl (TL.callD [0] [0] (zbR hM hl (by rw [if_pos q1] at h6; exact h6)) ⟨rfl,rfl,rfl,trivial⟩ ⟨rfl,trivial⟩ zdn rfl rfl rfl rfl rfl trivial (xmu rfl (xei rfl rfl (xei rfl rfl (xai rfl (xai rfl (dA (xf 0 zai rfl ?_))))))))
 refine xL6 1 zab rfl rfl (xmi rfl (TL.callD [0] [0] (zbR hM hl h7) ⟨rfl,rfl,rfl,trivial⟩ ⟨rfl,trivial⟩ zdn rfl rfl rfl rfl rfl trivial (xmu rfl (xei rfl rfl (xei rfl rfl (xai rfl (dA (xf 0 zai rfl ?_))))))))
 refine xL6 1 zab rfl rfl (xmi rfl (TL.callD [0] [0] (zeT hM hl) ⟨rfl,rfl,trivial⟩ ⟨rfl,trivial⟩ zgq rfl rfl rfl rfl rfl trivial (dA (xf 0 zai rfl (xL6 1 zab rfl rfl (xmi rfl (TL.callD [0] [0] (zeT hM hl) ⟨rfl,rfl,trivial⟩ ⟨rfl,trivial⟩ zgq rfl rfl rfl rfl rfl trivial (dA ?_))))))))
 refine xmi rfl (xf 0 zai rfl (xL6 1 zab rfl rfl (xmi rfl (xmi rfl (TL.callD [0] [0] (zc7 hM hl h8) ⟨rfl,rfl,rfl,trivial⟩ ⟨rfl,trivial⟩ zfh rfl rfl rfl rfl rfl trivial (xai rfl (xai rfl (dR ?_))))))))
 refine FQ.ret2 (v:=(.int _ _)) (x:=(.int _ _)) (Bs:=[A _]) [0] rfl rfl rfl rfl ⟨rfl,trivial⟩ ?_
 exact ⟨rfl,rfl⟩
 refine TL.done (TQ.then (TC.condF rfl (TC.skip (TQ.then (TC.seq (TC.draw [(0,true),(1,true),(2,true),(3,true),(4,true),(6,true),(5,false),(7,false),(8,true),(9,true),(10,true),(11,true),(12,true)] [1] fc_m (by kernel_rfl) (xf 0 zai rfl (xL6 1 zab rfl rfl ?_))))))))
 refine xf 0 zai rfl (xL6 1 zab rfl rfl (xmi rfl (xmi rfl (TL.callD [0] [0] (zed hM hl h3) ⟨rfl,rfl,trivial⟩ ⟨rfl,trivial⟩ zgi rfl rfl rfl rfl rfl (kL1 rfl trivial) (TL.callD [0] [0] (zbR hM hl (by rw [if_neg q1] at h4; exact h4)) ⟨rfl,rfl,rfl,trivial⟩ ⟨rfl,trivial⟩ zdn rfl rfl rfl rfl rfl (kL1 rfl trivial) (xmu rfl (xei rfl rfl (xei rfl rfl ?_))))))))
 refine xai rfl (xai rfl (dA (xf 0 zai rfl (xL6 1 zab rfl rfl (xmi rfl (TL.callD [0] [0] (zbR hM hl h5) ⟨rfl,rfl,rfl,trivial⟩ ⟨rfl,trivial⟩ zdn rfl rfl rfl rfl rfl trivial (xmu rfl (xei rfl rfl ?_))))))))
 refine xei rfl rfl (xai rfl (dA (xf 0 zai rfl (xL6 1 zab rfl rfl (xmi rfl (xmi rfl (TL.callD [0] [0] (zbR hM hl (by rw [if_neg q1] at h6; exact h6)) ⟨rfl,rfl,rfl,trivial⟩ ⟨rfl,trivial⟩ zdn rfl rfl rfl rfl rfl trivial (xmu rfl ?_))))))))
 refine xei rfl rfl (xei rfl rfl (xai rfl (xai rfl (dA (xf 0 zai rfl (xL6 1 zab rfl rfl (xmi rfl (TL.callD [0] [0] (zbR hM hl h7) ⟨rfl,rfl,rfl,trivial⟩ ⟨rfl,trivial⟩ zdn rfl rfl rfl rfl rfl trivial ?_))))))))
 refine xmu rfl (xei rfl rfl (xei rfl rfl (xai rfl (dA (xf 0 zai rfl (xL6 1 zab rfl rfl (xmi rfl (TL.callD [0] [0] (zeT hM hl) ⟨rfl,rfl,trivial⟩ ⟨rfl,trivial⟩ zgq rfl rfl rfl rfl rfl trivial ?_))))))))
 refine dA (xf 0 zai rfl (xL6 1 zab rfl rfl (xmi rfl (TL.callD [0] [0] (zeT hM hl) ⟨rfl,rfl,trivial⟩ ⟨rfl,trivial⟩ zgq rfl rfl rfl rfl rfl trivial (dA (xmi rfl (xf 0 zai rfl (xL6 1 zab rfl rfl ?_))))))))
 refine xmi rfl (xmi rfl (TL.callD [0] [0] (zc7 hM hl h8) ⟨rfl,rfl,rfl,trivial⟩ ⟨rfl,trivial⟩ zfh rfl rfl rfl rfl rfl trivial (xai rfl (xai rfl (dR ?_)))))
 refine FQ.ret2 (v:=(.int _ _)) (x:=(.int _ _)) (Bs:=[A _]) [0] rfl rfl rfl rfl ⟨rfl,trivial⟩ ?_
 exact ⟨rfl,rfl⟩
theorem zo2 {b:Bool}:FnD Tryz.prog 137 [.bool b] [] (.int .u64 (bit b)) []:=by
 refine Fn.enter (Tryz.func137) rfl rfl (fun w0 R=>?_)
 refine sA (xai rfl (dB (xmb rfl (TL.cases rfl (fun q1=>?_) (fun q1=>?_)))))
 refine dT rfl (xai rfl (dRR ?_))
 refine FQ.ret1 (v:=(.int _ _)) (Bs:=[]) [] rfl rfl rfl trivial ?_
 cases b<;>first | exact ⟨rfl,rfl⟩ | (exfalso; simp at q1)
 refine dF rfl (xai rfl (dR ?_))
 refine FQ.ret1 (v:=(.int _ _)) (Bs:=[]) [] rfl rfl rfl trivial ?_
 cases b<;>first | exact ⟨rfl,rfl⟩ | (exfalso; simp at q1)
theorem zga {S:Type} [MemLike S] {mt:TypeId} {mv:Value} {A:S→Assn} (hM:MemI Tryz.prog mt mv A) {l:Lay} (hl:l.Ok) {σ:S} {u v:Int}:FnD Tryz.prog 73 [zfy l mt mv,.int .i64 u,.int .i64 v] [A σ] (.tuple #[.int .i64 (find l σ u v).slot,.bool (find l σ u v).tree,.bool (find l σ u v).ok]) [A (zn9 l σ u v)]:=by
 refine Fn.enter (Tryz.func73) rfl rfl (fun w0 R=>?_)
 refine sA (xB 1 rfl (fun bk1=>(xai rfl (xaf rfl (xaf rfl (dS (TC.draw [(0,true),(1,true),(2,true),(3,true),(4,true),(5,true),(7,true),(8,true),(6,false),(9,false),(10,true)] [1] fc_m (by kernel_rfl) (xf 3 za8 rfl (xlc 1 zbg rfl rfl ?_)))))))))
 refine xf 0 zau rfl (xL3 1 zaa rfl rfl (xmi rfl (xmi rfl (TL.ncI rfl rfl rfl (xmc rfl (TL.callD [] [] (zhR hl) ⟨rfl,rfl,rfl,trivial⟩ trivial zhN rfl rfl rfl rfl rfl (kL1 rfl trivial) (TL.mload 0 hM rfl rfl rfl rfl rfl (kL1 rfl trivial) (xai rfl ?_))))))))
 refine dB (xmi rfl (TL.eql rfl rfl rfl rfl (fun q1=>?_) (fun q1=>?_)))
 refine dT rfl (xai rfl (xaf rfl (xaf rfl (dRR ?_))))
 refine FQ.ret3 (v:=(.int _ _)) (x:=(.bool false)) (y:=(.bool false)) (Bs:=[A _]) [0] rfl rfl rfl rfl rfl ⟨rfl,trivial⟩ ?_
 first | exact ⟨(by unfold find; dsimp only; rw [if_pos q1]),rfl⟩ | exact ⟨(by unfold find; dsimp only; rw [if_neg q1]; rfl),rfl⟩
 refine dF rfl (xmi rfl (TL.shr _ rfl rfl (by decide) rfl rfl rfl (TL.conv _ rfl zdF zbr (rfl) rfl rfl (TL.sub _ rfl rfl (rfl) rfl rfl (xmi rfl (TL.and _ rfl rfl rfl rfl rfl (TL.eqlV rfl rfl rfl rfl (xai rfl ?_))))))))
 refine xab rfl (xat rfl (dR ?_))
 refine FQ.ret3 (v:=(.int _ _)) (x:=(.bool _)) (y:=(.bool true)) (Bs:=[A _]) [0] rfl rfl rfl rfl rfl ⟨rfl,trivial⟩ ?_
 first | exact ⟨(by unfold find; dsimp only; rw [if_pos q1]),rfl⟩ | exact ⟨(by unfold find; dsimp only; rw [if_neg q1]; rfl),rfl⟩
theorem zqo {S:Type} [MemLike S] {mt:TypeId} {mv:Value} {A:S→Assn} (hM:MemI Tryz.prog mt mv A) {l:Lay} (hl:l.Ok) {σ:S} {s u v i:Int} {t:Bool}:FnD Tryz.prog 110 [zfy l mt mv,.int .i64 s,.int .i64 u,.int .i64 v,.int .i64 i,.bool t] [A σ] (.tuple #[]) [A (eput l σ s u v i t)]:=by
 refine Fn.enter (Tryz.func110) rfl rfl (fun w0 R=>?_)
 refine sA (xB 1 rfl (fun bk1=>(dS (TC.draw [(0,true),(1,true),(2,true),(3,true),(4,true),(6,true),(7,true),(8,true),(9,true),(10,true),(11,true),(12,true),(13,true),(14,true),(15,true),(16,true),(5,false),(17,false)] [1] fc_m (by kernel_rfl) (xf 3 za8 rfl (xlc 1 zbg rfl rfl (xf 0 zau rfl (xL3 1 zaa rfl rfl (xmi rfl ?_)))))))))
 refine xmi rfl (xmi rfl (TL.min2 rfl rfl rfl rfl (TL.shl _ rfl rfl (by decide) rfl rfl rfl (xmi rfl (xmi rfl (TL.max2 rfl rfl rfl rfl (TL.or _ rfl rfl rfl rfl rfl (TL.conv _ rfl zeN za0 (rfl) rfl rfl ?_))))))))
 refine TL.ncI rfl rfl rfl (xmc rfl (TL.callD [] [] (zmX hl) ⟨rfl,rfl,trivial⟩ trivial zmI rfl rfl rfl rfl rfl (kL1 rfl trivial) (TL.mstore 0 hM rfl rfl rfl (by first | exact zeq _ | exact zcq _ _ | exact MemLike.rng _ _ | decide | assumption) rfl rfl rfl (kL1 rfl trivial) (dS (TC.draw [(0,true),(1,true),(2,true),(3,true),(4,true),(6,true),(7,true),(8,true),(9,true),(5,false),(10,false)] [1] fc_m (by kernel_rfl) (xf 3 za8 rfl (xlc 1 zbg rfl rfl (xf 0 zau rfl ?_))))))))
 refine xL3 1 zaa rfl rfl (xmi rfl (xmi rfl (TL.conv _ rfl zeN za0 (rfl) rfl rfl (TL.ncI rfl rfl rfl (xmc rfl (TL.callD [] [] (zhu hl) ⟨rfl,rfl,trivial⟩ trivial zju rfl rfl rfl rfl rfl (kL1 rfl trivial) (TL.mstore 0 hM rfl rfl rfl (by first | exact zeq _ | exact zcq _ _ | exact MemLike.rng _ _ | decide | assumption) rfl rfl rfl (kL1 rfl trivial) (TL.done ?_))))))))
 refine TQ.then (TC.draw [(0,true),(1,true),(2,true),(3,true),(4,true),(5,true),(7,true),(8,true),(9,true),(10,true),(11,true),(14,true),(15,true),(6,false),(12,false),(13,true),(16,false)] [1] fc_m (by kernel_rfl) (xf 3 za8 rfl (xlc 1 zbg rfl rfl (xf 0 zau rfl (xL3 1 zaa rfl rfl (xmi rfl (xmi rfl (xmi rfl ?_))))))))
 refine TL.add _ rfl rfl (rfl) rfl rfl (TL.conv _ rfl zeN za0 (rfl) rfl rfl (TL.shl _ rfl rfl (by decide) rfl rfl rfl (xmb rfl (TL.ncI rfl rfl rfl (xmc rfl (TL.callD [] [] (zhR hl) ⟨rfl,rfl,rfl,trivial⟩ trivial zhN rfl rfl rfl rfl rfl (kL1 rfl trivial) (TL.callD [] [] zo2 ⟨rfl,trivial⟩ trivial zmH rfl rfl rfl rfl rfl (kL1 rfl trivial) (TL.or _ rfl rfl rfl rfl rfl ?_))))))))
 refine TL.mstore 0 hM rfl rfl rfl (by first | exact zeq _ | exact zcq _ _ | exact MemLike.rng _ _ | decide | assumption) rfl rfl rfl (kL1 rfl trivial) (TL.done ?_)
 refine FQ.end0 (Bs:=[A _]) [0] rfl rfl ⟨rfl,trivial⟩ ?_
 exact ⟨rfl,rfl⟩
theorem zg4 {S:Type} [MemLike S] {mt:TypeId} {mv:Value} {A:S→Assn} (hM:MemI Tryz.prog mt mv A) {l:Lay} (hl:l.Ok) {σ:S} {u v:Int}:FnD Tryz.prog 127 [zfy l mt mv,.int .i64 u,.int .i64 v] [A σ] (.tuple #[]) [A (zb8 l σ u v)]:=by
 refine Fn.enter (Tryz.func127) rfl rfl (fun w0 R=>?_)
 refine sA (xB 1 rfl (fun bk1=>(TL.done (TQ.then (TC.draw [(0,true),(1,true),(2,true),(3,true),(4,true),(5,true),(7,true),(8,true),(6,false),(9,false)] [1] fc_m (by kernel_rfl) (xf 3 za8 rfl (xlc 1 zbg rfl rfl (xf 0 zau rfl (xL3 1 zaa rfl rfl ?_)))))))))
 refine xmi rfl (xmi rfl (TL.ncI rfl rfl rfl (xmc rfl (TL.callD [] [] (zhR hl) ⟨rfl,rfl,rfl,trivial⟩ trivial zhN rfl rfl rfl rfl rfl (kL1 rfl trivial) (TL.mstore 0 hM rfl rfl rfl (by first | exact zeq _ | exact zcq _ _ | exact MemLike.rng _ _ | decide | assumption) rfl rfl rfl (kL1 rfl trivial) (TL.done ?_))))))
 refine FQ.end0 (Bs:=[A _]) [0] rfl rfl ⟨rfl,trivial⟩ ?_
 exact ⟨rfl,rfl⟩
theorem zj7 {S:Type} [MemLike S] {mt:TypeId} {mv:Value} {A:S→Assn} (hM:MemI Tryz.prog mt mv A) {l:Lay} (hl:l.Ok) {σ:S} {s:Int}:FnD Tryz.prog 153 [zfy l mt mv,.int .i64 s] [A σ] (.tuple #[.int .i64 (zkQ l σ s),.int .i64 (zkP l σ s)]) [A (zhQ l σ s)]:=by
 refine Fn.enter (Tryz.func153) rfl rfl (fun w0 R=>?_)
 refine sA (xB 1 rfl (fun bk1=>(xai rfl (xai rfl (dS (TC.draw [(0,true),(1,true),(2,true),(3,true),(4,true),(6,true),(7,true),(5,false),(8,false),(9,true),(10,true)] [1] fc_m (by kernel_rfl) (xf 3 za8 rfl (xlc 1 zbg rfl rfl (xf 0 zau rfl ?_)))))))))
 refine xL3 1 zaa rfl rfl (xmi rfl (TL.ncI rfl rfl rfl (xmc rfl (TL.callD [] [] (zmX hl) ⟨rfl,rfl,trivial⟩ trivial zmI rfl rfl rfl rfl rfl (kL1 rfl trivial) (TL.mload 0 hM rfl rfl rfl rfl rfl (kL1 rfl trivial) (TL.conv _ rfl zdF zbr (rfl) rfl rfl (xai rfl (dA ?_))))))))
 refine xmi rfl (TL.shr _ rfl rfl (by decide) rfl rfl rfl (xmi rfl (TL.and _ rfl rfl rfl rfl rfl (xai rfl (xai rfl (dR ?_))))))
 refine FQ.ret2 (v:=(.int _ _)) (x:=(.int _ _)) (Bs:=[A _]) [0] rfl rfl rfl rfl ⟨rfl,trivial⟩ ?_
 exact ⟨rfl,rfl⟩
theorem zdI {S:Type} [MemLike S] {mt:TypeId} {mv:Value} {A:S→Assn} (hM:MemI Tryz.prog mt mv A) {l:Lay} (hl:l.Ok) {σ:S} {s:Int}:FnD Tryz.prog 125 [zfy l mt mv,.int .i64 s] [A σ] (edgV (eget l σ s)) [A (zem l σ s)]:=by
 refine Fn.enter (Tryz.func125) rfl rfl (fun w0 R=>?_)
 refine sA (xB 1 rfl (fun bk1=>(TL.alloc 2 (cs:=#[.int .i64 0,.int .i64 0,.int .i64 0,.bool false]) zdE rfl rfl rfl (fun _=>trivial) (fun bk2=>(dA (xL4 1 zaL rfl rfl (xmi rfl (TL.callD [0] [0] (zj7 hM hl) ⟨rfl,rfl,trivial⟩ ⟨rfl,trivial⟩ zmB rfl rfl rfl rfl rfl trivial (xmu rfl (xei rfl rfl ?_))))))))))
 refine xei rfl rfl (xai rfl (xai rfl (dA (xL4 1 zaL rfl rfl (xmi rfl (xmi rfl (TL.callD [0] [0] (zga hM hl) ⟨rfl,rfl,rfl,trivial⟩ ⟨rfl,trivial⟩ zit rfl rfl rfl rfl rfl trivial (xmu rfl ?_))))))))
 refine xei rfl rfl (TL.ext (.bool _) rfl rfl rfl rfl (TL.ext (.bool _) rfl rfl rfl rfl (xai rfl (xab rfl (xab rfl (dS (TC.draw [(0,true),(1,true),(2,true),(3,true),(4,true),(5,true),(6,true),(8,true),(9,true),(12,true),(7,false),(10,false),(11,true),(13,true),(14,false)] [1] fc_m (by kernel_rfl) (xmi rfl ?_))))))))
 refine xmi rfl (xf 3 za8 rfl (xlc 1 zbg rfl rfl (xf 0 zau rfl (xL3 1 zaa rfl rfl (xmi rfl (TL.ncI rfl rfl rfl (xmc rfl (xmb rfl ?_))))))))
 refine TL.callD [] [] (zhu hl) ⟨rfl,rfl,trivial⟩ trivial zju rfl rfl rfl rfl rfl (kL1 rfl trivial) (TL.mload 0 hM rfl rfl rfl rfl rfl (kL1 rfl trivial) (TL.conv _ rfl zdF zbr (rfl) rfl rfl (TL.bld [.int .i64 0,.int .i64 0,.int .i64 0,.bool false] [(.int _ _),(.int _ _),(.int _ _),(.bool _)] [_,_,_,_] zdE zpT ⟨rfl,rfl,rfl,rfl,trivial⟩ ⟨rfl,rfl⟩ rfl rfl (TL.stW 2 4 [_,_,_,_] rfl rfl rfl rfl rfl rfl zci rfl rfl (kL1 rfl trivial) (dR ?_)))))
 refine FQ.retG (rs:=[.cell 4 183]) [(.agg _)] (Bs:=[A _]) [0] rfl ⟨⟨_,_,_,_,_,2,rfl,rfl,.inr ⟨4,[_,_,_,_],zci,rfl,rfl⟩⟩,trivial⟩ rfl rfl ⟨rfl,trivial⟩ ?_
 exact ⟨rfl,rfl⟩
theorem zoc {S:Type} [MemLike S] {mt:TypeId} {mv:Value} {A:S→Assn} (hM:MemI Tryz.prog mt mv A) {l:Lay} (hl:l.Ok) {σ:S} {s:Int} {t:Bool}:FnD Tryz.prog 140 [zfy l mt mv,.int .i64 s,.bool t] [A σ] (.tuple #[]) [A (zgI l σ s t)]:=by
 refine Fn.enter (Tryz.func140) rfl rfl (fun w0 R=>?_)
 refine sA (xB 1 rfl (fun bk1=>(dA (xL4 1 zaL rfl rfl (xmi rfl (TL.callD [0] [0] (zj7 hM hl) ⟨rfl,rfl,trivial⟩ ⟨rfl,trivial⟩ zmB rfl rfl rfl rfl rfl trivial (xmu rfl (xei rfl rfl (xei rfl rfl ?_)))))))))
 refine xai rfl (xai rfl (TL.done (TQ.then (TC.draw [(0,true),(1,true),(2,true),(3,true),(4,true),(5,true),(7,true),(8,true),(9,true),(10,true),(11,true),(14,true),(15,true),(6,false),(12,false),(13,true),(16,false)] [1] fc_m (by kernel_rfl) (xf 3 za8 rfl (xlc 1 zbg rfl rfl (xf 0 zau rfl (xL3 1 zaa rfl rfl ?_))))))))
 refine xmi rfl (xmi rfl (xmi rfl (TL.add _ rfl rfl (rfl) rfl rfl (TL.conv _ rfl zeN za0 (rfl) rfl rfl (TL.shl _ rfl rfl (by decide) rfl rfl rfl (xmb rfl (TL.ncI rfl rfl rfl (xmc rfl ?_))))))))
 refine TL.callD [] [] (zhR hl) ⟨rfl,rfl,rfl,trivial⟩ trivial zhN rfl rfl rfl rfl rfl (kL1 rfl trivial) (TL.callD [] [] zo2 ⟨rfl,trivial⟩ trivial zmH rfl rfl rfl rfl rfl (kL1 rfl trivial) (TL.or _ rfl rfl rfl rfl rfl (TL.mstore 0 hM rfl rfl rfl (by first | exact zeq _ | exact zcq _ _ | exact MemLike.rng _ _ | decide | assumption) rfl rfl rfl (kL1 rfl trivial) (TL.done ?_))))
 refine FQ.end0 (Bs:=[A _]) [0] rfl rfl ⟨rfl,trivial⟩ ?_
 exact ⟨rfl,rfl⟩
theorem zj8 {S:Type} [MemLike S] {mt:TypeId} {mv:Value} {A:S→Assn} (hM:MemI Tryz.prog mt mv A) {l:Lay} (hl:l.Ok) {σ:S} {s i:Int}:FnD Tryz.prog 192 [zfy l mt mv,.int .i64 s,.int .i64 i] [A σ] (.tuple #[]) [A (zfG l σ s i)]:=by
 refine Fn.enter (Tryz.func192) rfl rfl (fun w0 R=>?_)
 refine sA (xB 1 rfl (fun bk1=>(TL.done (TQ.then (TC.draw [(0,true),(1,true),(2,true),(3,true),(4,true),(6,true),(7,true),(8,true),(9,true),(5,false),(10,false)] [1] fc_m (by kernel_rfl) (xf 3 za8 rfl (xlc 1 zbg rfl rfl (xf 0 zau rfl (xL3 1 zaa rfl rfl ?_)))))))))
 refine xmi rfl (xmi rfl (TL.conv _ rfl zeN za0 (rfl) rfl rfl (TL.ncI rfl rfl rfl (xmc rfl (TL.callD [] [] (zhu hl) ⟨rfl,rfl,trivial⟩ trivial zju rfl rfl rfl rfl rfl (kL1 rfl trivial) (TL.mstore 0 hM rfl rfl rfl (by first | exact zeq _ | exact zcq _ _ | exact MemLike.rng _ _ | decide | assumption) rfl rfl rfl (kL1 rfl trivial) (TL.done ?_)))))))
 refine FQ.end0 (Bs:=[A _]) [0] rfl rfl ⟨rfl,trivial⟩ ?_
 exact ⟨rfl,rfl⟩
theorem zgE {S:Type} [MemLike S] {mt:TypeId} {mv:Value} {A:S→Assn} (hM:MemI Tryz.prog mt mv A) {l:Lay} (hl:l.Ok) {p:Pen} {σ:S} {c:Int}:FnD Tryz.prog 165 [adjV l mt mv p,.int .i64 c] [A σ] (.int .i64 (aget σ c)) [A (MemLike.ld σ c)]:=by
 refine Fn.enter (Tryz.func165) rfl rfl (fun w0 R=>?_)
 refine sA (xB 1 rfl (fun bk1=>(xai rfl (dA (xf 6 zao rfl (xf 3 za8 rfl (xlc 1 zbg rfl rfl (xmi rfl (TL.mload 0 hM rfl rfl rfl rfl rfl trivial ?_)))))))))
 refine TL.conv _ rfl zdF zbr (rfl) rfl rfl (xai rfl (dR ?_))
 refine FQ.ret1 (v:=(.int _ _)) (Bs:=[A _]) [0] rfl rfl rfl ⟨rfl,trivial⟩ ?_
 exact ⟨rfl,rfl⟩
theorem zdr {S:Type} [MemLike S] {mt:TypeId} {mv:Value} {A:S→Assn} (hM:MemI Tryz.prog mt mv A) {l:Lay} (hl:l.Ok) {p:Pen} {σ:S} {c v:Int}:FnD Tryz.prog 166 [adjV l mt mv p,.int .i64 c,.int .i64 v] [A σ] (.tuple #[]) [A (MemLike.st σ c (IntKind.u64.wrap v))]:=by
 refine Fn.enter (Tryz.func166) rfl rfl (fun w0 R=>?_)
 refine sA (xB 1 rfl (fun bk1=>(dG (xf 6 zao rfl (xf 3 za8 rfl (xlc 1 zbg rfl rfl (xmi rfl (xmi rfl (TL.conv _ rfl zeN za0 (rfl) rfl rfl ?_)))))))))
 refine TL.mstore 0 hM rfl rfl rfl (by first | exact zeq _ | exact zcq _ _ | exact MemLike.rng _ _ | decide | assumption) rfl rfl rfl trivial (TL.done ?_)
 refine FQ.end0 (Bs:=[A _]) [0] rfl rfl ⟨rfl,trivial⟩ ?_
 exact ⟨rfl,rfl⟩
theorem zhd {s d:Int}:FnD Tryz.prog 139 [.int .i64 s,.int .i64 d] [] (.int .i64 (side s d)) []:=by
 refine Fn.enter (Tryz.func139) rfl rfl (fun w0 R=>?_)
 refine sA (xai rfl (dA (xmi rfl (TL.mul _ rfl rfl (rfl) rfl rfl (xmi rfl (TL.add _ rfl rfl (rfl) rfl rfl (TL.add _ rfl rfl (rfl) rfl rfl (xai rfl ?_))))))))
 refine dR ?_
 refine FQ.ret1 (v:=(.int _ _)) (Bs:=[]) [] rfl rfl rfl trivial ?_
 exact ⟨rfl,rfl⟩
theorem zhX {mt:TypeId} {mv:Value} {l:Lay} (hl:l.Ok) {p:Pen} {x:Int}:FnD Tryz.prog 167 [adjV l mt mv p,.int .i64 x] [] (.int .i64 (zaY l x)) []:=by
 refine Fn.enter (Tryz.func167) rfl rfl (fun w0 R=>?_)
 refine sA (xB 0 rfl (fun bk0=>(xai rfl (dA (xf 6 zao rfl (xf 0 zau rfl (xL3 0 zaa rfl rfl (xmi rfl (TL.sub _ rfl rfl (rfl) rfl rfl ?_)))))))))
 refine TL.quo _ rfl rfl (by omega) (quo2 _) rfl rfl (xmi rfl (TL.sub _ rfl rfl (rfl) rfl rfl (TL.rem _ rfl rfl (by omega) (rfl) rfl rfl (TL.callD [] [] (zpD hl) ⟨rfl,rfl,rfl,trivial⟩ trivial zp2 rfl rfl rfl rfl rfl trivial (xai rfl (dR ?_))))))
 refine FQ.ret1 (v:=(.int _ _)) (Bs:=[]) [] rfl rfl rfl trivial ?_
 exact ⟨rfl,rfl⟩
theorem zeS {mt:TypeId} {mv:Value} {l:Lay} (hl:l.Ok) {p:Pen} {x:Int}:FnD Tryz.prog 168 [adjV l mt mv p,.int .i64 x] [] (.int .i64 (zaH l x)) []:=by
 refine Fn.enter (Tryz.func168) rfl rfl (fun w0 R=>?_)
 refine sA (xB 0 rfl (fun bk0=>(xai rfl (dA (xf 6 zao rfl (xf 0 zau rfl (xL3 0 zaa rfl rfl (xmi rfl (TL.sub _ rfl rfl (rfl) rfl rfl ?_)))))))))
 refine TL.quo _ rfl rfl (by omega) (quo2 _) rfl rfl (xmi rfl (TL.sub _ rfl rfl (rfl) rfl rfl (TL.rem _ rfl rfl (by omega) (rfl) rfl rfl (TL.callD [] [] (zpr hl) ⟨rfl,rfl,rfl,trivial⟩ trivial zp1 rfl rfl rfl rfl rfl trivial (xai rfl (dR ?_))))))
 refine FQ.ret1 (v:=(.int _ _)) (Bs:=[]) [] rfl rfl rfl trivial ?_
 exact ⟨rfl,rfl⟩
theorem zdY {S:Type} [MemLike S] {mt:TypeId} {mv:Value} {A:S→Assn} (hM:MemI Tryz.prog mt mv A) {l:Lay} (hl:l.Ok) {p:Pen} {σ:S} {v i:Int} {k:Nat} {σ2:S} (h:zgB l k σ v i=some σ2):FnD Tryz.prog 169 [adjV l mt mv p,.int .i64 v,.int .i64 i] [A σ] (.tuple #[]) [A σ2]:=by
 unfold zgB at h
 dsimp only at h
 refine Fn.enter (Tryz.func169) rfl rfl (fun w0 R=>?_)
 refine sA (xB 1 rfl (fun bk1=>(dA (xf 6 zao rfl (xf 0 zau rfl (xL3 1 zaa rfl rfl (xmi rfl (xmi rfl (TL.callD [] [] (zcd hl) ⟨rfl,rfl,rfl,trivial⟩ trivial zfw rfl rfl rfl rfl rfl trivial ?_)))))))))
 refine xai rfl (dS (TC.draw [(0,true),(1,true),(2,true),(3,true),(4,true),(5,true),(6,false),(7,false),(8,true),(9,true)] [1] fc_m (by kernel_rfl) (xL10 1 zam rfl rfl (xf 6 zao rfl (xf 0 zau rfl (xL3 1 zaa rfl rfl (xmi rfl (xmi rfl ?_))))))))
 refine TL.callD [] [] (zhx hl) ⟨rfl,rfl,rfl,trivial⟩ trivial zhH rfl rfl rfl rfl rfl (kL1 rfl trivial) (TL.callD [0] [0] (zgE hM hl) ⟨rfl,rfl,trivial⟩ ⟨rfl,trivial⟩ zgn rfl rfl rfl rfl rfl (kL1 rfl trivial) (TL.neqV rfl rfl rfl rfl (xab rfl (dA (xmb rfl (xf 0 za4 rfl (xf 0 zai rfl (xL6 1 zab rfl rfl ?_))))))))
 refine xmi rfl (TL.callD [0] [0] (zif hM hl (by decide)) ⟨rfl,rfl,rfl,trivial⟩ ⟨rfl,trivial⟩ zmu rfl rfl rfl rfl rfl trivial (TL.neqB rfl rfl zrm rfl rfl (TL.cases rfl (fun q1=>?_) (fun q1=>?_))))
 refine TL.done (TQ.then (TC.condT rfl (TC.region (xf 0 za4 rfl (xf 0 zai rfl (xL6 1 zab rfl rfl (xmi rfl (xmb rfl ?_))))))))
 refine TL.callD [0] [0] (zlL hM hl (by decide) (by rw [if_pos (by simpa using q1)] at h; exact h)) ⟨rfl,rfl,rfl,rfl,trivial⟩ ⟨rfl,trivial⟩ zmw rfl rfl rfl rfl rfl trivial (TL.done ?_)
 refine FQ.end0 (Bs:=[A _]) [0] rfl rfl ⟨rfl,trivial⟩ ?_
 exact ⟨rfl,rfl⟩
 refine TL.done (TQ.then (TC.condF rfl (TC.skip ?_)))
 refine FQ.end0 (Bs:=[A _]) [0] rfl rfl ⟨rfl,trivial⟩ ?_
 rw [if_neg (fun hc=>by revert q1 hc; cases zgT l (MemLike.ld σ (l.head v i)) (l.vertex i v) 0<;>simp<;>omega)] at h; cases h; exact ⟨rfl,rfl⟩
theorem zlv {S:Type} [MemLike S] {mt:TypeId} {mv:Value} {A:S→Assn} (hM:MemI Tryz.prog mt mv A) {l:Lay} (hl:l.Ok) {p:Pen} {σ:S} {x v i:Int} {k:Nat} {σ2:S} (h:push l k σ x v i=some σ2):FnD Tryz.prog 138 [adjV l mt mv p,.int .i64 x,.int .i64 v,.int .i64 i] [A σ] (.tuple #[]) [A σ2]:=by
 unfold push at h
 dsimp only at h
 refine Fn.enter (Tryz.func138) rfl rfl (fun w0 R=>?_)
 refine sA (xB 1 rfl (fun bk1=>(dA (xf 6 zao rfl (xf 0 zau rfl (xL3 1 zaa rfl rfl (xmi rfl (xmi rfl (TL.callD [] [] (zhx hl) ⟨rfl,rfl,rfl,trivial⟩ trivial zhH rfl rfl rfl rfl rfl trivial ?_)))))))))
 refine xai rfl (dA (xL10 1 zam rfl rfl (xmi rfl (TL.callD [0] [0] (zgE hM hl) ⟨rfl,rfl,trivial⟩ ⟨rfl,trivial⟩ zgn rfl rfl rfl rfl rfl trivial (xai rfl (dS (TC.draw [(0,true),(1,true),(2,true),(4,true),(3,false),(5,false)] [1] fc_m (by kernel_rfl) (xL10 1 zam rfl rfl ?_))))))))
 refine xL10 1 zam rfl rfl (xmi rfl (xmi rfl (TL.callD [] [] (zhX hl) ⟨rfl,rfl,trivial⟩ trivial zjr rfl rfl rfl rfl rfl (kL1 rfl trivial) (TL.callD [0] [0] (zdr hM hl) ⟨rfl,rfl,rfl,trivial⟩ ⟨rfl,trivial⟩ zdo rfl rfl rfl rfl rfl (kL1 rfl trivial) (dS (TC.draw [(0,true),(1,true),(2,true),(3,false),(4,false)] [1] fc_m (by kernel_rfl) (xL10 1 zam rfl rfl (xL10 1 zam rfl rfl ?_))))))))
 refine xmi rfl (TL.callD [] [] (zeS hl) ⟨rfl,rfl,trivial⟩ trivial zgm rfl rfl rfl rfl rfl (kL1 rfl trivial) (TL.callD [0] [0] (zdr hM hl) ⟨rfl,rfl,rfl,trivial⟩ ⟨rfl,trivial⟩ zdo rfl rfl rfl rfl rfl (kL1 rfl trivial) (dB (xmi rfl (TL.neq rfl rfl rfl rfl (fun q1=>?_) (fun q1=>?_))))))
 refine TL.done (TQ.then (TC.condT rfl (TC.draw [(0,true),(1,true),(2,true),(4,true),(3,false),(5,false)] [1] fc_m (by kernel_rfl) (xL10 1 zam rfl rfl (xL10 1 zam rfl rfl (xmi rfl (xmi rfl (TL.callD [] [] (zeS hl) ⟨rfl,rfl,trivial⟩ trivial zgm rfl rfl rfl rfl rfl (kL1 rfl trivial) ?_))))))))
 refine TL.callD [0] [0] (zdr hM hl) ⟨rfl,rfl,rfl,trivial⟩ ⟨rfl,trivial⟩ zdo rfl rfl rfl rfl rfl (kL1 rfl trivial) (dA (xL10 1 zam rfl rfl (xmi rfl (xmi rfl (TL.callD [0] [0] (zdr hM hl) ⟨rfl,rfl,rfl,trivial⟩ ⟨rfl,trivial⟩ zdo rfl rfl rfl rfl rfl trivial (dG (xL10 1 zam rfl rfl (xmi rfl ?_))))))))
 refine xmi rfl (TL.callD [0] [0] (zdY hM hl (by rw [if_pos q1] at h; exact h)) ⟨rfl,rfl,rfl,trivial⟩ ⟨rfl,trivial⟩ zfi rfl rfl rfl rfl rfl trivial (TL.done ?_))
 refine FQ.end0 (Bs:=[A _]) [0] rfl rfl ⟨rfl,trivial⟩ ?_
 exact ⟨rfl,rfl⟩
 refine dF rfl (xL10 1 zam rfl rfl (xmi rfl (xmi rfl (TL.callD [0] [0] (zdr hM hl) ⟨rfl,rfl,rfl,trivial⟩ ⟨rfl,trivial⟩ zdo rfl rfl rfl rfl rfl trivial (dG (xL10 1 zam rfl rfl (xmi rfl (xmi rfl ?_))))))))
 refine TL.callD [0] [0] (zdY hM hl (by rw [if_neg q1] at h; exact h)) ⟨rfl,rfl,rfl,trivial⟩ ⟨rfl,trivial⟩ zfi rfl rfl rfl rfl rfl trivial (TL.done ?_)
 refine FQ.end0 (Bs:=[A _]) [0] rfl rfl ⟨rfl,trivial⟩ ?_
 exact ⟨rfl,rfl⟩
theorem zly {S:Type} [MemLike S] {mt:TypeId} {mv:Value} {A:S→Assn} (hM:MemI Tryz.prog mt mv A) {l:Lay} (hl:l.Ok) {p:Pen} {σ:S} {x v i:Int} {k:Nat} {σ2:S} (h:pull l k σ x v i=some σ2):FnD Tryz.prog 154 [adjV l mt mv p,.int .i64 x,.int .i64 v,.int .i64 i] [A σ] (.tuple #[]) [A σ2]:=by
 unfold pull at h
 dsimp only at h
 refine Fn.enter (Tryz.func154) rfl rfl (fun w0 R=>?_)
 refine sA (xB 1 rfl (fun bk1=>(dS (TC.draw [(0,true),(1,true),(2,true),(5,true),(6,true),(7,true),(3,false),(4,false),(8,false),(9,false),(10,true),(11,true)] [1] fc_m (by kernel_rfl) (xL10 1 zam rfl rfl (xL10 1 zam rfl rfl (xmi rfl (xL10 1 zam rfl rfl (xL10 1 zam rfl rfl ?_)))))))))
 refine xmi rfl (TL.callD [] [] (zeS hl) ⟨rfl,rfl,trivial⟩ trivial zgm rfl rfl rfl rfl rfl (kL1 rfl trivial) (TL.callD [0] [0] (zgE hM hl) ⟨rfl,rfl,trivial⟩ ⟨rfl,trivial⟩ zgn rfl rfl rfl rfl rfl (kL1 rfl trivial) (TL.callD [] [] (zhX hl) ⟨rfl,rfl,trivial⟩ trivial zjr rfl rfl rfl rfl rfl (kL1 rfl trivial) (TL.callD [0] [0] (zgE hM hl) ⟨rfl,rfl,trivial⟩ ⟨rfl,trivial⟩ zgn rfl rfl rfl rfl rfl (kL1 rfl trivial) (xai rfl (xai rfl (dB (xmi rfl ?_))))))))
 refine TL.eql rfl rfl rfl rfl (fun q1=>?_) (fun q1=>?_)
 refine TL.done (TQ.then (TC.condT rfl (TC.draw [(0,true),(1,true),(2,true),(3,true),(4,true),(5,true),(7,true),(6,false),(8,false)] [1] fc_m (by kernel_rfl) (xL10 1 zam rfl rfl (xf 6 zao rfl (xf 0 zau rfl (xL3 1 zaa rfl rfl (xmi rfl ?_))))))))
 refine xmi rfl (xmi rfl (TL.callD [] [] (zhx hl) ⟨rfl,rfl,rfl,trivial⟩ trivial zhH rfl rfl rfl rfl rfl (kL1 rfl trivial) (TL.callD [0] [0] (zdr hM hl) ⟨rfl,rfl,rfl,trivial⟩ ⟨rfl,trivial⟩ zdo rfl rfl rfl rfl rfl (kL1 rfl trivial) (dB (xmi rfl (TL.neq rfl rfl rfl rfl (fun q2=>?_) (fun q2=>?_)))))))
 refine TL.done (TQ.then (TC.condT rfl (TC.draw [(0,true),(1,true),(2,true),(4,true),(3,false),(5,false)] [1] fc_m (by kernel_rfl) (xL10 1 zam rfl rfl (xL10 1 zam rfl rfl (xmi rfl (xmi rfl (TL.callD [] [] (zeS hl) ⟨rfl,rfl,trivial⟩ trivial zgm rfl rfl rfl rfl rfl (kL1 rfl trivial) ?_))))))))
 refine TL.callD [0] [0] (zdr hM hl) ⟨rfl,rfl,rfl,trivial⟩ ⟨rfl,trivial⟩ zdo rfl rfl rfl rfl rfl (kL1 rfl trivial) (dG (xL10 1 zam rfl rfl (xmi rfl (xmi rfl (TL.callD [0] [0] (zdY hM hl (by rw [if_pos q1,if_pos q2] at h; exact h)) ⟨rfl,rfl,rfl,trivial⟩ ⟨rfl,trivial⟩ zfi rfl rfl rfl rfl rfl trivial (TL.done ?_))))))
 refine FQ.end0 (Bs:=[A _]) [0] rfl rfl ⟨rfl,trivial⟩ ?_
 exact ⟨rfl,rfl⟩
 refine TL.done (TQ.then (TC.condF rfl (TC.skip (TQ.then (TC.region (xL10 1 zam rfl rfl (xmi rfl (xmi rfl ?_))))))))
 refine TL.callD [0] [0] (zdY hM hl (by rw [if_pos q1,if_neg q2] at h; exact h)) ⟨rfl,rfl,rfl,trivial⟩ ⟨rfl,trivial⟩ zfi rfl rfl rfl rfl rfl trivial (TL.done ?_)
 refine FQ.end0 (Bs:=[A _]) [0] rfl rfl ⟨rfl,trivial⟩ ?_
 exact ⟨rfl,rfl⟩
 refine TL.done (TQ.then (TC.condF rfl (TC.draw [(0,true),(1,true),(2,true),(4,true),(3,false),(5,false)] [1] fc_m (by kernel_rfl) (xL10 1 zam rfl rfl (xL10 1 zam rfl rfl (xmi rfl (xmi rfl (TL.callD [] [] (zhX hl) ⟨rfl,rfl,trivial⟩ trivial zjr rfl rfl rfl rfl rfl (kL1 rfl trivial) ?_))))))))
 refine TL.callD [0] [0] (zdr hM hl) ⟨rfl,rfl,rfl,trivial⟩ ⟨rfl,trivial⟩ zdo rfl rfl rfl rfl rfl (kL1 rfl trivial) (dB (xmi rfl (TL.neq rfl rfl rfl rfl (fun q2=>?_) (fun q2=>?_))))
 refine TL.done (TQ.then (TC.condT rfl (TC.draw [(0,true),(1,true),(2,true),(4,true),(3,false),(5,false)] [1] fc_m (by kernel_rfl) (xL10 1 zam rfl rfl (xL10 1 zam rfl rfl (xmi rfl (xmi rfl (TL.callD [] [] (zeS hl) ⟨rfl,rfl,trivial⟩ trivial zgm rfl rfl rfl rfl rfl (kL1 rfl trivial) ?_))))))))
 refine TL.callD [0] [0] (zdr hM hl) ⟨rfl,rfl,rfl,trivial⟩ ⟨rfl,trivial⟩ zdo rfl rfl rfl rfl rfl (kL1 rfl trivial) (dG (xL10 1 zam rfl rfl (xmi rfl (xmi rfl (TL.callD [0] [0] (zdY hM hl (by rw [if_neg q1,if_pos q2] at h; exact h)) ⟨rfl,rfl,rfl,trivial⟩ ⟨rfl,trivial⟩ zfi rfl rfl rfl rfl rfl trivial (TL.done ?_))))))
 refine FQ.end0 (Bs:=[A _]) [0] rfl rfl ⟨rfl,trivial⟩ ?_
 exact ⟨rfl,rfl⟩
 refine TL.done (TQ.then (TC.condF rfl (TC.skip (TQ.then (TC.region (xL10 1 zam rfl rfl (xmi rfl (xmi rfl ?_))))))))
 refine TL.callD [0] [0] (zdY hM hl (by rw [if_neg q1,if_neg q2] at h; exact h)) ⟨rfl,rfl,rfl,trivial⟩ ⟨rfl,trivial⟩ zfi rfl rfl rfl rfl rfl trivial (TL.done ?_)
 refine FQ.end0 (Bs:=[A _]) [0] rfl rfl ⟨rfl,trivial⟩ ?_
 exact ⟨rfl,rfl⟩
theorem ziE {S:Type} [MemLike S] {mt:TypeId} {mv:Value} {A:S→Assn} (hM:MemI Tryz.prog mt mv A) {l:Lay} (hl:l.Ok) {p:Pen} {σ:S} {s:Int} {k:Nat} {σ2:S} (h:add l k σ s=some σ2):FnD Tryz.prog 111 [adjV l mt mv p,.int .i64 s] [A σ] (.tuple #[]) [A σ2]:=by
 unfold add at h
 dsimp only at h
 obtain ⟨σ1,h1,h2⟩:=Option.bind_eq_some_iff.1 h
 refine Fn.enter (Tryz.func111) rfl rfl (fun w0 R=>?_)
 refine sA (xB 1 rfl (fun bk1=>(dA (xf 6 zao rfl (xL4 1 zaL rfl rfl (xmi rfl (TL.callD [0] [0] (zdI hM hl) ⟨rfl,rfl,trivial⟩ ⟨rfl,trivial⟩ zdG rfl rfl rfl rfl rfl trivial (TL.alloc 2 (cs:=#[.int .i64 0,.int .i64 0,.int .i64 0,.bool false]) zdE rfl rfl rfl (fun _=>trivial) (fun bk2=>(TL.stW 2 4 [_,_,_,_] rfl rfl rfl rfl rfl rfl zci rfl rfl trivial ?_))))))))))
 refine dS (TC.draw [(0,true),(1,true),(3,true),(4,true),(5,true),(6,true),(2,false),(7,false)] [1,2] fc_m (by kernel_rfl) (xL10 1 zam rfl rfl (xmi rfl (xf 0 zbt rfl (xli 2 zaf rfl rfl (xf 2 za1 rfl (xli 2 zaf rfl rfl (TL.callD [] [] zhd ⟨rfl,rfl,trivial⟩ trivial zhK rfl rfl rfl rfl rfl (kL2 rfl rfl trivial) ?_))))))))
 refine TL.callD [0] [0] (zlv hM hl h1) ⟨rfl,rfl,rfl,rfl,trivial⟩ ⟨rfl,trivial⟩ zmG rfl rfl rfl rfl rfl (kL2 rfl rfl trivial) (TL.done (TQ.then (TC.draw [(0,true),(1,true),(3,true),(4,true),(5,true),(6,true),(2,false),(7,false)] [1,2] fc_m (by kernel_rfl) (xL10 1 zam rfl rfl (xmi rfl (xf 1 zbs rfl (xli 2 zaf rfl rfl (xf 2 za1 rfl ?_))))))))
 refine xli 2 zaf rfl rfl (TL.callD [] [] zhd ⟨rfl,rfl,trivial⟩ trivial zhK rfl rfl rfl rfl rfl (kL2 rfl rfl trivial) (TL.callD [0] [0] (zlv hM hl h2) ⟨rfl,rfl,rfl,rfl,trivial⟩ ⟨rfl,trivial⟩ zmG rfl rfl rfl rfl rfl (kL2 rfl rfl trivial) (TL.done ?_)))
 refine FQ.end0 (Bs:=[A _]) [0] rfl rfl ⟨rfl,trivial⟩ ?_
 exact ⟨rfl,rfl⟩
theorem zgz {S:Type} [MemLike S] {mt:TypeId} {mv:Value} {A:S→Assn} (hM:MemI Tryz.prog mt mv A) {l:Lay} (hl:l.Ok) {p:Pen} {σ:S} {s:Int} {k:Nat} {σ2:S} (h:remove l k σ s=some σ2):FnD Tryz.prog 126 [adjV l mt mv p,.int .i64 s] [A σ] (.tuple #[]) [A σ2]:=by
 unfold remove at h
 dsimp only at h
 obtain ⟨σ1,h1,h2⟩:=Option.bind_eq_some_iff.1 h
 refine Fn.enter (Tryz.func126) rfl rfl (fun w0 R=>?_)
 refine sA (xB 1 rfl (fun bk1=>(dA (xf 6 zao rfl (xL4 1 zaL rfl rfl (xmi rfl (TL.callD [0] [0] (zdI hM hl) ⟨rfl,rfl,trivial⟩ ⟨rfl,trivial⟩ zdG rfl rfl rfl rfl rfl trivial (TL.alloc 2 (cs:=#[.int .i64 0,.int .i64 0,.int .i64 0,.bool false]) zdE rfl rfl rfl (fun _=>trivial) (fun bk2=>(TL.stW 2 4 [_,_,_,_] rfl rfl rfl rfl rfl rfl zci rfl rfl trivial ?_))))))))))
 refine dS (TC.draw [(0,true),(1,true),(3,true),(4,true),(5,true),(6,true),(2,false),(7,false)] [1,2] fc_m (by kernel_rfl) (xL10 1 zam rfl rfl (xmi rfl (xf 0 zbt rfl (xli 2 zaf rfl rfl (xf 2 za1 rfl (xli 2 zaf rfl rfl (TL.callD [] [] zhd ⟨rfl,rfl,trivial⟩ trivial zhK rfl rfl rfl rfl rfl (kL2 rfl rfl trivial) ?_))))))))
 refine TL.callD [0] [0] (zly hM hl h1) ⟨rfl,rfl,rfl,rfl,trivial⟩ ⟨rfl,trivial⟩ zmA rfl rfl rfl rfl rfl (kL2 rfl rfl trivial) (TL.done (TQ.then (TC.draw [(0,true),(1,true),(3,true),(4,true),(5,true),(6,true),(2,false),(7,false)] [1,2] fc_m (by kernel_rfl) (xL10 1 zam rfl rfl (xmi rfl (xf 1 zbs rfl (xli 2 zaf rfl rfl (xf 2 za1 rfl ?_))))))))
 refine xli 2 zaf rfl rfl (TL.callD [] [] zhd ⟨rfl,rfl,trivial⟩ trivial zhK rfl rfl rfl rfl rfl (kL2 rfl rfl trivial) (TL.callD [0] [0] (zly hM hl h2) ⟨rfl,rfl,rfl,rfl,trivial⟩ ⟨rfl,trivial⟩ zmA rfl rfl rfl rfl rfl (kL2 rfl rfl trivial) (TL.done ?_)))
 refine FQ.end0 (Bs:=[A _]) [0] rfl rfl ⟨rfl,trivial⟩ ?_
 exact ⟨rfl,rfl⟩
theorem znt {S:Type} [MemLike S] {mt:TypeId} {mv:Value} {A:S→Assn} (hM:MemI Tryz.prog mt mv A) {l:Lay} (hl:l.Ok) {p:Pen} {σ:S} {v i:Int}:FnD Tryz.prog 180 [adjV l mt mv p,.int .i64 v,.int .i64 i] [A σ] (.tuple #[.int .i64 (zeV l σ v i).1,.bool (zeV l σ v i).2]) [A (zjz l σ v i)]:=by
 refine Fn.enter (Tryz.func180) rfl rfl (fun w0 R=>?_)
 refine sA (xB 1 rfl (fun bk1=>(xai rfl (xaf rfl (dS (TC.draw [(0,true),(1,true),(2,true),(3,true),(4,true),(5,true),(6,false),(7,false),(8,true)] [1] fc_m (by kernel_rfl) (xL10 1 zam rfl rfl (xf 6 zao rfl (xf 0 zau rfl ?_)))))))))
 refine xL3 1 zaa rfl rfl (xmi rfl (xmi rfl (TL.callD [] [] (zhx hl) ⟨rfl,rfl,rfl,trivial⟩ trivial zhH rfl rfl rfl rfl rfl (kL1 rfl trivial) (TL.callD [0] [0] (zgE hM hl) ⟨rfl,rfl,trivial⟩ ⟨rfl,trivial⟩ zgn rfl rfl rfl rfl rfl (kL1 rfl trivial) (xai rfl (dB (xmi rfl (TL.eql rfl rfl rfl rfl (fun q1=>?_) (fun q1=>?_)))))))))
 refine dT rfl (xai rfl (xaf rfl (dRR ?_)))
 refine FQ.ret2 (v:=(.int _ _)) (x:=(.bool false)) (Bs:=[A _]) [0] rfl rfl rfl rfl ⟨rfl,trivial⟩ ?_
 first | exact ⟨(by unfold zeV; dsimp only; rw [if_pos q1]),rfl⟩ | exact ⟨(by unfold zeV; dsimp only; rw [if_neg q1]),rfl⟩
 refine dF rfl (xmi rfl (TL.sub _ rfl rfl (rfl) rfl rfl (TL.quo _ rfl rfl (by omega) (quo2 _) rfl rfl (xai rfl (xat rfl (dR ?_))))))
 refine FQ.ret2 (v:=(.int _ _)) (x:=(.bool true)) (Bs:=[A _]) [0] rfl rfl rfl rfl ⟨rfl,trivial⟩ ?_
 first | exact ⟨(by unfold zeV; dsimp only; rw [if_pos q1]),rfl⟩ | exact ⟨(by unfold zeV; dsimp only; rw [if_neg q1]),rfl⟩
theorem zhs {S:Type} [MemLike S] {mt:TypeId} {mv:Value} {A:S→Assn} (hM:MemI Tryz.prog mt mv A) {l:Lay} (hl:l.Ok) {p:Pen} {σ:S} {s i:Int} {on:Bool} {k:Nat} {σ2:S} (h:lmark l k σ s i on=some σ2):FnD Tryz.prog 142 [adjV l mt mv p,.int .i64 s,.int .i64 i,.bool on] [A σ] (.tuple #[]) [A σ2]:=by
 unfold lmark at h
 refine Fn.enter (Tryz.func142) rfl rfl (fun w0 R=>?_)
 refine sA (xB 1 rfl (fun bk1=>(TL.done (TQ.then (TC.draw [(0,true),(1,true),(2,true),(3,true),(4,true),(5,true),(6,true),(7,true),(8,true),(9,true),(11,true),(10,false),(12,false)] [1] fc_m (by kernel_rfl) (xf 0 zaj rfl (xf 0 za4 rfl (xf 0 zai rfl (xL6 1 zab rfl rfl ?_)))))))))
 refine xf 0 zaj rfl (xf 6 zao rfl (xf 0 zau rfl (xL3 1 zaa rfl rfl (xmi rfl (xmi rfl (xmb rfl (TL.callD [] [] (znp hl) ⟨rfl,rfl,rfl,rfl,trivial⟩ trivial zjq rfl rfl rfl rfl rfl (kL1 rfl trivial) (TL.callD [0] [0] (zlL hM hl (by decide) h) ⟨rfl,rfl,rfl,rfl,trivial⟩ ⟨rfl,trivial⟩ zmw rfl rfl rfl rfl rfl (kL1 rfl trivial) ?_))))))))
 refine TL.done ?_
 refine FQ.end0 (Bs:=[A _]) [0] rfl rfl ⟨rfl,trivial⟩ ?_
 exact ⟨rfl,rfl⟩
theorem zjL {S:Type} [MemLike S] {mt:TypeId} {mv:Value} {A:S→Assn} (hM:MemI Tryz.prog mt mv A) {l:Lay} (hl:l.Ok) {p:Pen} {σ:S} {s:Int} {k:Nat} {σ2:S} (h:plant l p k σ s=some σ2):FnD Tryz.prog 112 [adjV l mt mv p,.int .i64 s] [A σ] (.tuple #[]) [A σ2]:=by
 unfold plant at h
 dsimp only at h
 obtain ⟨σ1,h1,h2⟩:=Option.bind_eq_some_iff.1 h
 refine Fn.enter (Tryz.func112) rfl rfl (fun w0 R=>?_)
 refine sA (xB 1 rfl (fun bk1=>(dA (xf 0 zaj rfl (xf 6 zao rfl (xL4 1 zaL rfl rfl (xmi rfl (TL.callD [0] [0] (zdI hM hl) ⟨rfl,rfl,trivial⟩ ⟨rfl,trivial⟩ zdG rfl rfl rfl rfl rfl trivial (TL.alloc 2 (cs:=#[.int .i64 0,.int .i64 0,.int .i64 0,.bool false]) zdE rfl rfl rfl (fun _=>trivial) (fun bk2=>?_))))))))))
 refine TL.stW 2 4 [_,_,_,_] rfl rfl rfl rfl rfl rfl zci rfl rfl trivial (dA (xf 0 zaj rfl (xf 6 zao rfl (xL4 1 zaL rfl rfl (xmi rfl (TL.callD [0] [0] (zoc hM hl) ⟨rfl,rfl,rfl,trivial⟩ ⟨rfl,trivial⟩ zqd rfl rfl rfl rfl rfl trivial (dB (xf 2 za1 rfl ?_))))))))
 refine xli 2 zaf rfl rfl (TL.add _ rfl rfl (rfl) rfl rfl (xmi rfl (dK (TC.loopK (X:=Nat×S×Int) [1,2,4,18] [1,2] (fun y=>[(19,.int .i64 y.2.2)]) (fun y=>[(0,A y.2.1)]) (fun y=>zc4 l p s (eget l σ s).u (eget l σ s).v y.1 k y.2.1 y.2.2 (IntKind.i64.wrap ((eget l σ s).level+1))=some σ1) (fun y=>y.1) ((k,_,0)) h1 ⟨rfl,trivial⟩ ⟨rfl,trivial⟩ (fun y hI=>?_)))))
 obtain ⟨j,σ3,z⟩:=y
 rcases j with _ | j
 ·simp [zc4] at hI
 dsimp only at hI
 refine TC.sub (env':=[(19,_),(1,_),(2,_),(4,_),(18,_)]) (L':=[(0,_),(1,_),(2,_)]) ⟨rfl,rfl,rfl,rfl,rfl,trivial⟩ ⟨rfl,rfl,rfl,trivial⟩ (sA (TL.lss rfl rfl rfl rfl (fun q1=>?_) (fun q1=>?_)))
 refine dS (TC.condT rfl (TC.skip (TQ.then (TC.seq (TC.block (sA (xmi rfl (xai rfl ?_))))))))
 refine dG (xf 0 zaj rfl (xf 0 za4 rfl (xL6 1 zbx rfl rfl (xmi rfl (xmi rfl (xf 0 zbt rfl (xli 2 zaf rfl rfl (xf 1 zbs rfl ?_))))))))
 refine xli 2 zaf rfl rfl ?_
 rw [zc4,if_pos q1] at hI
 obtain ⟨⟨r,σ4⟩,h3,h4⟩:=Option.bind_eq_some_iff.1 hI
 refine TL.callD [0] [0] (zlT hM hl h3) ⟨rfl,rfl,rfl,rfl,rfl,trivial⟩ ⟨rfl,trivial⟩ zmF rfl rfl rfl rfl rfl trivial (dI (TL.add _ rfl rfl (rfl) rfl rfl (xmi rfl (TL.done (TQ.roundK ((j,_,_)) ⟨h4,Nat.lt_succ_self _⟩ ⟨rfl,trivial⟩ ⟨rfl,trivial⟩ (kE4 rfl rfl rfl rfl trivial) (kL2 rfl rfl trivial))))))
 refine dS (TC.condF rfl (TC.exit (TQ.thenExit (TQ.thenExit (TQ.blockHere (TQ.then (TC.region (xL10 1 za2 rfl rfl ?_))))))))
 refine xmi rfl (xf 2 za1 rfl (xli 2 zaf rfl rfl ?_))
 rw [zc4,if_neg q1] at hI
 cases hI
 refine TL.callD [0] [0] (zhs hM hl h2) ⟨rfl,rfl,rfl,rfl,trivial⟩ ⟨rfl,trivial⟩ zjt rfl rfl rfl rfl rfl trivial (TL.done ?_)
 refine FQ.end0 (Bs:=[A _]) [0] rfl rfl ⟨rfl,trivial⟩ ?_
 exact ⟨rfl,rfl⟩
theorem zpN {S:Type} [MemLike S] {mt:TypeId} {mv:Value} {A:S→Assn} (hM:MemI Tryz.prog mt mv A) {l:Lay} (hl:l.Ok) {p:Pen} {σ:S} {s:Int} {k:Nat} {σ2:S} (h:fell l p k σ s=some σ2):FnD Tryz.prog 128 [adjV l mt mv p,.int .i64 s] [A σ] (.tuple #[]) [A σ2]:=by
 unfold fell at h
 refine Fn.enter (Tryz.func128) rfl rfl (fun w0 R=>?_)
 refine sA (xB 1 rfl (fun bk1=>(dA (xf 0 zaj rfl (xf 6 zao rfl (xL4 1 zaL rfl rfl (xmi rfl (TL.callD [0] [0] (zdI hM hl) ⟨rfl,rfl,trivial⟩ ⟨rfl,trivial⟩ zdG rfl rfl rfl rfl rfl trivial (TL.fv 2 3 (.int _ _) rfl zeP zaf rfl rfl rfl ?_)))))))))
 refine TL.add _ rfl rfl (rfl) rfl rfl (xmi rfl (dK (TC.loopK (X:=Nat×S×Int) [1,2,11] [1] (fun y=>[(12,.int .i64 y.2.2)]) (fun y=>[(0,A y.2.1)]) (fun y=>zfF l p s y.1 k y.2.1 y.2.2 (IntKind.i64.wrap ((eget l σ s).level+1))=some σ2) (fun y=>y.1) ((k,_,0)) h ⟨rfl,trivial⟩ ⟨rfl,trivial⟩ (fun y hI=>?_))))
 obtain ⟨j,σ3,z⟩:=y
 rcases j with _ | j
 ·simp [zfF] at hI
 dsimp only at hI
 refine TC.sub (env':=[(12,_),(1,_),(2,_),(11,_)]) (L':=[(0,_),(1,_)]) ⟨rfl,rfl,rfl,rfl,trivial⟩ ⟨rfl,rfl,trivial⟩ (sA (TL.lss rfl rfl rfl rfl (fun q1=>?_) (fun q1=>?_)))
 refine dS (TC.condT rfl (TC.skip (TQ.then (TC.seq (TC.block (sA (xmi rfl (xai rfl ?_))))))))
 refine dG (xf 0 zaj rfl (xf 0 za4 rfl (xL6 1 zbx rfl rfl (xmi rfl (xmi rfl ?_)))))
 rw [zfF,if_pos q1] at hI
 obtain ⟨⟨r,σ4⟩,h3,h4⟩:=Option.bind_eq_some_iff.1 hI
 refine TL.callD [0] [0] (zrp hM hl h3) ⟨rfl,rfl,rfl,trivial⟩ ⟨rfl,trivial⟩ zqb rfl rfl rfl rfl rfl trivial (dI (TL.add _ rfl rfl (rfl) rfl rfl (xmi rfl (TL.done (TQ.roundK ((j,_,_)) ⟨h4,Nat.lt_succ_self _⟩ ⟨rfl,trivial⟩ ⟨rfl,trivial⟩ (kE3 rfl rfl rfl trivial) (kL1 rfl trivial))))))
 refine dS (TC.condF rfl (TC.exit (TQ.thenExit (TQ.thenExit (TQ.blockHere ?_)))))
 refine FQ.end0 (Bs:=[A _]) [0] rfl rfl ⟨rfl,trivial⟩ ?_
 rw [zfF,if_neg q1] at hI; cases hI; exact ⟨rfl,rfl⟩
theorem zk6 {S:Type} [MemLike S] {mt:TypeId} {mv:Value} {A:S→Assn} (hM:MemI Tryz.prog mt mv A) {l:Lay} (hl:l.Ok) {p:Pen} {σ:S} {s:Int} {k:Nat} {σ2:S} (h:treeUp l p k σ s=some σ2):FnD Tryz.prog 179 [adjV l mt mv p,.int .i64 s] [A σ] (.tuple #[]) [A σ2]:=by
 unfold treeUp at h
 dsimp only at h
 obtain ⟨σ1,h1,h⟩:=Option.bind_eq_some_iff.1 h
 obtain ⟨⟨r,σ3⟩,h2,h3⟩:=Option.bind_eq_some_iff.1 h
 dsimp only at h3
 refine Fn.enter (Tryz.func179) rfl rfl (fun w0 R=>?_)
 refine sA (xB 1 rfl (fun bk1=>(dA (xf 0 zaj rfl (xf 6 zao rfl (xL4 1 zaL rfl rfl (xmi rfl (TL.callD [0] [0] (zdI hM hl) ⟨rfl,rfl,trivial⟩ ⟨rfl,trivial⟩ zdG rfl rfl rfl rfl rfl trivial (TL.alloc 2 (cs:=#[.int .i64 0,.int .i64 0,.int .i64 0,.bool false]) zdE rfl rfl rfl (fun _=>trivial) (fun bk2=>?_))))))))))
 refine TL.stW 2 4 [_,_,_,_] rfl rfl rfl rfl rfl rfl zci rfl rfl trivial (dA (xL10 1 za2 rfl rfl (xmi rfl (xf 2 za1 rfl (xli 2 zaf rfl rfl (TL.callD [0] [0] (zhs hM hl h1) ⟨rfl,rfl,rfl,rfl,trivial⟩ ⟨rfl,trivial⟩ zjt rfl rfl rfl rfl rfl trivial (dA (xf 0 zaj rfl ?_))))))))
 refine xf 6 zao rfl (xL4 1 zaL rfl rfl (xmi rfl (xf 2 za1 rfl (xli 2 zaf rfl rfl (TL.add _ rfl rfl (rfl) rfl rfl (TL.callD [0] [0] (zj8 hM hl) ⟨rfl,rfl,rfl,trivial⟩ ⟨rfl,trivial⟩ zmt rfl rfl rfl rfl rfl trivial (dA (xf 0 zaj rfl ?_))))))))
 refine xf 0 za4 rfl (xL6 1 zbx rfl rfl (xf 2 za1 rfl (xli 2 zaf rfl rfl (TL.add _ rfl rfl (rfl) rfl rfl (xmi rfl (xf 0 zbt rfl (xli 2 zaf rfl rfl (xf 1 zbs rfl ?_))))))))
 refine xli 2 zaf rfl rfl (TL.callD [0] [0] (zlT hM hl h2) ⟨rfl,rfl,rfl,rfl,rfl,trivial⟩ ⟨rfl,trivial⟩ zmF rfl rfl rfl rfl rfl trivial (dG (xL10 1 za2 rfl rfl (xmi rfl (xf 2 za1 rfl (xli 2 zaf rfl rfl (TL.add _ rfl rfl (rfl) rfl rfl (TL.callD [0] [0] (zhs hM hl h3) ⟨rfl,rfl,rfl,rfl,trivial⟩ ⟨rfl,trivial⟩ zjt rfl rfl rfl rfl rfl trivial ?_))))))))
 refine TL.done ?_
 refine FQ.end0 (Bs:=[A _]) [0] rfl rfl ⟨rfl,trivial⟩ ?_
 exact ⟨rfl,rfl⟩
theorem znS {S:Type} [MemLike S] {mt:TypeId} {mv:Value} {A:S→Assn} (hM:MemI Tryz.prog mt mv A) {l:Lay} (hl:l.Ok) {p:Pen} {σ:S} {s:Int} {k:Nat} {σ2:S} (h:plain l k σ s=some σ2):FnD Tryz.prog 181 [adjV l mt mv p,.int .i64 s] [A σ] (.tuple #[]) [A σ2]:=by
 unfold plain at h
 dsimp only at h
 obtain ⟨σ1,h1,h2⟩:=Option.bind_eq_some_iff.1 h
 refine Fn.enter (Tryz.func181) rfl rfl (fun w0 R=>?_)
 refine sA (xB 1 rfl (fun bk1=>(dA (xf 0 zaj rfl (xf 6 zao rfl (xL4 1 zaL rfl rfl (xmi rfl (TL.callD [0] [0] (zdI hM hl) ⟨rfl,rfl,trivial⟩ ⟨rfl,trivial⟩ zdG rfl rfl rfl rfl rfl trivial (TL.fv 2 3 (.int _ _) rfl zeP zaf rfl rfl rfl ?_)))))))))
 refine xai rfl (dA (xf 0 zaj rfl (xL10 1 zam rfl rfl (xmi rfl (TL.callD [0] [0] (zgz hM hl h1) ⟨rfl,rfl,trivial⟩ ⟨rfl,trivial⟩ zjv rfl rfl rfl rfl rfl trivial (dA (xf 0 zaj rfl (xf 6 zao rfl ?_))))))))
 refine xL4 1 zaL rfl rfl (xmi rfl (xmi rfl (TL.add _ rfl rfl (rfl) rfl rfl (TL.callD [0] [0] (zj8 hM hl) ⟨rfl,rfl,rfl,trivial⟩ ⟨rfl,trivial⟩ zmt rfl rfl rfl rfl rfl trivial (dG (xf 0 zaj rfl (xL10 1 zam rfl rfl (xmi rfl ?_))))))))
 refine TL.callD [0] [0] (ziE hM hl h2) ⟨rfl,rfl,trivial⟩ ⟨rfl,trivial⟩ zmS rfl rfl rfl rfl rfl trivial (TL.done ?_)
 refine FQ.end0 (Bs:=[A _]) [0] rfl rfl ⟨rfl,trivial⟩ ?_
 exact ⟨rfl,rfl⟩
theorem zeJ {S:Type} [MemLike S] {mt:TypeId} {mv:Value} {A:S→Assn} (hM:MemI Tryz.prog mt mv A) {l:Lay} (hl:l.Ok) {p:Pen} {σ:S} {i v m r:Int} {k:Nat} {σ2:S} (h0:0≤m) (h:lfirst l k σ i v m=some (r,σ2)):FnD Tryz.prog 178 [adjV l mt mv p,.int .i64 i,.int .i64 v,.int .i64 m] [A σ] (.int .i64 r) [A σ2]:=by
 unfold lfirst at h
 obtain ⟨⟨a,σ1⟩,h1,h2⟩:=Option.bind_eq_some_iff.1 h
 refine Fn.enter (Tryz.func178) rfl rfl (fun w0 R=>?_)
 refine sA (xB 1 rfl (fun bk1=>(xai rfl (dS (TC.draw [(0,true),(1,true),(2,true),(3,true),(4,true),(5,true),(6,true),(7,true),(8,true),(9,true),(10,true),(11,true),(12,true),(13,true),(16,true),(14,false),(15,false),(17,false),(18,true)] [1] fc_m (by kernel_rfl) (xf 0 zaj rfl (xf 0 za4 rfl (xf 0 zai rfl (xL6 1 zab rfl rfl ?_)))))))))
 refine xf 0 zaj rfl (xf 0 za4 rfl (xf 0 zai rfl (xL6 1 zab rfl rfl (xf 0 zaj rfl (xf 6 zao rfl (xf 0 zau rfl (xL3 1 zaa rfl rfl (xmi rfl ?_))))))))
 refine xmi rfl (xmi rfl (TL.callD [] [] (zcd hl) ⟨rfl,rfl,rfl,trivial⟩ trivial zfw rfl rfl rfl rfl rfl (kL1 rfl trivial) (TL.callD [0] [0] (zed hM hl h1) ⟨rfl,rfl,trivial⟩ ⟨rfl,trivial⟩ zgi rfl rfl rfl rfl rfl (kL1 rfl trivial) (TL.callD [0] [0] (zn8 hM hl h0 h2) ⟨rfl,rfl,rfl,trivial⟩ ⟨rfl,trivial⟩ zpZ rfl rfl rfl rfl rfl (kL1 rfl trivial) (xai rfl (dR ?_))))))
 refine FQ.ret1 (v:=(.int _ _)) (Bs:=[A _]) [0] rfl rfl rfl ⟨rfl,trivial⟩ ?_
 exact ⟨rfl,rfl⟩
theorem znz {S:Type} [MemLike S] {mt:TypeId} {mv:Value} {A:S→Assn} (hM:MemI Tryz.prog mt mv A) {l:Lay} (hl:l.Ok) {p:Pen} {σ:S} {i v:Int} {k:Nat} {σ2:S} (h:trees l p k σ i v=some σ2):FnD Tryz.prog 157 [adjV l mt mv p,.int .i64 i,.int .i64 v] [A σ] (.tuple #[]) [A σ2]:=by
 unfold trees at h
 obtain ⟨⟨a,σ1⟩,h1,h2⟩:=Option.bind_eq_some_iff.1 h
 dsimp only at h2
 refine Fn.enter (Tryz.func157) rfl rfl (fun w0 R=>?_)
 refine sA (xB 1 rfl (fun bk1=>(dA (xL10 1 za2 rfl rfl (xmi rfl (xmi rfl (TL.callD [0] [0] (zeJ hM hl (by decide) h1) ⟨rfl,rfl,rfl,rfl,trivial⟩ ⟨rfl,trivial⟩ zhG rfl rfl rfl rfl rfl trivial (xai rfl (dK ?_)))))))))
 refine TC.loopK (X:=Nat×S×Int) [1,2,3] [1] (fun y=>[(6,.int .i64 y.2.2)]) (fun y=>[(0,A y.2.1)]) (fun y=>zc0 l p i v y.1 k y.2.1 y.2.2=some σ2) (fun y=>y.1) ((k,_,_)) h2 ⟨rfl,trivial⟩ ⟨rfl,trivial⟩ (fun y hI=>?_)
 obtain ⟨j,σ3,z⟩:=y
 rcases j with _ | j
 ·simp [zc0] at hI
 dsimp only at hI
 refine TC.sub (env':=[(6,_),(1,_),(2,_),(3,_)]) (L':=[(0,_),(1,_)]) ⟨rfl,rfl,rfl,rfl,trivial⟩ ⟨rfl,rfl,trivial⟩ (sB (xmi rfl (TL.neq rfl rfl rfl rfl (fun q1=>?_) (fun q1=>?_))))
 refine TL.done (TQ.then (TC.condT rfl (TC.skip (TQ.then (TC.seq (TC.block (sA (xf 0 zaj rfl ?_))))))))
 refine xf 6 zao rfl (xf 0 zau rfl (xL3 1 zaa rfl rfl (xmi rfl (TL.callD [] [] (ze1 hl) ⟨rfl,rfl,trivial⟩ trivial zg3 rfl rfl rfl rfl rfl trivial (xmu rfl (TL.ext (.agg _) rfl rfl rfl rfl (TL.ext (.bool _) rfl rfl rfl rfl (TL.alloc 2 (cs:=#[.bool false,.int .i64 0,.int .i64 0,.int .i64 0,.int .i64 0]) zd6 rfl rfl rfl (fun _=>trivial) (fun bk2=>?_)))))))))
 refine TL.stW 2 5 [_,_,_,_,_] rfl rfl rfl rfl rfl rfl zbG rfl rfl trivial (xab rfl (dG (xL10 1 za2 rfl rfl (xf 3 zkL rfl (xli 2 zaf rfl rfl ?_)))))
 rw [zc0,if_pos q1] at hI
 obtain ⟨σ4,h3,hI⟩:=Option.bind_eq_some_iff.1 hI
 obtain ⟨⟨r,σ5⟩,h5,h6⟩:=Option.bind_eq_some_iff.1 hI
 refine TL.callD [0] [0] (zk6 hM hl h3) ⟨rfl,rfl,trivial⟩ ⟨rfl,trivial⟩ zp5 rfl rfl rfl rfl rfl trivial (dI (xL10 1 za2 rfl rfl (xmi rfl (xmi rfl (TL.callD [0] [0] (zeJ hM hl (by decide) h5) ⟨rfl,rfl,rfl,rfl,trivial⟩ ⟨rfl,trivial⟩ zhG rfl rfl rfl rfl rfl trivial (xai rfl (TL.done (TQ.roundK ((j,_,_)) ⟨h6,Nat.lt_succ_self _⟩ ⟨rfl,trivial⟩ ⟨rfl,trivial⟩ (kE3 rfl rfl rfl trivial) (kL1 rfl trivial)))))))))
 refine TL.done (TQ.then (TC.condF rfl (TC.exit (TQ.thenExit (TQ.thenExit (TQ.blockHere ?_))))))
 refine FQ.end0 (Bs:=[A _]) [0] rfl rfl ⟨rfl,trivial⟩ ?_
 rw [zc0,if_neg q1] at hI; cases hI; exact ⟨rfl,rfl⟩
theorem zpj {S:Type} [MemLike S] {mt:TypeId} {mv:Value} {A:S→Assn} (hM:MemI Tryz.prog mt mv A) {l:Lay} (hl:l.Ok) {p:Pen} {σ:S} {i v:Int} {r:Int×Bool} {k:Nat} {σ2:S} (h:seek l k σ i v=some (r,σ2)):FnD Tryz.prog 158 [adjV l mt mv p,.int .i64 i,.int .i64 v] [A σ] (.tuple #[.int .i64 r.1,.bool r.2]) [A σ2]:=by
 unfold seek at h
 obtain ⟨⟨a,σ1⟩,h1,h2⟩:=Option.bind_eq_some_iff.1 h
 dsimp only at h2
 refine Fn.enter (Tryz.func158) rfl rfl (fun w0 R=>?_)
 refine sA (xB 1 rfl (fun bk1=>(xai rfl (xaf rfl (dB (xL10 1 za2 rfl rfl (xmi rfl (xmi rfl (TL.callD [0] [0] (zeJ hM hl (by decide) h1) ⟨rfl,rfl,rfl,rfl,trivial⟩ ⟨rfl,trivial⟩ zhG rfl rfl rfl rfl rfl trivial ?_)))))))))
 refine xai rfl (dK (TC.loopK (X:=Nat×S×Int) [1,2,3] [1] (fun y=>[(8,.int .i64 y.2.2),(6,.int .i64 0),(7,.bool false)]) (fun y=>[(0,A y.2.1)]) (fun y=>zec l i v y.1 k y.2.1 y.2.2=some (r,σ2)) (fun y=>y.1) ((k,_,_)) h2 ⟨rfl,rfl,rfl,trivial⟩ ⟨rfl,trivial⟩ (fun y hI=>?_)))
 obtain ⟨j,σ3,z⟩:=y
 rcases j with _ | j
 ·simp [zec] at hI
 dsimp only at hI
 refine TC.sub (env':=[(8,_),(6,_),(7,_),(1,_),(2,_),(3,_)]) (L':=[(0,_),(1,_)]) ⟨rfl,rfl,rfl,rfl,rfl,rfl,trivial⟩ ⟨rfl,rfl,trivial⟩ (sB (xmi rfl (TL.neq rfl rfl rfl rfl (fun q1=>?_) (fun q1=>?_))))
 refine TL.done (TQ.then (TC.condT rfl (TC.skip (TQ.then (TC.seq (TC.block (sA (xf 0 zaj rfl ?_))))))))
 refine xf 6 zao rfl (xf 0 zau rfl (xL3 1 zaa rfl rfl (xmi rfl (TL.callD [] [] (ze1 hl) ⟨rfl,rfl,trivial⟩ trivial zg3 rfl rfl rfl rfl rfl trivial (xmu rfl (TL.ext (.agg _) rfl rfl rfl rfl (TL.ext (.bool _) rfl rfl rfl rfl (TL.alloc 2 (cs:=#[.bool false,.int .i64 0,.int .i64 0,.int .i64 0,.int .i64 0]) zd6 rfl rfl rfl (fun _=>trivial) (fun bk2=>?_)))))))))
 refine TL.stW 2 5 [_,_,_,_,_] rfl rfl rfl rfl rfl rfl zbG rfl rfl trivial (xab rfl (dA (xf 0 zaj rfl (xL10 1 zam rfl rfl (xf 2 zkM rfl (xli 2 zaf rfl rfl (xmi rfl (TL.callD [0] [0] (znt hM hl) ⟨rfl,rfl,rfl,trivial⟩ ⟨rfl,trivial⟩ zp4 rfl rfl rfl rfl rfl trivial ?_))))))))
 refine xmu rfl (xei rfl rfl (TL.ext (.bool _) rfl rfl rfl rfl (xai rfl (xab rfl (dB (xf 0 zaj rfl (xf 6 zao rfl (xL4 1 zaL rfl rfl ?_))))))))
 refine xmi rfl (TL.callD [0] [0] (zdI hM hl) ⟨rfl,rfl,trivial⟩ ⟨rfl,trivial⟩ zdG rfl rfl rfl rfl rfl trivial (TL.alloc 3 (cs:=#[.int .i64 0,.int .i64 0,.int .i64 0,.bool false]) zdE rfl rfl rfl (fun _=>trivial) (fun bk3=>(TL.stW 3 4 [_,_,_,_] rfl rfl rfl rfl rfl rfl zci rfl rfl trivial (dA (xf 0 zaj rfl (xf 0 za4 rfl (xL6 1 zbx rfl rfl (xmi rfl ?_)))))))))
 refine xf 0 zbt rfl (xli 3 zaf rfl rfl (xf 1 zbs rfl (xli 3 zaf rfl rfl ?_)))
 rw [zec,if_pos q1] at hI
 dsimp only at hI
 obtain ⟨⟨b,σ4⟩,h3,hI⟩:=Option.bind_eq_some_iff.1 hI
 dsimp only at hI
 refine TL.callD [0] [0] (zll hM hl h3) ⟨rfl,rfl,rfl,rfl,trivial⟩ ⟨rfl,trivial⟩ zmU rfl rfl rfl rfl rfl trivial (TL.cases rfl (fun q2=>?_) (fun q2=>?_))
 refine xnt rfl (TL.done (TQ.then (TC.condF rfl (TC.skip (TQ.then (TC.region (xL10 1 za2 rfl rfl (xmi rfl ?_))))))))
 rw [if_pos (by simpa using q2)] at hI
 obtain ⟨σ5,h4,hI⟩:=Option.bind_eq_some_iff.1 hI
 obtain ⟨⟨r2,σ6⟩,h5,h6⟩:=Option.bind_eq_some_iff.1 hI
 refine TL.callD [0] [0] (znS hM hl h4) ⟨rfl,rfl,trivial⟩ ⟨rfl,trivial⟩ zp3 rfl rfl rfl rfl rfl trivial (dI (xL10 1 za2 rfl rfl (xmi rfl (xmi rfl (TL.callD [0] [0] (zeJ hM hl (by decide) h5) ⟨rfl,rfl,rfl,rfl,trivial⟩ ⟨rfl,trivial⟩ zhG rfl rfl rfl rfl rfl trivial (xai rfl (TL.done (TQ.roundK ((j,_,_)) ⟨h6,Nat.lt_succ_self _⟩ ⟨rfl,rfl,rfl,trivial⟩ ⟨rfl,trivial⟩ (kE3 rfl rfl rfl trivial) (kL1 rfl trivial)))))))))
 refine xnf rfl (dT rfl (xmi rfl (xai rfl (xat rfl (dRR (TQ.blockRet (TQ.thenRet (TQ.thenRet ?_))))))))
 refine TQ.blockRet (TQ.thenRet ?_)
 refine FQ.ret2 (v:=(.int _ _)) (x:=(.bool true)) (Bs:=[A _]) [0] rfl rfl rfl rfl ⟨rfl,trivial⟩ ?_
 rw [if_neg (by simpa using q2)] at hI; cases hI; exact ⟨rfl,rfl⟩
 refine dE rfl (sA (xai rfl (xaf rfl (dR ?_))))
 refine FQ.ret2 (v:=(.int _ _)) (x:=(.bool false)) (Bs:=[A _]) [0] rfl rfl rfl rfl ⟨rfl,trivial⟩ ?_
 rw [zec,if_neg q1] at hI; cases hI; exact ⟨rfl,rfl⟩
theorem zkq {S:Type} [MemLike S] {mt:TypeId} {mv:Value} {A:S→Assn} (hM:MemI Tryz.prog mt mv A) {l:Lay} (hl:l.Ok) {p:Pen} {σ:S} {i u v r:Int} {k:Nat} {σ2:S} (h:smaller l k σ i u v=some (r,σ2)):FnD Tryz.prog 156 [adjV l mt mv p,.int .i64 i,.int .i64 u,.int .i64 v] [A σ] (.int .i64 r) [A σ2]:=by
 unfold smaller at h
 obtain ⟨⟨a,σ1⟩,h1,h⟩:=Option.bind_eq_some_iff.1 h
 obtain ⟨⟨b,σ3⟩,h2,h⟩:=Option.bind_eq_some_iff.1 h
 dsimp only at h2 h
 cases h
 refine Fn.enter (Tryz.func156) rfl rfl (fun w0 R=>?_)
 refine sA (xB 1 rfl (fun bk1=>(xai rfl (dS (TC.seq (TC.draw [(0,true),(1,true),(2,true),(3,true),(4,true),(6,true),(7,true),(8,true),(9,true),(10,true),(5,false),(11,false),(12,true)] [1] fc_m (by kernel_rfl) (xf 0 zaj rfl (xf 0 za4 rfl (xL6 1 zbx rfl rfl ?_)))))))))
 refine xmi rfl (xmi rfl (xf 0 zaj rfl (xf 0 za4 rfl (xL6 1 zbx rfl rfl (xmi rfl (xmi rfl (TL.callD [0] [0] (zkd hM hl h1) ⟨rfl,rfl,rfl,trivial⟩ ⟨rfl,trivial⟩ zmv rfl rfl rfl rfl rfl (kL1 rfl trivial) (TL.callD [0] [0] (zkd hM hl h2) ⟨rfl,rfl,rfl,trivial⟩ ⟨rfl,trivial⟩ zmv rfl rfl rfl rfl rfl (kL1 rfl trivial) ?_))))))))
 refine TL.lss rfl rfl rfl rfl (fun q1=>?_) (fun q1=>?_)
 refine dT rfl (xmi rfl (xai rfl (dRR ?_)))
 refine FQ.ret1 (v:=(.int _ _)) (Bs:=[A _]) [0] rfl rfl rfl ⟨rfl,trivial⟩ ?_
 first | exact ⟨iE (by rw [if_pos q1]),rfl⟩ | exact ⟨iE (by rw [if_neg q1]),rfl⟩
 refine dF rfl (xmi rfl (xai rfl (dR ?_)))
 refine FQ.ret1 (v:=(.int _ _)) (Bs:=[A _]) [0] rfl rfl rfl ⟨rfl,trivial⟩ ?_
 first | exact ⟨iE (by rw [if_pos q1]),rfl⟩ | exact ⟨iE (by rw [if_neg q1]),rfl⟩
theorem zhz {mt:TypeId} {mv:Value} {l:Lay} {p:Pen}:FnD Tryz.prog 37 [layV l,.iface mt mv,.agg #[.int .i64 p.thread,.int .i64 p.tag]] [] (adjV l mt mv p) []:=by
 refine Fn.enter (Tryz.func37) rfl rfl (fun w0 R=>?_)
 refine sA (xB 0 rfl (fun bk0=>(xB 1 rfl (fun bk1=>(TL.alloc 2 (cs:=#[.int .i64 0,.int .i64 0,.int .i64 0,.nilIface,.int .i64 0,.int .i64 0,.int .i64 0,.int .i64 0,.int .i64 0,.nilIface]) zir rfl rfl rfl (fun _=>trivial) (fun bk2=>(dA (xL3 0 zaa rfl rfl (xmc rfl (xL2 1 zby rfl rfl (TL.bld [.int .i64 0,.int .i64 0,.int .i64 0,.nilIface,.int .i64 0,.int .i64 0] [(.agg _),(.iface _ _),(.agg _)] [_,_,_,_,_,_] zis zmj ⟨rfl,rfl,rfl,trivial⟩ ⟨rfl,rfl⟩ rfl rfl ?_)))))))))))
 refine TL.bld [.int .i64 0,.int .i64 0,.int .i64 0,.nilIface,.int .i64 0,.int .i64 0] [(.agg _)] [_,_,_,_,_,_] zoK zq7 ⟨rfl,trivial⟩ ⟨rfl,rfl⟩ rfl rfl (TL.alloc 3 (cs:=#[.int .i64 0,.int .i64 0,.int .i64 0,.nilIface,.int .i64 0,.int .i64 0]) zoK rfl rfl rfl (fun _=>trivial) (fun bk3=>(TL.stW 3 6 [_,_,_,_,_,_] rfl rfl rfl rfl rfl rfl zbx rfl rfl trivial (dA (xL6 3 zbx rfl rfl (xL3 0 zaa rfl rfl (xmc rfl (TL.bld [.int .i64 0,.int .i64 0,.int .i64 0,.nilIface] [(.agg _),(.iface _ _)] [_,_,_,_] zqZ zq6 ⟨rfl,rfl,trivial⟩ ⟨rfl,rfl⟩ rfl rfl ?_))))))))
 refine TL.bld [.int .i64 0,.int .i64 0,.int .i64 0,.nilIface,.int .i64 0,.int .i64 0,.int .i64 0,.int .i64 0,.int .i64 0,.nilIface] [(.agg _),(.agg _)] [_,_,_,_,_,_,_,_,_,_] zqY zq5 ⟨rfl,rfl,trivial⟩ ⟨rfl,rfl⟩ rfl rfl (TL.bld [.int .i64 0,.int .i64 0,.int .i64 0,.nilIface,.int .i64 0,.int .i64 0,.int .i64 0,.int .i64 0,.int .i64 0,.nilIface] [(.agg _)] [_,_,_,_,_,_,_,_,_,_] zqX zq4 ⟨rfl,trivial⟩ ⟨rfl,rfl⟩ rfl rfl (TL.bld [.int .i64 0,.int .i64 0,.int .i64 0,.nilIface,.int .i64 0,.int .i64 0,.int .i64 0,.int .i64 0,.int .i64 0,.nilIface] [(.agg _)] [_,_,_,_,_,_,_,_,_,_] zir zq3 ⟨rfl,trivial⟩ ⟨rfl,rfl⟩ rfl rfl ?_))
 refine TL.stW 2 10 [_,_,_,_,_,_,_,_,_,_] rfl rfl rfl rfl rfl rfl zaK rfl rfl trivial (dR ?_)
 refine FQ.retG (rs:=[.cell 6 49]) [(.agg _)] (Bs:=[]) [] rfl ⟨⟨_,_,_,_,_,2,rfl,rfl,.inr ⟨10,[_,_,_,_,_,_,_,_,_,_],zaK,rfl,rfl⟩⟩,trivial⟩ rfl rfl trivial ?_
 exact ⟨rfl,rfl⟩
theorem zlW {S:Type} [MemLike S] {mt:TypeId} {mv:Value} {A:S→Assn} (hM:MemI Tryz.prog mt mv A) {l:Lay} (hl:l.Ok) {p:Pen} {σ:S} {u v:Int} {b:Bool} {k:Nat} {σ2:S} (h:same l k σ 0 u v=some (b,σ2)):FnD Tryz.prog 42 [adjV l mt mv p,.int .i64 u,.int .i64 v] [A σ] (.bool b) [A σ2]:=by
 refine Fn.enter (Tryz.func42) rfl rfl (fun w0 R=>?_)
 refine sA (xB 1 rfl (fun bk1=>(xaf rfl (dA (xf 0 zaD rfl (xf 0 zaj rfl (xf 0 za4 rfl (xL6 1 zbx rfl rfl (xmi rfl ?_)))))))))
 refine xmi rfl (TL.callD [0] [0] (zll hM hl h) ⟨rfl,rfl,rfl,rfl,trivial⟩ ⟨rfl,trivial⟩ zmU rfl rfl rfl rfl rfl trivial (xab rfl (dR ?_)))
 refine FQ.ret1 (v:=(.bool _)) (Bs:=[A _]) [0] rfl rfl rfl ⟨rfl,trivial⟩ ?_
 exact ⟨rfl,rfl⟩
theorem zfa {S:Type} [MemLike S] {mt:TypeId} {mv:Value} {A:S→Assn} (hM:MemI Tryz.prog mt mv A) {l:Lay} (hl:l.Ok) {p:Pen} {σ:S} {s u v:Int} {b:Bool} {k:Nat} {σ2:S} (h:zdj l p k σ s u v=some (b,σ2)):FnD Tryz.prog 74 [adjV l mt mv p,.int .i64 s,.int .i64 u,.int .i64 v] [A σ] (.bool b) [A σ2]:=by
 unfold zdj at h
 obtain ⟨⟨j,σ1⟩,h1,h⟩:=Option.bind_eq_some_iff.1 h
 dsimp only at h
 refine Fn.enter (Tryz.func74) rfl rfl (fun w0 R=>?_)
 refine sA (xB 1 rfl (fun bk1=>(xaf rfl (dA (xL10 1 zaK rfl rfl (xmi rfl (xmi rfl (TL.callD [0] [0] (zlW hM hl h1) ⟨rfl,rfl,rfl,trivial⟩ ⟨rfl,trivial⟩ zrj rfl rfl rfl rfl rfl trivial (xab rfl ?_)))))))))
 refine dA (xf 0 zaD rfl (xf 0 zaj rfl (xf 6 zao rfl (xL4 1 zaL rfl rfl (xmi rfl (xmi rfl (xmi rfl (TL.callD [0] [0] (zqo hM hl) ⟨rfl,rfl,rfl,rfl,rfl,rfl,trivial⟩ ⟨rfl,trivial⟩ zqj rfl rfl rfl rfl rfl trivial ?_))))))))
 refine dB (xmb rfl (TL.cases rfl (fun q1=>?_) (fun q1=>?_)))
 refine TL.done (TQ.then (TC.condT rfl (TC.region (xf 0 zaD rfl (xf 0 zaj rfl (xL10 1 zam rfl rfl (xmi rfl ?_)))))))
 rw [if_pos (by simpa using q1)] at h
 obtain ⟨σ3,h2,h3⟩:=Option.bind_eq_some_iff.1 h
 cases h3
 refine TL.callD [0] [0] (ziE hM hl h2) ⟨rfl,rfl,trivial⟩ ⟨rfl,trivial⟩ zmS rfl rfl rfl rfl rfl trivial (dA (xmb rfl (TL.not _ _ rfl rfl rfl rfl (xab rfl (dR ?_)))))
 refine FQ.ret1 (v:=(.bool _)) (Bs:=[A _]) [0] rfl rfl rfl ⟨rfl,trivial⟩ ?_
 first | exact ⟨by rw [q1]; rfl,rfl⟩ | exact ⟨by simp [*],rfl⟩
 refine TL.done (TQ.then (TC.condF rfl (TC.region (xf 0 zaD rfl (xL10 1 za2 rfl rfl (xmi rfl ?_))))))
 rw [if_neg (by simpa using q1)] at h
 obtain ⟨σ3,h2,h3⟩:=Option.bind_eq_some_iff.1 h
 cases h3
 refine TL.callD [0] [0] (zjL hM hl h2) ⟨rfl,rfl,trivial⟩ ⟨rfl,trivial⟩ zmR rfl rfl rfl rfl rfl trivial (dA (xmb rfl (TL.not _ _ rfl rfl rfl rfl (xab rfl (dR ?_)))))
 refine FQ.ret1 (v:=(.bool _)) (Bs:=[A _]) [0] rfl rfl rfl ⟨rfl,trivial⟩ ?_
 first | exact ⟨by rw [q1]; rfl,rfl⟩ | exact ⟨by simp [*],rfl⟩
theorem zkx {S:Type} [MemLike S] {mt:TypeId} {mv:Value} {A:S→Assn} (hM:MemI Tryz.prog mt mv A) {l:Lay} (hl:l.Ok) {p:Pen} {σ:S} {i u v:Int} {r:Int×Bool} {k:Nat} {σ2:S} (h:replace l p k σ i u v=some (r,σ2)):FnD Tryz.prog 129 [adjV l mt mv p,.int .i64 i,.int .i64 u,.int .i64 v] [A σ] (.tuple #[.int .i64 r.1,.bool r.2]) [A σ2]:=by
 unfold replace at h
 refine Fn.enter (Tryz.func129) rfl rfl (fun w0 R=>?_)
 refine sA (xB 1 rfl (fun bk1=>(xai rfl (xaf rfl (dB (xmi rfl (TL.add _ rfl rfl (rfl) rfl rfl (xf 0 zaD rfl (xf 0 zaj rfl ?_)))))))))
 refine xf 6 zao rfl (xf 0 zau rfl (xL3 1 zaa rfl rfl (TL.callD [] [] (zbC hl) ⟨rfl,trivial⟩ trivial zd8 rfl rfl rfl rfl rfl trivial (TL.geq rfl rfl rfl rfl (fun q1=>?_) (fun q1=>?_)))))
 refine dT rfl (xai rfl (xaf rfl (dRR ?_)))
 refine FQ.ret2 (v:=(.int _ _)) (x:=(.bool false)) (Bs:=[A _]) [0] rfl rfl rfl rfl ⟨rfl,trivial⟩ ?_
 first | (rw [if_pos (by omega)] at h; cases h; exact ⟨rfl,rfl⟩) | exact ⟨by dsimp only at q2; rw [q2],rfl⟩ | (rw [if_neg (by simpa using q2)] at h; cases h; exact ⟨by simp_all,rfl⟩)
 refine dF rfl (xf 0 zaD rfl (xL10 1 za2 rfl rfl (xmi rfl (xmi rfl (xmi rfl ?_)))))
 rw [if_neg (by omega)] at h
 obtain ⟨⟨w,σ3⟩,h1,h⟩:=Option.bind_eq_some_iff.1 h
 obtain ⟨σ4,h2,h⟩:=Option.bind_eq_some_iff.1 h
 obtain ⟨⟨⟨b,ok⟩,σ5⟩,h3,h⟩:=Option.bind_eq_some_iff.1 h
 dsimp only at h2 h3 h
 refine TL.callD [0] [0] (zkq hM hl h1) ⟨rfl,rfl,rfl,rfl,trivial⟩ ⟨rfl,trivial⟩ zqa rfl rfl rfl rfl rfl trivial (xai rfl (dA (xf 0 zaD rfl (xL10 1 za2 rfl rfl (xmi rfl (xmi rfl (TL.callD [0] [0] (znz hM hl h2) ⟨rfl,rfl,rfl,trivial⟩ ⟨rfl,trivial⟩ zp9 rfl rfl rfl rfl rfl trivial (dB ?_))))))))
 refine xf 0 zaD rfl (xL10 1 za2 rfl rfl (xmi rfl (xmi rfl (TL.callD [0] [0] (zpj hM hl h3) ⟨rfl,rfl,rfl,trivial⟩ ⟨rfl,trivial⟩ zp8 rfl rfl rfl rfl rfl trivial (xmu rfl (xei rfl rfl (TL.ext (.bool _) rfl rfl rfl rfl (xai rfl ?_))))))))
 refine xab rfl (dA (xmb rfl (TL.cases rfl (fun q2=>?_) (fun q2=>?_))))
 refine dT rfl (xf 0 zaD rfl (xf 0 zaj rfl (xL10 1 zam rfl rfl (xmi rfl ?_))))
 rw [if_pos (by simpa using q2)] at h
 obtain ⟨σ6,h4,h⟩:=Option.bind_eq_some_iff.1 h
 obtain ⟨σ7,h5,h6⟩:=Option.bind_eq_some_iff.1 h
 cases h6
 refine TL.callD [0] [0] (zgz hM hl h4) ⟨rfl,rfl,trivial⟩ ⟨rfl,trivial⟩ zjv rfl rfl rfl rfl rfl trivial (dG (xf 0 zaD rfl (xL10 1 za2 rfl rfl (xmi rfl (TL.callD [0] [0] (zjL hM hl h5) ⟨rfl,rfl,trivial⟩ ⟨rfl,trivial⟩ zmR rfl rfl rfl rfl rfl trivial (dA (xmi rfl (xmb rfl ?_))))))))
 refine xai rfl (xab rfl (dR ?_))
 refine FQ.ret2 (v:=(.int _ _)) (x:=(.bool _)) (Bs:=[A _]) [0] rfl rfl rfl rfl ⟨rfl,trivial⟩ ?_
 first | (rw [if_pos (by omega)] at h; cases h; exact ⟨rfl,rfl⟩) | exact ⟨by dsimp only at q2; rw [q2],rfl⟩ | (rw [if_neg (by simpa using q2)] at h; cases h; exact ⟨by simp_all,rfl⟩)
 refine dF rfl (xmi rfl (xmb rfl (xai rfl (xab rfl (dR ?_)))))
 refine FQ.ret2 (v:=(.int _ _)) (x:=(.bool _)) (Bs:=[A _]) [0] rfl rfl rfl rfl ⟨rfl,trivial⟩ ?_
 first | (rw [if_pos (by omega)] at h; cases h; exact ⟨rfl,rfl⟩) | exact ⟨by dsimp only at q2; rw [q2],rfl⟩ | (rw [if_neg (by simpa using q2)] at h; cases h; exact ⟨by simp_all,rfl⟩)
theorem zcy {S:Type} [MemLike S] {mt:TypeId} {mv:Value} {A:S→Assn} (hM:MemI Tryz.prog mt mv A) {l:Lay} (hl:l.Ok) {p:Pen} {σ:S} {s b:Int} {t o:Bool} {k:Nat} {σ2:S} (h:zcr l p k σ s=some ((t,b,o),σ2)):FnD Tryz.prog 96 [adjV l mt mv p,.int .i64 s] [A σ] (.tuple #[.bool t,.int .i64 b,.bool o]) [A σ2]:=by
 unfold zcr at h
 dsimp only at h
 refine Fn.enter (Tryz.func96) rfl rfl (fun w0 R=>?_)
 refine sA (xB 1 rfl (fun bk1=>(xaf rfl (xai rfl (xaf rfl (dA (xf 0 zaD rfl (xf 0 zaj rfl (xf 6 zao rfl ?_)))))))))
 refine xL4 1 zaL rfl rfl (xmi rfl (TL.callD [0] [0] (zdI hM hl) ⟨rfl,rfl,trivial⟩ ⟨rfl,trivial⟩ zdG rfl rfl rfl rfl rfl trivial (TL.alloc 2 (cs:=#[.int .i64 0,.int .i64 0,.int .i64 0,.bool false]) zdE rfl rfl rfl (fun _=>trivial) (fun bk2=>(TL.stW 2 4 [_,_,_,_] rfl rfl rfl rfl rfl rfl zci rfl rfl trivial (dB (xf 3 zjm rfl (xlb 2 zbW rfl rfl (TL.not _ _ rfl rfl rfl rfl ?_)))))))))
 refine TL.done (TQ.then (TC.cond rfl (fun q1=>?_) (fun q1=>?_)))
 refine sA (xf 0 zaD rfl (xf 0 zaj rfl (xL10 1 zam rfl rfl (xmi rfl ?_))))
 rw [if_neg (by simpa using q1)] at h
 obtain ⟨σ3,h1,h2⟩:=Option.bind_eq_some_iff.1 h
 cases h2
 refine TL.callD [0] [0] (zgz hM hl h1) ⟨rfl,rfl,trivial⟩ ⟨rfl,trivial⟩ zjv rfl rfl rfl rfl rfl trivial (dA (xf 0 zaD rfl (xf 0 zaj rfl (xf 6 zao rfl (xL4 1 zaL rfl rfl (xf 0 zbt rfl (xli 2 zaf rfl rfl (xf 1 zbs rfl ?_))))))))
 refine xli 2 zaf rfl rfl (TL.callD [0] [0] (zg4 hM hl) ⟨rfl,rfl,rfl,trivial⟩ ⟨rfl,trivial⟩ zmM rfl rfl rfl rfl rfl trivial (dA (xaf rfl (xai rfl (xaf rfl (dRR ?_))))))
 refine FQ.ret3 (v:=(.bool false)) (x:=(.int _ _)) (y:=(.bool false)) (Bs:=[A _]) [0] rfl rfl rfl rfl rfl ⟨rfl,trivial⟩ ?_
 exact ⟨rfl,rfl⟩
 refine TC.skip (TQ.then (sA (xf 0 zaD rfl (xL10 1 za2 rfl rfl (xmi rfl ?_)))))
 rw [if_pos (by simpa using q1)] at h
 obtain ⟨σ3,h1,h⟩:=Option.bind_eq_some_iff.1 h
 obtain ⟨⟨⟨b2,o2⟩,σ4⟩,h2,h3⟩:=Option.bind_eq_some_iff.1 h
 dsimp only at h2 h3
 cases h3
 refine TL.callD [0] [0] (zpN hM hl h1) ⟨rfl,rfl,trivial⟩ ⟨rfl,trivial⟩ zqf rfl rfl rfl rfl rfl trivial (dA (xf 0 zaD rfl (xf 0 zaj rfl (xf 6 zao rfl (xL4 1 zaL rfl rfl (xf 0 zbt rfl (xli 2 zaf rfl rfl (xf 1 zbs rfl ?_))))))))
 refine xli 2 zaf rfl rfl (TL.callD [0] [0] (zg4 hM hl) ⟨rfl,rfl,rfl,trivial⟩ ⟨rfl,trivial⟩ zmM rfl rfl rfl rfl rfl trivial (dB (xf 2 za1 rfl (xli 2 zaf rfl rfl (xai rfl (dK (TC.loopK (X:=Nat×S×Int×Int×Bool) [2,4,7] [1,2] (fun y=>[(8,.int .i64 y.2.2.1),(5,.int .i64 y.2.2.2.1),(6,.bool y.2.2.2.2)]) (fun y=>[(0,A y.2.1)]) (fun y=>zbF l p (eget l σ s).u (eget l σ s).v y.1 k y.2.1 y.2.2.1 (y.2.2.2.1,y.2.2.2.2)=some ((b,o),σ2)) (fun y=>y.1) ((k,_,_,0,false)) h2 ⟨rfl,rfl,rfl,trivial⟩ ⟨rfl,trivial⟩ (fun y hI=>?_))))))))
 obtain ⟨j,σ5,z,b4,o4⟩:=y
 rcases j with _ | j
 ·simp [zbF] at hI
 dsimp only at hI
 refine TC.sub (env':=[(8,_),(5,_),(6,_),(2,_),(4,_),(7,_)]) (L':=[(0,_),(1,_),(2,_)]) ⟨rfl,rfl,rfl,rfl,rfl,rfl,trivial⟩ ⟨rfl,rfl,rfl,trivial⟩ (sB (xmi rfl (TL.geq rfl rfl rfl rfl (fun q2=>?_) (fun q2=>?_))))
 refine TL.done (TQ.then (TC.condT rfl (TC.skip (TQ.then (TC.seq (TC.block (sA (xL10 1 zaK rfl rfl ?_))))))))
 refine xmi rfl (xf 0 zbt rfl (xli 2 zaf rfl rfl (xf 1 zbs rfl (xli 2 zaf rfl rfl ?_))))
 rw [zbF,if_pos q2] at hI
 obtain ⟨⟨⟨b3,o3⟩,σ6⟩,h4,hI⟩:=Option.bind_eq_some_iff.1 hI
 dsimp only at h4 hI
 refine TL.callD [0] [0] (zkx hM hl h4) ⟨rfl,rfl,rfl,rfl,trivial⟩ ⟨rfl,trivial⟩ zqe rfl rfl rfl rfl rfl trivial (xmu rfl (xei rfl rfl (TL.ext (.bool _) rfl rfl rfl rfl (xai rfl (xab rfl (dA (xmb rfl (TL.cases rfl (fun q3=>?_) (fun q3=>?_)))))))))
 refine TL.done (TQ.then (TC.condT rfl (TC.exit (TQ.blockOut rfl (TQ.thenExit (TQ.thenExit (TQ.blockHere (TQ.then ?_))))))))
 refine sA (xmi rfl (xmb rfl (xat rfl (xai rfl (xab rfl (dR ?_))))))
 refine FQ.ret3 (v:=(.bool true)) (x:=(.int _ _)) (y:=(.bool _)) (Bs:=[A _]) [0] rfl rfl rfl rfl rfl ⟨rfl,trivial⟩ ?_
 rw [if_pos (by simpa using q3)] at hI; cases hI; exact ⟨rfl,rfl⟩
 refine TL.done (TQ.then (TC.condF rfl (TC.skip (TQ.inBlock (TQ.then (TC.region (xmi rfl (TL.sub _ rfl rfl (rfl) rfl rfl ?_))))))))
 refine xai rfl (TL.done (TQ.roundK ((j,_,_,_,_)) ⟨(by rw [if_neg (by simpa using q3)] at hI; exact hI),Nat.lt_succ_self _⟩ ⟨rfl,rfl,rfl,trivial⟩ ⟨rfl,trivial⟩ (kE3 rfl rfl rfl trivial) (kL2 rfl rfl trivial)))
 refine dE rfl (sA (xmi rfl (xmb rfl (xat rfl (xai rfl (xab rfl (dR ?_)))))))
 refine FQ.ret3 (v:=(.bool true)) (x:=(.int _ _)) (y:=(.bool _)) (Bs:=[A _]) [0] rfl rfl rfl rfl rfl ⟨rfl,trivial⟩ ?_
 rw [zbF,if_neg q2] at hI; cases hI; exact ⟨rfl,rfl⟩
theorem at_Li {ab mb N cap:Nat} {c:Cnt} {i:Int} (h0:0≤i) (h1:i<N):FnD Tryz.prog 89 [.pointer (some ⟨ab,0,none⟩),.int .i64 i,.pointer (some ⟨ab,1,none⟩)] [arO ab mb (N) cap 140 c] (.pointer (some ⟨mb,0+i.toNat * 1,none⟩)) [arO ab mb (N) cap 140 c.ld]:=by
 refine Fn.enter (Tryz.func89) rfl rfl (fun w0 R=>?_)
 refine sA (TL.asg (.pointer none) rfl rfl rfl (dB (xmi rfl (TL.lssF rfl rfl (by omega) rfl rfl (xmf rfl (xmi rfl (xmp rfl (xN0 rfl ?_))))))))
 refine xf 0 zcK rfl (xls 0 zgb rfl rfl (xz zaM rfl (TL.geqF rfl rfl (by omega) rfl rfl (xpF rfl (dF rfl (xmp rfl (xN0 rfl (xli 0 zaf rfl rfl ?_))))))))
 refine TL.add _ rfl rfl (rfl) rfl rfl (xN0 rfl (TL.st 0 #[_,_,_,_,_,_] (.int _ _) rfl rfl rfl rfl rfl rfl zaf rfl rfl trivial (dA (xmp rfl (xN0 rfl (xf 0 zcK rfl (xls 0 zgb rfl rfl (xmi rfl ?_))))))))
 refine TL.ia _ rfl rfl zaM (by omega) (by omega) rfl rfl rfl (xap rfl (dR ?_))
 refine FQ.ret1 (v:=(.pointer (some ⟨_,_,none⟩))) (Bs:=[_]) [0] rfl rfl rfl ⟨rfl,trivial⟩ ?_
 exact ⟨rfl,rfl⟩
theorem at_Si {ab mb N cap:Nat} {c:Cnt} {i:Int} (h0:0≤i) (h1:i<N):FnD Tryz.prog 89 [.pointer (some ⟨ab,0,none⟩),.int .i64 i,.pointer (some ⟨ab,2,none⟩)] [arO ab mb (N) cap 140 c] (.pointer (some ⟨mb,0+i.toNat * 1,none⟩)) [arO ab mb (N) cap 140 c.st]:=by
 refine Fn.enter (Tryz.func89) rfl rfl (fun w0 R=>?_)
 refine sA (TL.asg (.pointer none) rfl rfl rfl (dB (xmi rfl (TL.lssF rfl rfl (by omega) rfl rfl (xmf rfl (xmi rfl (xmp rfl (xN0 rfl ?_))))))))
 refine xf 0 zcK rfl (xls 0 zgb rfl rfl (xz zaM rfl (TL.geqF rfl rfl (by omega) rfl rfl (xpF rfl (dF rfl (xmp rfl (xN0 rfl (xli 0 zaf rfl rfl ?_))))))))
 refine TL.add _ rfl rfl (rfl) rfl rfl (xN0 rfl (TL.st 0 #[_,_,_,_,_,_] (.int _ _) rfl rfl rfl rfl rfl rfl zaf rfl rfl trivial (dA (xmp rfl (xN0 rfl (xf 0 zcK rfl (xls 0 zgb rfl rfl (xmi rfl ?_))))))))
 refine TL.ia _ rfl rfl zaM (by omega) (by omega) rfl rfl rfl (xap rfl (dR ?_))
 refine FQ.ret1 (v:=(.pointer (some ⟨_,_,none⟩))) (Bs:=[_]) [0] rfl rfl rfl ⟨rfl,trivial⟩ ?_
 exact ⟨rfl,rfl⟩
theorem at_o {ab mb N cap k:Nat} {c:Cnt} {i:Int} (h:¬(0≤i∧i<N)):FnD Tryz.prog 89 [.pointer (some ⟨ab,0,none⟩),.int .i64 i,.pointer (some ⟨ab,k,none⟩)] [arO ab mb (N) cap 140 c] (.pointer none) [arO ab mb (N) cap 140 c]:=by
 refine Fn.enter (Tryz.func89) rfl rfl (fun w0 R=>?_)
 refine sA (TL.asg (.pointer none) rfl rfl rfl (dB (xmi rfl (TL.lss rfl rfl rfl rfl (fun q1=>?_) (fun q1=>?_)))))
 refine xmt rfl (xo rfl (xo rfl (xo rfl (xo rfl (xo rfl (xo rfl (xo rfl (xpT rfl ?_))))))))
 refine dT rfl (TL.asg (.pointer none) rfl rfl rfl (dRR ?_))
 refine FQ.ret1 (v:=(.pointer none)) (Bs:=[_]) [0] rfl rfl rfl ⟨rfl,trivial⟩ ?_
 exact ⟨rfl,rfl⟩
 refine xmf rfl (xmi rfl (xmp rfl (xN0 rfl (xf 0 zcK rfl (xls 0 zgb rfl rfl (xz zaM rfl (TL.geq rfl rfl rfl rfl (fun q2=>?_) (fun q2=>?_))))))))
 refine xpH rfl (dT rfl (TL.asg (.pointer none) rfl rfl rfl (dRR ?_)))
 refine FQ.ret1 (v:=(.pointer none)) (Bs:=[_]) [0] rfl rfl rfl ⟨rfl,trivial⟩ ?_
 exact ⟨rfl,rfl⟩
 refine xpF rfl (TL.done (TQ.then (TC.condF rfl (TC.skip (TQ.then (TC.seq ?_))))))
 exact absurd (by omega:False) id
theorem zqx {ab mb cap:Nat} {rs:Array Value} {σ:Array UInt64} {c:Cnt} {i:Int} (h0:0≤i) (h1:i<σ.size):FnD Tryz.prog 31 [.pointer (some ⟨ab,0,none⟩),.int .i64 i] [arO ab mb (σ.size) cap 140 c,pt mb (.cells (encM (σ)++rs) 71)] (.tuple #[.int .u64 (MemLike.get σ i),.int .i64 0]) [arO ab mb (σ.size) cap 140 c.ld,pt mb (.cells (encM (σ)++rs) 71)]:=by
 refine Fn.enter (Tryz.func31) rfl rfl (fun w0 R=>?_)
 refine sA (xai rfl (xai rfl (dA (xmp rfl (xmi rfl (xmp rfl (xN0 rfl (xf 1 zcJ rfl ?_))))))))
 refine xf 0 zdT rfl (TL.callD [0] [0] (at_Li h0 h1) ⟨rfl,rfl,rfl,trivial⟩ ⟨rfl,trivial⟩ zj2 rfl rfl rfl rfl rfl trivial (xap rfl (dB (xmp rfl (TL.nilP false rfl rfl zhD rfl rfl rfl (dF rfl (xmp rfl (xN0 rfl ?_))))))))
 refine TL.ldM 1 rfl rfl (by omega) (by omega) zjZ rfl rfl (xai rfl (xai rfl (dR ?_)))
 refine FQ.ret2 (v:=(.int _ _)) (x:=(.int _ _)) (Bs:=[_,_]) [0,1] rfl rfl rfl rfl ⟨rfl,rfl,trivial⟩ ?_
 exact ⟨rfl,rfl⟩
theorem zqw {ab mb cap:Nat} {rs:Array Value} {σ:Array UInt64} {c:Cnt} {i:Int} (h:¬(0≤i∧i<σ.size)):FnD Tryz.prog 31 [.pointer (some ⟨ab,0,none⟩),.int .i64 i] [arO ab mb (σ.size) cap 140 c,pt mb (.cells (encM (σ)++rs) 71)] (.tuple #[.int .u64 (MemLike.get σ i),.int .i64 20]) [arO ab mb (σ.size) cap 140 c,pt mb (.cells (encM (σ)++rs) 71)]:=by
 refine Fn.enter (Tryz.func31) rfl rfl (fun w0 R=>?_)
 refine sA (xai rfl (xai rfl (dA (xmp rfl (xmi rfl (xmp rfl (xN0 rfl (xf 1 zcJ rfl ?_))))))))
 refine xf 0 zdT rfl (TL.callD [0] [0] (at_o h) ⟨rfl,rfl,rfl,trivial⟩ ⟨rfl,trivial⟩ zj2 rfl rfl rfl rfl rfl trivial (TL.asg (.pointer none) rfl rfl rfl (dB (TL.mv (.pointer none) rfl rfl rfl (TL.nilP true rfl rfl zhD rfl rfl rfl (dT rfl (xai rfl (xai rfl ?_))))))))
 refine dRR ?_
 refine FQ.ret2 (v:=(.int _ _)) (x:=(.int _ _)) (Bs:=[_,_]) [0,1] rfl rfl rfl rfl ⟨rfl,rfl,trivial⟩ ?_
 exact ⟨by rw [zgC,if_neg h],rfl⟩
theorem zou {ab mb cap:Nat} {rs:Array Value} {σ:Array UInt64} {c:Cnt} {i:Int} (h0:0≤i) (h1:i<σ.size) {y:Int} (hv:0≤y∧y<18446744073709551616):FnD Tryz.prog 55 [.pointer (some ⟨ab,0,none⟩),.int .i64 i,.int .u64 y] [arO ab mb (σ.size) cap 140 c,pt mb (.cells (encM (σ)++rs) 71)] (.int .i64 0) [arO ab mb (σ.size) cap 140 c.st,pt mb (.cells (encM (MemLike.st σ i y)++rs) 71)]:=by
 refine Fn.enter (Tryz.func55) rfl rfl (fun w0 R=>?_)
 refine sA (xai rfl (dA (xmp rfl (xmi rfl (xmp rfl (xN0 rfl (xf 1 zcJ rfl (xf 1 zdS rfl ?_))))))))
 refine TL.callD [0] [0] (at_Si h0 h1) ⟨rfl,rfl,rfl,trivial⟩ ⟨rfl,trivial⟩ zj2 rfl rfl rfl rfl rfl trivial (xap rfl (dB (xmp rfl (TL.nilP false rfl rfl zhD rfl rfl rfl (dF rfl (xmp rfl (xmi rfl (xN0 rfl ?_))))))))
 refine TL.stM 1 rfl rfl rfl (by omega) (by omega) (by omega) zjZ rfl rfl trivial (dA (xai rfl (dR ?_)))
 refine FQ.ret1 (v:=(.int _ _)) (Bs:=[_,_]) [0,1] rfl rfl rfl ⟨rfl,rfl,trivial⟩ ?_
 exact ⟨rfl,rfl⟩
theorem zot {ab mb cap:Nat} {rs:Array Value} {σ:Array UInt64} {c:Cnt} {i:Int} (h:¬(0≤i∧i<σ.size)) {y:Int} (hv:0≤y∧y<18446744073709551616):FnD Tryz.prog 55 [.pointer (some ⟨ab,0,none⟩),.int .i64 i,.int .u64 y] [arO ab mb (σ.size) cap 140 c,pt mb (.cells (encM (σ)++rs) 71)] (.int .i64 20) [arO ab mb (σ.size) cap 140 c,pt mb (.cells (encM (MemLike.st σ i y)++rs) 71)]:=by
 have hst:(MemLike.st σ i y:Array UInt64)=σ:=by rw [zk1,if_neg h]
 refine Fn.enter (Tryz.func55) rfl rfl (fun w0 R=>?_)
 refine sA (xai rfl (dA (xmp rfl (xmi rfl (xmp rfl (xN0 rfl (xf 1 zcJ rfl (xf 1 zdS rfl ?_))))))))
 refine TL.callD [0] [0] (at_o h) ⟨rfl,rfl,rfl,trivial⟩ ⟨rfl,trivial⟩ zj2 rfl rfl rfl rfl rfl trivial (TL.asg (.pointer none) rfl rfl rfl (dB (TL.mv (.pointer none) rfl rfl rfl (TL.nilP true rfl rfl zhD rfl rfl rfl (dT rfl (xai rfl (dRR ?_)))))))
 refine FQ.ret1 (v:=(.int _ _)) (Bs:=[_,_]) [0,1] rfl rfl rfl ⟨rfl,rfl,trivial⟩ ?_
 exact ⟨rfl,by rw [hst]⟩
theorem zgD {ab mb:Nat} {σ:Array UInt64} {c:Cnt} {i:Int}:FnD Tryz.prog 31 [.pointer (some ⟨ab,0,none⟩),.int .i64 i] [arenaC ab mb 140 71 (σ) (c)] (.tuple #[.int .u64 (MemLike.get σ i),.int .i64 (if 0≤i∧i<σ.size then 0 else 20)]) [arenaC ab mb 140 71 (σ) (cntL σ i c)]:=by
 unfold cntL
 by_cases h:0≤i∧i<σ.size
 ·rw [if_pos h,if_pos h]; exact Fn.arenaC rfl fun cap rs=>zqx h.1 h.2
 ·rw [if_neg h,if_neg h]; exact Fn.arenaC rfl fun cap rs=>zqw h
theorem zkZ {ab mb:Nat} {σ:Array UInt64} {c:Cnt} {i v:Int} (hv:0≤v∧v<18446744073709551616):FnD Tryz.prog 55 [.pointer (some ⟨ab,0,none⟩),.int .i64 i,.int .u64 v] [arenaC ab mb 140 71 (σ) (c)] (.int .i64 (if 0≤i∧i<σ.size then 0 else 20)) [arenaC ab mb 140 71 (MemLike.st σ i v) (cntS σ i c)]:=by
 unfold cntS
 by_cases h:0≤i∧i<σ.size
 ·rw [if_pos h,if_pos h]; exact Fn.arenaC (zep _ _ _) fun cap rs=>zou h.1 h.2 hv
 ·rw [if_neg h,if_neg h]; exact Fn.arenaC (zep _ _ _) fun cap rs=>zot h hv
theorem zoo {ab mb:Nat} {σ:Array UInt64} {i:Int}:FnD Tryz.prog 31 [.pointer (some ⟨ab,0,none⟩),.int .i64 i] [zaI ab mb 140 71 (σ)] (.tuple #[.int .u64 (MemLike.get σ i),.int .i64 (if 0≤i∧i<σ.size then 0 else 20)]) [zaI ab mb 140 71 (σ)]:=Fn.arena fun _=>⟨_,zgD⟩
theorem zno {ab mb:Nat} {σ:Array UInt64} {i v:Int} (hv:0≤v∧v<18446744073709551616):FnD Tryz.prog 55 [.pointer (some ⟨ab,0,none⟩),.int .i64 i,.int .u64 v] [zaI ab mb 140 71 (σ)] (.int .i64 (if 0≤i∧i<σ.size then 0 else 20)) [zaI ab mb 140 71 (MemLike.st σ i v)]:=Fn.arena fun _=>⟨_,zkZ hv⟩
theorem znR {ab mb:Nat} {σ:Array UInt64} {i:Int}:FnD Tryz.prog 214 [.agg #[.pointer (some ⟨ab,0,none⟩)],.int .i64 i] [zaI ab mb 140 71 (σ)] (.int .u64 (MemLike.get σ i)) [zaI ab mb 140 71 (σ)]:=by
 refine Fn.enter (Tryz.func214) rfl rfl (fun w0 R=>?_)
 refine sA (xB 1 rfl (fun bk1=>(xai rfl (dA (xf 0 zgY rfl (xlp 1 zfv rfl rfl (xmi rfl (TL.callD [0] [0] zoo ⟨rfl,rfl,trivial⟩ ⟨rfl,trivial⟩ zmr rfl rfl rfl rfl rfl trivial (xmu rfl ?_)))))))))
 refine xei rfl rfl (xei rfl rfl (xai rfl (xai rfl (dA (xmi rfl (xai rfl (dR ?_)))))))
 refine FQ.ret1 (v:=(.int _ _)) (Bs:=[zaI ab mb 140 71 (σ)]) [0] rfl rfl rfl ⟨rfl,trivial⟩ ?_
 exact ⟨rfl,rfl⟩
theorem zlB {ab mb:Nat} {σ:Array UInt64} {i:Int} {y:Int} (hv:0≤y∧y<18446744073709551616):FnD Tryz.prog 215 [.agg #[.pointer (some ⟨ab,0,none⟩)],.int .i64 i,.int .u64 y] [zaI ab mb 140 71 (σ)] (.tuple #[]) [zaI ab mb 140 71 (MemLike.st σ i y)]:=by
 refine Fn.enter (Tryz.func215) rfl rfl (fun w0 R=>?_)
 refine sA (xB 1 rfl (fun bk1=>(dG (xf 0 zgY rfl (xlp 1 zfv rfl rfl (xmi rfl (xmi rfl (TL.callD [0] [0] (zno hv) ⟨rfl,rfl,rfl,trivial⟩ ⟨rfl,trivial⟩ zri rfl rfl rfl rfl rfl trivial (TL.done ?_)))))))))
 refine FQ.end0 (Bs:=[_]) [0] rfl rfl ⟨rfl,trivial⟩ ?_
 exact ⟨rfl,rfl⟩
theorem zbp {ab mb:Nat}:MemI (S:=Array UInt64) Tryz.prog 88 (.agg #[.pointer (some ⟨ab,0,none⟩)]) (zaI ab mb 140 71) :=
 ⟨⟨214,_,zjQ (by kernel_rfl) (by kernel_rfl),fun _ _=>znR⟩,⟨215,_,zjQ (by kernel_rfl) (by kernel_rfl),fun _ _ _ hv=>zlB hv⟩⟩
theorem zqu {N:Nat} (hN:N≤16384):Go.Eng.Fn Tryz.prog 92 [.int .i64 ((N:Nat):Int)] [] (fun v Bs=>∃ ab mb,v=.tuple #[.pointer (some ⟨ab,0,none⟩),.int .i64 0]∧Bs=[arenaC ab mb 140 71 (Array.replicate N 0) (⟨0,0,0,0,0⟩)]):=by
 refine Fn.enter (Tryz.func92) rfl rfl (fun w0 R=>?_)
 refine sA (TL.asg (.pointer none) rfl rfl rfl (xai rfl (dB (xmi rfl (TL.lssF rfl rfl (by omega) rfl rfl (xmf rfl (xmi rfl (TL.gtrF rfl rfl (by omega) rfl rfl ?_))))))))
 refine xpF rfl (dF rfl (xmi rfl (TL.mkS 0 rfl rfl zji zqW rfl (by omega) rfl rfl (fun bk0=>⟨trivial,?_⟩))))
 refine TL.bld [.slice none 0 0,.int .i64 0,.int .i64 0,.int .i64 0,.int .i64 0,.int .i64 0] [(.slice _ _ _)] [_,_,_,_,_,_] zpQ zpV ⟨rfl,trivial⟩ ⟨rfl,rfl⟩ rfl rfl (xB 1 rfl (fun bk1=>(xap rfl (xai rfl (dR (TQ.conseq 0 (B:=pt _ (.cells (encM (Array.replicate N 0)++#[]) 71)) rfl (fun h hh=>by rw [←zoe,Array.append_empty]; exact hh) (TQ.arenaC 1 0 (N:=N) (c:=⟨0,0,0,0,0⟩) (by simp) rfl rfl (by decide) ?_)))))))
 refine FQ.ret2 (v:=(.pointer (some ⟨_,_,none⟩))) (x:=(.int _ _)) (Bs:=[_]) [1] rfl rfl rfl rfl ⟨rfl,trivial⟩ ?_
 exact ⟨_,_,rfl,rfl⟩
theorem zdf {ab:Nat}:FnD Tryz.prog 38 [.pointer (some ⟨ab,0,none⟩)] [] (.agg #[.pointer (some ⟨ab,0,none⟩)]) []:=by
 refine Fn.enter (Tryz.func38) rfl rfl (fun w0 R=>?_)
 refine sA (TL.alloc 0 (cs:=#[.pointer none]) zme rfl rfl rfl (fun _=>trivial) (fun bk0=>(dA (xmp rfl (TL.bld [.pointer none] [(.pointer (some ⟨_,_,none⟩))] [_] zme zq1 ⟨rfl,trivial⟩ ⟨rfl,rfl⟩ rfl rfl (TL.stW 0 1 [_] rfl rfl rfl rfl rfl rfl zdp rfl rfl trivial (dR ?_)))))))
 refine FQ.retG (rs:=[.cell 2 88]) [(.agg _)] (Bs:=[]) [] rfl ⟨⟨_,_,_,_,_,0,rfl,rfl,.inr ⟨1,[_],zdp,rfl,rfl⟩⟩,trivial⟩ rfl rfl trivial ?_
 exact ⟨rfl,rfl⟩
theorem zqB {x:Int}:FnD Tryz.prog 115 [.int .i64 x] [] (wdV (wofI x)) []:=by
 refine Fn.enter (Tryz.func115) rfl rfl (fun w0 R=>?_)
 refine sA (TL.alloc 0 (cs:=#[.int .i64 0,.int .i64 0,.int .i64 0,.int .i64 0]) za6 rfl rfl rfl (fun _=>trivial) (fun bk0=>(dA (xmi rfl (TL.max2 rfl rfl rfl rfl (TL.min2 rfl rfl rfl rfl (xai rfl (dA (xmi rfl ?_)))))))))
 refine xmi rfl (TL.bld [.int .i64 0,.int .i64 0,.int .i64 0,.int .i64 0] [(.int _ _),(.int _ _)] [_,_,_,_] za6 zfc ⟨rfl,rfl,trivial⟩ ⟨rfl,rfl⟩ rfl rfl (TL.stW 0 4 [_,_,_,_] rfl rfl rfl rfl rfl rfl zak rfl rfl trivial (dR ?_)))
 refine FQ.retG (rs:=[.cell 2 175]) [(.agg _)] (Bs:=[]) [] rfl ⟨⟨_,_,_,_,_,0,rfl,rfl,.inr ⟨4,[_,_,_,_],zak,rfl,rfl⟩⟩,trivial⟩ rfl rfl trivial ?_
 exact ⟨rfl,rfl⟩
theorem zpc {tag:Int} {dn:Bool} (h:0≤tag∧tag≤16777215):FnD Tryz.prog 133 [.int .i64 tag,.bool dn] [] (.tuple #[.int .u64 (zbn tag dn),.int .i64 0]) []:=by
 refine Fn.enter (Tryz.func133) rfl rfl (fun w0 R=>?_)
 refine sA (xai rfl (xai rfl (dB (xmi rfl (TL.callD [] [] zcZ ⟨rfl,rfl,trivial⟩ trivial zfj rfl rfl rfl rfl rfl trivial ?_)))))
 rw [decide_eq_true h]
 refine xnt rfl (dF rfl (xmi rfl (TL.conv _ rfl zeN za0 (rfl) rfl rfl (TL.shl _ rfl rfl (by decide) rfl rfl rfl (xai rfl (dB (xmb rfl (TL.cases rfl (fun q1=>?_) (fun q1=>?_)))))))))
 refine TL.done (TQ.then (TC.condT rfl (TC.region (xmi rfl (TL.or _ rfl rfl rfl rfl rfl (xai rfl (dA (xmi rfl ?_))))))))
 refine xai rfl (xai rfl (dR ?_))
 refine FQ.ret2 (v:=(.int _ _)) (x:=(.int _ _)) (Bs:=[]) [] rfl rfl rfl rfl trivial ?_
 first | exact ⟨by unfold zbn; rw [if_pos q1]; rfl,rfl⟩ | exact ⟨by unfold zbn; rw [if_neg (by rw [q1]; decide)]; rfl,rfl⟩
 refine dF rfl (xmi rfl (xai rfl (xai rfl (dR ?_))))
 refine FQ.ret2 (v:=(.int _ _)) (x:=(.int _ _)) (Bs:=[]) [] rfl rfl rfl rfl trivial ?_
 first | exact ⟨by unfold zbn; rw [if_pos q1]; rfl,rfl⟩ | exact ⟨by unfold zbn; rw [if_neg (by rw [q1]; decide)]; rfl,rfl⟩
theorem zpb {tag:Int} {dn:Bool} (h:¬(0≤tag∧tag≤16777215)):FnD Tryz.prog 133 [.int .i64 tag,.bool dn] [] (.tuple #[.int .u64 0,.int .i64 11]) []:=by
 refine Fn.enter (Tryz.func133) rfl rfl (fun w0 R=>?_)
 refine sA (xai rfl (xai rfl (dB (xmi rfl (TL.callD [] [] zcZ ⟨rfl,rfl,trivial⟩ trivial zfj rfl rfl rfl rfl rfl trivial ?_)))))
 rw [decide_eq_false h]
 refine xnf rfl (dT rfl (xai rfl (xai rfl (dRR ?_))))
 refine FQ.ret2 (v:=(.int _ _)) (x:=(.int _ _)) (Bs:=[]) [] rfl rfl rfl rfl trivial ?_
 exact ⟨rfl,rfl⟩
theorem zqF {v:Int}:FnD Tryz.prog 159 [.int .u64 v] [] (.tuple #[.int .i64 (tagV v).1,.bool (tagV v).2.1,.int .i64 (if (tagV v).2.2=true then 0 else 21)]) []:=by
 refine Fn.enter (Tryz.func159) rfl rfl (fun w0 R=>?_)
 refine sA (xai rfl (xaf rfl (xai rfl (dB (xmi rfl (TL.shr _ rfl rfl (by decide) rfl rfl rfl (TL.gtr rfl rfl rfl rfl (fun q1=>?_) (fun q1=>?_))))))))
 refine dT rfl (xai rfl (xaf rfl (xai rfl (dRR ?_))))
 refine FQ.ret3 (v:=(.int _ _)) (x:=(.bool false)) (y:=(.int _ _)) (Bs:=[]) [] rfl rfl rfl rfl rfl trivial ?_
 have q:shrU v 1 > 16777215:=q1
 exact ⟨by unfold tagV; rw [if_pos q]; rfl,rfl⟩
 refine dF rfl (xmi rfl (TL.shr _ rfl rfl (by decide) rfl rfl rfl (TL.conv _ rfl zdF zbr (rfl) rfl rfl (xmi rfl (TL.and _ rfl rfl rfl rfl rfl (TL.eqlV rfl rfl rfl rfl (xai rfl (xab rfl ?_))))))))
 refine xai rfl (dR ?_)
 refine FQ.ret3 (v:=(.int _ _)) (x:=(.bool _)) (y:=(.int _ _)) (Bs:=[]) [] rfl rfl rfl rfl rfl trivial ?_
 have q:¬(shrU v 1 > 16777215):=q1
 exact ⟨by unfold tagV; rw [if_neg q]; rfl,rfl⟩
theorem zk4 {o m t g:Int} {tag:Int} {dn:Bool}:FnD Tryz.prog 160 [.agg #[.int .i64 o,.int .i64 m,.int .i64 t,.int .i64 g],.int .i64 tag,.bool dn] [] (.int .i64 (zeE (⟨o,m,t,g⟩:Wd) tag dn)) []:=by
 refine Fn.enter (Tryz.func160) rfl rfl (fun w0 R=>?_)
 refine sA (xB 0 rfl (fun bk0=>(xai rfl (dB (xL4 0 zak rfl rfl (TL.callD [] [] zew ⟨rfl,trivial⟩ trivial zhL rfl rfl rfl rfl rfl trivial (TL.casesP rfl (fun q1=>?_) (fun q1=>?_))))))))
 refine xmt rfl (xo rfl (xo rfl (xo rfl (xo rfl (xpT rfl (xmt rfl (xo rfl (xo rfl ?_))))))))
 refine xo rfl (xo rfl (xo rfl (xo rfl (xo rfl (xpT rfl (dT rfl (xf 1 zaJ rfl (xli 0 zaf rfl rfl ?_))))))))
 refine xai rfl (dRR ?_)
 refine FQ.ret1 (v:=(.int _ _)) (Bs:=[]) [] rfl rfl rfl trivial ?_
 exact ⟨iE (by unfold zeE; rw [if_pos (.inl q1)]),rfl⟩
 refine xmf rfl (xmi rfl (xf 3 zb6 rfl (xli 0 zaf rfl rfl (TL.gtr rfl rfl rfl rfl (fun q2=>?_) (fun q2=>?_)))))
 refine xpH rfl (xmt rfl (xo rfl (xo rfl (xo rfl (xo rfl (xo rfl (xo rfl (xo rfl ?_))))))))
 refine xpT rfl (dT rfl (xf 1 zaJ rfl (xli 0 zaf rfl rfl (xai rfl (dRR ?_)))))
 refine FQ.ret1 (v:=(.int _ _)) (Bs:=[]) [] rfl rfl rfl trivial ?_
 exact ⟨iE (by unfold zeE; rw [if_pos (.inr (.inl q2))]),rfl⟩
 refine xpF rfl (xmf rfl (xmi rfl (xf 3 zb6 rfl (xli 0 zaf rfl rfl (TL.eql rfl rfl rfl rfl (fun q3=>?_) (fun q3=>?_))))))
 refine xmt rfl (xmb rfl (TL.cases rfl (fun q4=>?_) (fun q4=>?_)))
 refine xpT rfl (xpH rfl (dT rfl (xf 1 zaJ rfl (xli 0 zaf rfl rfl (xai rfl (dRR ?_))))))
 refine FQ.ret1 (v:=(.int _ _)) (Bs:=[]) [] rfl rfl rfl trivial ?_
 exact ⟨iE (by unfold zeE; rw [if_pos (.inr (.inr ⟨q3,q4⟩))]),rfl⟩
 refine xpG rfl (xpF rfl (dF rfl (xf 0 za7 rfl (xli 0 zaf rfl rfl (xai rfl (dR ?_))))))
 refine FQ.ret1 (v:=(.int _ _)) (Bs:=[]) [] rfl rfl rfl trivial ?_
 exact ⟨iE (by unfold zeE; rw [if_neg (fun h=>h.elim q1 (fun h=>h.elim q2 (fun h=>by have:=h.2; rw [q4] at this; cases this)))]),rfl⟩
 refine xmf rfl (xo rfl (xpF rfl (xpF rfl (dF rfl (xf 0 za7 rfl (xli 0 zaf rfl rfl (xai rfl (dR ?_))))))))
 refine FQ.ret1 (v:=(.int _ _)) (Bs:=[]) [] rfl rfl rfl trivial ?_
 exact ⟨iE (by unfold zeE; rw [if_neg (fun h=>h.elim q1 (fun h=>h.elim q2 (fun h=>q3 h.1)))]),rfl⟩
theorem zf5 {l:Lay} (hl:l.Ok) {t:Int}:FnD Tryz.prog 53 [layV l,.int .i64 t] [] (.int .i64 (l.state t)) []:=by
 have hb:=za3 hl
 refine Fn.enter (Tryz.func53) rfl rfl (fun w0 R=>?_)
 refine sA (xB 0 rfl (fun bk0=>(xai rfl (dB (xmi rfl (TL.sub _ rfl rfl (rfl) rfl rfl (xf 2 zdU rfl (xli 0 zaf rfl rfl (TL.callD [] [] zaX ⟨rfl,rfl,trivial⟩ trivial zbe rfl rfl rfl rfl rfl trivial ?_)))))))))
 refine TL.casesP rfl (fun q1=>?_) (fun q1=>?_)
 refine xnt rfl (dF rfl (xmi rfl (TL.sub _ rfl rfl (rfl) rfl rfl (xai rfl (dR ?_)))))
 refine FQ.ret1 (v:=(.int _ _)) (Bs:=[]) [] rfl rfl rfl trivial ?_
 first | exact ⟨iE (by unfold Lay.state; rw [if_pos (by omega)]),rfl⟩ | exact ⟨iE (by unfold Lay.state; rw [if_neg (by omega)]),rfl⟩
 refine xnf rfl (dT rfl (xai rfl (dRR ?_)))
 refine FQ.ret1 (v:=(.int _ _)) (Bs:=[]) [] rfl rfl rfl trivial ?_
 first | exact ⟨iE (by unfold Lay.state; rw [if_pos (by omega)]),rfl⟩ | exact ⟨iE (by unfold Lay.state; rw [if_neg (by omega)]),rfl⟩
theorem zjT {l:Lay} (hl:l.Ok) {s:Int}:FnD Tryz.prog 121 [layV l,.int .i64 s] [] (.int .i64 (l.of s 0)) []:=by
 have hb:=za3 hl
 refine Fn.enter (Tryz.func121) rfl rfl (fun w0 R=>?_)
 refine sA (xB 0 rfl (fun bk0=>(xai rfl (dA (xL3 0 zaa rfl rfl (xmi rfl (TL.callD [] [] (zlH hl (by omega)) ⟨rfl,rfl,rfl,trivial⟩ trivial zgp rfl rfl rfl rfl rfl trivial (xai rfl (dR ?_)))))))))
 refine FQ.ret1 (v:=(.int _ _)) (Bs:=[]) [] rfl rfl rfl trivial ?_
 exact ⟨rfl,rfl⟩
theorem zgQ {o m t g:Int} {v:Int}:FnD Tryz.prog 130 [.agg #[.int .i64 o,.int .i64 m,.int .i64 t,.int .i64 g],.int .u64 v] [] (.int .i64 (zct (⟨o,m,t,g⟩:Wd) v)) []:=by
 refine Fn.enter (Tryz.func130) rfl rfl (fun w0 R=>?_)
 refine sA (xB 0 rfl (fun bk0=>(xai rfl (dA (xmi rfl (TL.callD [] [] zqF ⟨rfl,trivial⟩ trivial zp7 rfl rfl rfl rfl rfl trivial (xmu rfl (xei rfl rfl (TL.ext (.bool _) rfl rfl rfl rfl ?_)))))))))
 refine xei rfl rfl (xai rfl (xab rfl (xai rfl (dB (xmi rfl (TL.neq rfl rfl rfl rfl (fun q1=>?_) (fun q1=>?_)))))))
 refine dT rfl (xai rfl (dRR ?_))
 refine FQ.ret1 (v:=(.int _ _)) (Bs:=[]) [] rfl rfl rfl trivial ?_
 first | exact ⟨iE (by unfold zct; rw [if_neg (fun hc=>q1 ((ziv (e:=21) (by decide)).2 hc))]),rfl⟩ | exact ⟨iE (by unfold zct; rw [if_pos ((ziv (e:=21) (by decide)).1 (by omega))]),rfl⟩
 refine dF rfl (xL4 0 zak rfl rfl (xmi rfl (xmb rfl (TL.callD [] [] zk4 ⟨rfl,rfl,rfl,trivial⟩ trivial zp6 rfl rfl rfl rfl rfl trivial (xai rfl (dR ?_))))))
 refine FQ.ret1 (v:=(.int _ _)) (Bs:=[]) [] rfl rfl rfl trivial ?_
 first | exact ⟨iE (by unfold zct; rw [if_neg (fun hc=>q1 ((ziv (e:=21) (by decide)).2 hc))]),rfl⟩ | exact ⟨iE (by unfold zct; rw [if_pos ((ziv (e:=21) (by decide)).1 (by omega))]),rfl⟩
theorem ziB {o m t g:Int}:FnD Tryz.prog 114 [.agg #[.int .i64 o,.int .i64 m,.int .i64 t,.int .i64 g]] [] (wdV (wofI m)) []:=by
 refine Fn.enter (Tryz.func114) rfl rfl (fun w0 R=>?_)
 refine sA (xB 0 rfl (fun bk0=>(TL.alloc 1 (cs:=#[.int .i64 0,.int .i64 0,.int .i64 0,.int .i64 0]) za6 rfl rfl rfl (fun _=>trivial) (fun bk1=>(dA (xf 1 zaJ rfl (xli 0 zaf rfl rfl (TL.callD [] [] zqB ⟨rfl,trivial⟩ trivial zqi rfl rfl rfl rfl rfl trivial (TL.stW 1 4 [_,_,_,_] rfl rfl rfl rfl rfl rfl zak rfl rfl trivial (dR ?_))))))))))
 refine FQ.retG (rs:=[.cell 2 175]) [(.agg _)] (Bs:=[]) [] rfl ⟨⟨_,_,_,_,_,1,rfl,rfl,.inr ⟨4,[_,_,_,_],zak,rfl,rfl⟩⟩,trivial⟩ rfl rfl trivial ?_
 exact ⟨rfl,rfl⟩
theorem znh {S:Type} [MemLike S] {mt:TypeId} {mv:Value} {A:S→Assn} (hM:MemI Tryz.prog mt mv A) {σ:S} {c:Int} (h:(zae (MemLike.get σ c)).2=false):FnD Tryz.prog 113 [.iface mt mv,.int .i64 c,.func (.func 114) #[] #[]] [A σ] (.tuple #[]) [A (MemLike.ld σ c)]:=by
 refine Fn.enter (Tryz.func113) rfl rfl (fun w0 R=>?_)
 refine sA (xmc rfl (xmi rfl (TL.mload 0 hM rfl rfl rfl rfl rfl trivial (TL.callD [] [] zbB ⟨rfl,trivial⟩ trivial zcY rfl rfl rfl rfl rfl trivial (xmu rfl (TL.ext (.agg _) rfl rfl rfl rfl (xei rfl rfl (TL.alloc 1 (cs:=#[.int .i64 0,.int .i64 0,.int .i64 0,.int .i64 0]) za6 rfl rfl rfl (fun _=>trivial) (fun bk1=>?_)))))))))
 refine TL.stW 1 4 [_,_,_,_] rfl rfl rfl rfl rfl rfl zak rfl rfl trivial (xai rfl (dB (xmi rfl (TL.neqT rfl rfl (by rw [h]; decide) rfl rfl (TL.done (TQ.then (TC.condT rfl (TC.ret ?_))))))))
 refine TQ.thenRet ?_
 refine FQ.ret0 (Bs:=[A (MemLike.ld σ c)]) [0] rfl rfl ⟨rfl,trivial⟩ ?_
 exact ⟨rfl,rfl⟩
theorem zng {S:Type} [MemLike S] {mt:TypeId} {mv:Value} {A:S→Assn} (hM:MemI Tryz.prog mt mv A) {σ:S} {c:Int} (h:(zae (MemLike.get σ c)).2=true) (h2:(wofI (zae (MemLike.get σ c)).1.new).right=false):FnD Tryz.prog 113 [.iface mt mv,.int .i64 c,.func (.func 114) #[] #[]] [A σ] (.tuple #[]) [A (MemLike.ld σ c)]:=by
 refine Fn.enter (Tryz.func113) rfl rfl (fun w0 R=>?_)
 refine sA (xmc rfl (xmi rfl (TL.mload 0 hM rfl rfl rfl rfl rfl trivial (TL.callD [] [] zbB ⟨rfl,trivial⟩ trivial zcY rfl rfl rfl rfl rfl trivial (xmu rfl (TL.ext (.agg _) rfl rfl rfl rfl (xei rfl rfl (TL.alloc 1 (cs:=#[.int .i64 0,.int .i64 0,.int .i64 0,.int .i64 0]) za6 rfl rfl rfl (fun _=>trivial) (fun bk1=>?_)))))))))
 refine TL.stW 1 4 [_,_,_,_] rfl rfl rfl rfl rfl rfl zak rfl rfl trivial (xai rfl (dB (xmi rfl (TL.neqF rfl rfl (by rw [h]; decide) rfl rfl (dF rfl (TL.mv (.func _ _ _) rfl rfl rfl (xL4 1 zak rfl rfl (TL.callC (c1:=[]) (c2:=[]) (vs:=[_]) [] [] rfl ziB ⟨rfl,trivial⟩ trivial zmP rfl rfl rfl rfl rfl trivial ?_))))))))
 refine TL.callD [] [] zhj ⟨rfl,trivial⟩ trivial zhJ rfl rfl rfl rfl rfl trivial (xmu rfl (xei rfl rfl (xei rfl rfl (xai rfl (xai rfl (dA (xmi rfl (TL.eqlF rfl rfl (by rw [h2]; decide) rfl rfl ?_))))))))
 refine TL.done (TQ.then (TC.condF rfl (TC.skip ?_)))
 refine FQ.end0 (Bs:=[A (MemLike.ld σ c)]) [0] rfl rfl ⟨rfl,trivial⟩ ?_
 exact ⟨rfl,rfl⟩
theorem znf {S:Type} [MemLike S] {mt:TypeId} {mv:Value} {A:S→Assn} (hM:MemI Tryz.prog mt mv A) {σ:S} {c:Int} (h:(zae (MemLike.get σ c)).2=true) (h2:(wofI (zae (MemLike.get σ c)).1.new).right=true):FnD Tryz.prog 113 [.iface mt mv,.int .i64 c,.func (.func 114) #[] #[]] [A σ] (.tuple #[]) [A (MemLike.st (MemLike.ld σ c) c (wofI (zae (MemLike.get σ c)).1.new).pack)]:=by
 refine Fn.enter (Tryz.func113) rfl rfl (fun w0 R=>?_)
 refine sA (xmc rfl (xmi rfl (TL.mload 0 hM rfl rfl rfl rfl rfl trivial (TL.callD [] [] zbB ⟨rfl,trivial⟩ trivial zcY rfl rfl rfl rfl rfl trivial (xmu rfl (TL.ext (.agg _) rfl rfl rfl rfl (xei rfl rfl (TL.alloc 1 (cs:=#[.int .i64 0,.int .i64 0,.int .i64 0,.int .i64 0]) za6 rfl rfl rfl (fun _=>trivial) (fun bk1=>?_)))))))))
 refine TL.stW 1 4 [_,_,_,_] rfl rfl rfl rfl rfl rfl zak rfl rfl trivial (xai rfl (dB (xmi rfl (TL.neqF rfl rfl (by rw [h]; decide) rfl rfl (dF rfl (TL.mv (.func _ _ _) rfl rfl rfl (xL4 1 zak rfl rfl (TL.callC (c1:=[]) (c2:=[]) (vs:=[_]) [] [] rfl ziB ⟨rfl,trivial⟩ trivial zmP rfl rfl rfl rfl rfl trivial ?_))))))))
 refine TL.callD [] [] zhj ⟨rfl,trivial⟩ trivial zhJ rfl rfl rfl rfl rfl trivial (xmu rfl (xei rfl rfl (xei rfl rfl (xai rfl (xai rfl (dA (xmi rfl (TL.eqlT rfl rfl (by rw [h2]; decide) rfl rfl ?_))))))))
 refine TL.done (TQ.then (TC.condT rfl (TC.region (xmc rfl (xmi rfl (xmi rfl (TL.mstore 0 hM rfl rfl rfl (by rw [h2]; exact zcq _ _) rfl rfl rfl trivial (TL.done ?_))))))))
 refine FQ.end0 (Bs:=[A _]) [0] rfl rfl ⟨rfl,trivial⟩ ?_
 exact ⟨rfl,by rw [h2]; rfl⟩
theorem zkU {S:Type} [MemLike S] {mt:TypeId} {mv:Value} {A:S→Assn} (hM:MemI Tryz.prog mt mv A) {σ:S} {c:Int}:FnD Tryz.prog 113 [.iface mt mv,.int .i64 c,.func (.func 114) #[] #[]] [A σ] (.tuple #[]) [A (zbj σ c)]:=by
 unfold zbj
 cases h:(zae (MemLike.get σ c)).2
 ·exact znh hM h
 ·rw [if_pos rfl]
  cases h2:(wofI (zae (MemLike.get σ c)).1.new).right
  ·exact zng hM h h2
  ·exact znf hM h h2
theorem zkf {S:Type} [MemLike S] {mt:TypeId} {mv:Value} {A:S→Assn} (hM:MemI Tryz.prog mt mv A) {σ:S} {p:Pen} {c:Int}:FnD Tryz.prog 75 [.agg #[.int .i64 p.thread,.int .i64 p.tag],.iface mt mv,.int .i64 c] [A σ] (.tuple #[]) [A (zbj σ c)]:=by
 refine Fn.enter (Tryz.func75) rfl rfl (fun w0 R=>?_)
 refine sA (xB 1 rfl (fun bk1=>(dG (xmc rfl (xmi rfl (TL.callD [0] [0] (zkU hM) ⟨rfl,rfl,rfl,trivial⟩ ⟨rfl,trivial⟩ zmQ rfl rfl rfl rfl rfl trivial (TL.done ?_)))))))
 refine FQ.end0 (Bs:=[A (zbj σ c)]) [0] rfl rfl ⟨rfl,trivial⟩ ?_
 exact ⟨rfl,rfl⟩
theorem znM {S:Type} [MemLike S] {mt:TypeId} {mv:Value} {A:S→Assn} (hM:MemI Tryz.prog mt mv A) {fS:FuncId} (hfS:zd1 Tryz.prog mt "Store" fS=true) {l:Lay} (hl:l.Ok) {p:Pen} {σ:S} {tag:Int} {dn:Bool} (h:0≤tag∧tag≤16777215):FnD Tryz.prog 104 [.agg #[.int .i64 p.thread,.int .i64 p.tag],.iface mt mv,layV l,.int .i64 tag,.bool dn] [A σ] (.tuple #[]) [A (MemLike.st σ (l.state p.thread) (zbn tag dn))]:=by
 refine Fn.enter (Tryz.func104) rfl rfl (fun w0 R=>?_)
 refine sA (xB 1 rfl (fun bk1=>(xB 2 rfl (fun bk2=>(dA (xmi rfl (xmb rfl (TL.callD [] [] (zpc h) ⟨rfl,rfl,trivial⟩ trivial zmK rfl rfl rfl rfl rfl trivial (xmu rfl (xei rfl rfl ?_))))))))))
 refine xei rfl rfl (xai rfl (xai rfl (dA (xmi rfl (TL.eqlT rfl rfl (by decide) rfl rfl (TL.done (TQ.then (TC.condT rfl ?_))))))))
 refine TC.draw [(0,true),(1,true),(2,true),(3,true),(5,true),(6,true),(7,true),(8,true),(4,false),(9,false)] [1,2] fc_m (by kernel_rfl) (xmc rfl (xL3 2 zaa rfl rfl (xf 0 zc9 rfl (xli 1 zaf rfl rfl (xmi rfl (TL.mf (xs:=[_]) (ys:=[]) [_] [] ⟨rfl,trivial⟩ trivial rfl rfl (TL.ncM hfS rfl rfl rfl (xmc rfl ?_))))))))
 refine TL.callD [] [] (zf5 hl) ⟨rfl,rfl,trivial⟩ trivial zmm rfl rfl rfl rfl rfl (kL2 rfl rfl trivial) (TL.mstore 0 hM rfl rfl rfl (zeZ h _) rfl rfl rfl (kL2 rfl rfl trivial) (TL.done ?_))
 refine FQ.end0 (Bs:=[A _]) [0] rfl rfl ⟨rfl,trivial⟩ ?_
 exact ⟨rfl,rfl⟩
theorem znL {S:Type} [MemLike S] {mt:TypeId} {mv:Value} {A:S→Assn} (hM:MemI Tryz.prog mt mv A) {fS:FuncId} (hfS:zd1 Tryz.prog mt "Store" fS=true) {l:Lay} (hl:l.Ok) {p:Pen} {σ:S} {tag:Int} {dn:Bool} (h:¬(0≤tag∧tag≤16777215)):FnD Tryz.prog 104 [.agg #[.int .i64 p.thread,.int .i64 p.tag],.iface mt mv,layV l,.int .i64 tag,.bool dn] [A σ] (.tuple #[]) [A (σ)]:=by
 refine Fn.enter (Tryz.func104) rfl rfl (fun w0 R=>?_)
 refine sA (xB 1 rfl (fun bk1=>(xB 2 rfl (fun bk2=>(dA (xmi rfl (xmb rfl (TL.callD [] [] (zpb h) ⟨rfl,rfl,trivial⟩ trivial zmK rfl rfl rfl rfl rfl trivial (xmu rfl (xei rfl rfl ?_))))))))))
 refine xei rfl rfl (xai rfl (xai rfl (dA (xmi rfl (TL.eqlF rfl rfl (by decide) rfl rfl (TL.done (TQ.then (TC.condF rfl ?_))))))))
 refine TC.skip ?_
 refine FQ.end0 (Bs:=[A _]) [0] rfl rfl ⟨rfl,trivial⟩ ?_
 exact ⟨rfl,rfl⟩
theorem zh9 {S:Type} [MemLike S] {mt:TypeId} {mv:Value} {A:S→Assn} (hM:MemI Tryz.prog mt mv A) {fS:FuncId} (hfS:zd1 Tryz.prog mt "Store" fS=true) {l:Lay} (hl:l.Ok) {p:Pen} {σ:S} {tag:Int} {dn:Bool}:FnD Tryz.prog 104 [.agg #[.int .i64 p.thread,.int .i64 p.tag],.iface mt mv,layV l,.int .i64 tag,.bool dn] [A σ] (.tuple #[]) [A (zbo l p σ tag dn)]:=by
 unfold zbo
 by_cases h:0≤tag∧tag≤16777215
 ·rw [if_pos h]; exact znM hM hfS hl h
 ·rw [if_neg h]; exact znL hM hfS hl h
theorem zgS {S:Type} [MemLike S] {mt:TypeId} {mv:Value} {A:S→Assn} (hM:MemI Tryz.prog mt mv A) {fS:FuncId} (hfS:zd1 Tryz.prog mt "Store" fS=true) {l:Lay} (hl:l.Ok) {p:Pen} {σ:S}:FnD Tryz.prog 49 [.agg #[.int .i64 p.thread,.int .i64 p.tag],.iface mt mv,layV l] [A σ] (.tuple #[]) [A (zbo l p σ p.tag true)]:=by
 refine Fn.enter (Tryz.func49) rfl rfl (fun w0 R=>?_)
 refine sA (xB 1 rfl (fun bk1=>(xB 2 rfl (fun bk2=>(dG (xL2 1 zby rfl rfl (xmc rfl (xL3 2 zaa rfl rfl (xf 1 zb5 rfl (xli 1 zaf rfl rfl ?_))))))))))
 refine TL.callD [0] [0] (zh9 hM hfS hl) ⟨rfl,rfl,rfl,rfl,rfl,trivial⟩ ⟨rfl,trivial⟩ zmT rfl rfl rfl rfl rfl trivial (TL.done ?_)
 refine FQ.end0 (Bs:=[A (zbo l p σ p.tag true)]) [0] rfl rfl ⟨rfl,trivial⟩ ?_
 exact ⟨rfl,rfl⟩
theorem zpt {S:Type} [MemLike S] {mt:TypeId} {mv:Value} {A:S→Assn} (hM:MemI Tryz.prog mt mv A) {fS:FuncId} (hfS:zd1 Tryz.prog mt "Store" fS=true) {l:Lay} (hl:l.Ok) {p:Pen} {σ:S}:FnD Tryz.prog 76 [.agg #[.int .i64 p.thread,.int .i64 p.tag],.iface mt mv,layV l] [A σ] (.tuple #[]) [A (zbo l p σ (IntKind.i64.wrap (p.tag+1)) false)]:=by
 refine Fn.enter (Tryz.func76) rfl rfl (fun w0 R=>?_)
 refine sA (xB 1 rfl (fun bk1=>(xB 2 rfl (fun bk2=>(dG (xL2 1 zby rfl rfl (xmc rfl (xL3 2 zaa rfl rfl (xf 1 zb5 rfl (xli 1 zaf rfl rfl ?_))))))))))
 refine TL.add _ rfl rfl (rfl) rfl rfl (TL.callD [0] [0] (zh9 hM hfS hl) ⟨rfl,rfl,rfl,rfl,rfl,trivial⟩ ⟨rfl,trivial⟩ zmT rfl rfl rfl rfl rfl trivial (TL.done ?_))
 refine FQ.end0 (Bs:=[A (zbo l p σ (IntKind.i64.wrap (p.tag+1)) false)]) [0] rfl rfl ⟨rfl,trivial⟩ ?_
 exact ⟨rfl,rfl⟩
theorem zpG {S:Type} [MemLike S] {mt:TypeId} {mv:Value} {A:S→Assn} (hM:MemI Tryz.prog mt mv A) {fL:FuncId} (hfL:zd1 Tryz.prog mt "Load" fL=true) {l:Lay} (hl:l.Ok) {σ:S} {c:Int} (hld:∀ i,MemLike.get (MemLike.ld σ c) i=MemLike.get σ i) (h:(zae (MemLike.get σ c)).2=false):FnD Tryz.prog 103 [.iface mt mv,layV l,.int .i64 c] [A σ] (.int .i64 (zaE l σ c)) [A (zef l σ c)]:=by
 refine Fn.enter (Tryz.func103) rfl rfl (fun w0 R=>?_)
 refine sA (xB 1 rfl (fun bk1=>(xai rfl (dA (xmc rfl (xmi rfl (TL.mload 0 hM rfl rfl rfl rfl rfl trivial (TL.callD [] [] zbB ⟨rfl,trivial⟩ trivial zcY rfl rfl rfl rfl rfl trivial (xmu rfl ?_)))))))))
 refine TL.ext (.agg _) rfl rfl rfl rfl (xei rfl rfl (TL.alloc 2 (cs:=#[.int .i64 0,.int .i64 0,.int .i64 0,.int .i64 0]) za6 rfl rfl rfl (fun _=>trivial) (fun bk2=>(TL.stW 2 4 [_,_,_,_] rfl rfl rfl rfl rfl rfl zak rfl rfl trivial (xai rfl (dB (xmi rfl (TL.neqT rfl rfl (by rw [h]; decide) rfl rfl (xmt rfl ?_)))))))))
 refine xo rfl (xo rfl (xpT rfl (dT rfl (xf 1 zaJ rfl (xli 2 zaf rfl rfl (xai rfl (dRR ?_)))))))
 refine FQ.ret1 (v:=(.int _ _)) (Bs:=[A _]) [0] rfl rfl rfl ⟨rfl,trivial⟩ ?_
 exact ⟨iE (by unfold zaE; dsimp only; rw [if_pos (.inl h)]),by unfold zef; dsimp only; rw [if_pos (.inl h)]⟩
theorem zpF {S:Type} [MemLike S] {mt:TypeId} {mv:Value} {A:S→Assn} (hM:MemI Tryz.prog mt mv A) {fL:FuncId} (hfL:zd1 Tryz.prog mt "Load" fL=true) {l:Lay} (hl:l.Ok) {σ:S} {c:Int} (hld:∀ i,MemLike.get (MemLike.ld σ c) i=MemLike.get σ i) (h:(zae (MemLike.get σ c)).2=true):FnD Tryz.prog 103 [.iface mt mv,layV l,.int .i64 c] [A σ] (.int .i64 (zaE l σ c)) [A (zef l σ c)]:=by
 refine Fn.enter (Tryz.func103) rfl rfl (fun w0 R=>?_)
 refine sA (xB 1 rfl (fun bk1=>(xai rfl (dA (xmc rfl (xmi rfl (TL.mload 0 hM rfl rfl rfl rfl rfl trivial (TL.callD [] [] zbB ⟨rfl,trivial⟩ trivial zcY rfl rfl rfl rfl rfl trivial (xmu rfl ?_)))))))))
 refine TL.ext (.agg _) rfl rfl rfl rfl (xei rfl rfl (TL.alloc 2 (cs:=#[.int .i64 0,.int .i64 0,.int .i64 0,.int .i64 0]) za6 rfl rfl rfl (fun _=>trivial) (fun bk2=>(TL.stW 2 4 [_,_,_,_] rfl rfl rfl rfl rfl rfl zak rfl rfl trivial (xai rfl (dB (xmi rfl (TL.neqF rfl rfl (by rw [h]; decide) rfl rfl (xmf rfl ?_)))))))))
 refine xL4 2 zak rfl rfl (TL.callD [] [] zew ⟨rfl,trivial⟩ trivial zhL rfl rfl rfl rfl rfl trivial (TL.casesP rfl (fun q1=>?_) (fun q1=>?_)))
 refine xpH rfl (dT rfl (xf 1 zaJ rfl (xli 2 zaf rfl rfl (xai rfl (dRR ?_)))))
 refine FQ.ret1 (v:=(.int _ _)) (Bs:=[A _]) [0] rfl rfl rfl ⟨rfl,trivial⟩ ?_
 exact ⟨iE (by unfold zaE; dsimp only; rw [if_pos (.inr q1)]),by unfold zef; dsimp only; rw [if_pos (.inr q1)]⟩
 refine xpF rfl (TL.done (TQ.then (TC.condF rfl (TC.skip (TQ.then (TC.seq (TC.draw [(0,true),(1,true),(2,true),(3,true),(4,true),(6,true),(7,true),(8,true),(5,false),(9,false),(10,false),(11,true)] [1,2] fc_m (by kernel_rfl) (xL4 2 zak rfl rfl ?_))))))))
 refine xmc rfl (xL3 1 zaa rfl rfl (xf 2 zb7 rfl (xli 2 zaf rfl rfl (TL.mf (xs:=[_]) (ys:=[]) [_] [] ⟨rfl,trivial⟩ trivial rfl rfl (TL.ncM hfL rfl rfl rfl (xmc rfl (TL.callD [] [] (zf5 hl) ⟨rfl,rfl,trivial⟩ trivial zmm rfl rfl rfl rfl rfl (kL2 rfl rfl trivial) (TL.mload 0 hM rfl rfl rfl rfl rfl (kL2 rfl rfl trivial) ?_))))))))
 refine TL.callD [] [] zgQ ⟨rfl,rfl,trivial⟩ trivial zmL rfl rfl rfl rfl rfl (kL2 rfl rfl trivial) (xai rfl (dR ?_))
 refine FQ.ret1 (v:=(.int _ _)) (Bs:=[A _]) [0] rfl rfl rfl ⟨rfl,trivial⟩ ?_
 exact ⟨iE (by unfold zaE; dsimp only; rw [if_neg (by simp [h,q1]),hld]),by unfold zef; dsimp only; rw [if_neg (by simp [h,q1])]⟩
theorem zn0 {S:Type} [MemLike S] {mt:TypeId} {mv:Value} {A:S→Assn} (hM:MemI Tryz.prog mt mv A) {fL:FuncId} (hfL:zd1 Tryz.prog mt "Load" fL=true) {l:Lay} (hl:l.Ok) {σ:S} {c:Int} (hld:∀ i,MemLike.get (MemLike.ld σ c) i=MemLike.get σ i):FnD Tryz.prog 103 [.iface mt mv,layV l,.int .i64 c] [A σ] (.int .i64 (zaE l σ c)) [A (zef l σ c)]:=by
 cases h:(zae (MemLike.get σ c)).2
 ·exact zpG hM hfL hl hld h
 ·exact zpF hM hfL hl hld h
theorem zdP {l:Lay} {c:Int}:Go.Eng.Fn Tryz.prog 97 [layV l,.int .i64 c] [] (fun v Bs=>∃ lb,v=.pointer (some ⟨lb,0,none⟩)∧Bs=[ziY 189 lb l (zbN c)]):=by
 refine Fn.enter (Tryz.func97) rfl rfl (fun w0 R=>?_)
 refine sA (xB 0 rfl (fun bk0=>(TL.asg (.pointer none) rfl rfl rfl (dA (xL3 0 zaa rfl rfl (xmi rfl (TL.bld [.int .i64 0,.int .i64 0,.int .i64 0,.int .i64 0,.int .i64 0,.int .i64 0,.int .i64 0,.int .i64 0,.bool false,.bool false,.int .i64 0] [(.agg _),(.int _ _)] [_,_,_,_,_,_,_,_,_,_,_] zpO zpS ⟨rfl,rfl,trivial⟩ ⟨rfl,rfl⟩ rfl rfl (xB 1 rfl (fun bk1=>(xap rfl ?_))))))))))
 refine dR ?_
 refine FQ.ret1 (v:=(.pointer (some ⟨_,_,none⟩))) (Bs:=[_]) [1] rfl rfl rfl ⟨rfl,trivial⟩ ?_
 exact ⟨_,rfl,rfl⟩
theorem zkC {l:Lay} {lb:Nat} {k:LookS}:FnD Tryz.prog 99 [.pointer (some ⟨lb,0,none⟩)] [ziY 189 lb l (k)] (.int .i64 k.value) [ziY 189 lb l (k)]:=by
 refine Fn.enter (Tryz.func99) rfl rfl (fun w0 R=>?_)
 refine sA (xai rfl (dA (xmp rfl (xN0 rfl (xf 10 zcS rfl (xli 0 zaf rfl rfl (xai rfl (dR ?_))))))))
 refine FQ.ret1 (v:=(.int _ _)) (Bs:=[_]) [0] rfl rfl rfl ⟨rfl,trivial⟩ ?_
 exact ⟨rfl,rfl⟩
theorem zlR {l:Lay} (hl:l.Ok) {lb ab mb:Nat} {k:LookS} {σ:Array UInt64} {c:Cnt}:FnD Tryz.prog 98 [.pointer (some ⟨lb,0,none⟩),.pointer (some ⟨ab,0,none⟩)] [ziY 189 lb l (k),arenaC ab mb 140 71 (σ) (c)] (.bool (k.step l σ).done) [ziY 189 lb l (k.step l σ),arenaC ab mb 140 71 (σ) (k.cnt l σ c)]:=by
 refine Fn.enter (Tryz.func98) rfl rfl (fun w0 R=>?_)
 refine sA (xaf rfl (dS (TC.block (sA (xmp rfl (xN0 rfl (xf 9 zbc rfl (xlb 0 zbW rfl rfl ?_))))))))
 refine xab rfl (TL.done (TQ.then (TC.cond rfl (fun q1=>?_) (fun q1=>?_))))
 refine TC.skip (TQ.inBlock (TQ.then (sA (xmp rfl (xN0 rfl (xf 9 zbc rfl (xlb 0 zbW rfl rfl (xab rfl ?_))))))))
 refine dR ?_
 refine FQ.ret1 (v:=(.bool _)) (Bs:=[_,_]) [0,1] rfl rfl rfl ⟨rfl,rfl,trivial⟩ ?_
 rw [LookS.step_d q1,LookS.cnt_d q1]; exact ⟨rfl,rfl⟩
 refine sA (xmp rfl (xN0 rfl (xf 8 zgd rfl (xlb 0 zbW rfl rfl (xab rfl (TL.done (TQ.then (TC.cond rfl (fun q2=>?_) (fun q2=>?_)))))))))
 refine TC.seq (TC.draw [(0,true),(1,true),(2,true),(3,true),(4,true),(5,true),(6,true),(7,true),(8,true),(9,true),(10,false),(11,false),(12,true),(13,true),(14,true),(15,true),(16,true)] [0] fc_m (by kernel_rfl) (xmp rfl (xmp rfl (xN0 rfl (xf 0 zjl rfl (xL3 0 zaa rfl rfl (xmp rfl (xN0 rfl ?_))))))))
 refine xf 4 zei rfl (xf 2 zb7 rfl (xli 0 zaf rfl rfl (TL.callD [] [] (zf5 hl) ⟨rfl,rfl,trivial⟩ trivial zmm rfl rfl rfl rfl rfl (kL1 rfl trivial) (TL.callD [1] [1] zgD ⟨rfl,rfl,trivial⟩ ⟨rfl,trivial⟩ zmr rfl rfl rfl rfl rfl (kL1 rfl trivial) (xmu rfl (xei rfl rfl (xei rfl rfl (xai rfl ?_))))))))
 refine xai rfl (dG (xmp rfl (xmp rfl (xmp rfl (xN0 rfl (xf 4 zei rfl (xL4 0 zak rfl rfl (xmi rfl ?_))))))))
 refine TL.callD [] [] zgQ ⟨rfl,rfl,trivial⟩ trivial zmL rfl rfl rfl rfl rfl trivial (xN0 rfl (xf 10 zcS rfl (TL.st 0 #[_,_,_,_,_,_,_,_,_,_,_] (.int _ _) rfl rfl rfl rfl rfl rfl zaf rfl rfl trivial (xN0 rfl (xf 9 zbc rfl (TL.st 0 #[_,_,_,_,_,_,_,_,_,_,_] (.bool true) rfl rfl rfl rfl rfl rfl zbW rfl rfl trivial (TL.done (TQ.inBlock ?_))))))))
 refine TQ.then (sA (xmp rfl (xN0 rfl (xf 9 zbc rfl (xlt 0 zbW rfl rfl (xat rfl (dR ?_)))))))
 refine FQ.ret1 (v:=(.bool true)) (Bs:=[_,_]) [0,1] rfl rfl rfl ⟨rfl,rfl,trivial⟩ ?_
 rw [LookS.step_h q1 q2,LookS.cnt_h q1 q2]; exact ⟨rfl,rfl⟩
 refine sA (xmp rfl (xmp rfl (xN0 rfl (xf 3 zjk rfl (xli 0 zaf rfl rfl (TL.callD [1] [1] zgD ⟨rfl,rfl,trivial⟩ ⟨rfl,trivial⟩ zmr rfl rfl rfl rfl rfl trivial (xmu rfl (xei rfl rfl ?_))))))))
 refine xei rfl rfl (xai rfl (xai rfl (dA (xmi rfl (TL.callD [] [] zbB ⟨rfl,trivial⟩ trivial zcY rfl rfl rfl rfl rfl trivial (xmu rfl (TL.ext (.agg _) rfl rfl rfl rfl (xei rfl rfl ?_))))))))
 refine TL.alloc 2 (cs:=#[.int .i64 0,.int .i64 0,.int .i64 0,.int .i64 0]) za6 rfl rfl rfl (fun _=>trivial) (fun bk2=>(TL.stW 2 4 [_,_,_,_] rfl rfl rfl rfl rfl rfl zak rfl rfl trivial (xai rfl (dA (xmp rfl (xmp rfl (xL4 2 zak rfl rfl (xN0 rfl (xf 4 zei rfl ?_)))))))))
 refine TL.stA 0 4 #[_,_,_,_,_,_,_,_,_,_,_] [_,_,_,_] rfl rfl rfl rfl rfl rfl rfl zak rfl rfl trivial (xN0 rfl (xf 8 zgd rfl (TL.st 0 #[_,_,_,_,_,_,_,_,_,_,_] (.bool true) rfl rfl rfl rfl rfl rfl zbW rfl rfl trivial (dA (xmi rfl (TL.neq rfl rfl rfl rfl (fun q3=>?_) (fun q3=>?_)))))))
 refine xmt rfl (xo rfl (xo rfl (xpT rfl (TL.done (TQ.then (TC.condT rfl (TC.region (xmp rfl ?_))))))))
 refine xmp rfl (xf 1 zaJ rfl (xli 2 zaf rfl rfl (xN0 rfl (xf 10 zcS rfl (TL.st 0 #[_,_,_,_,_,_,_,_,_,_,_] (.int _ _) rfl rfl rfl rfl rfl rfl zaf rfl rfl trivial (xN0 rfl (xf 9 zbc rfl (TL.st 0 #[_,_,_,_,_,_,_,_,_,_,_] (.bool true) rfl rfl rfl rfl rfl rfl zbW rfl rfl trivial ?_))))))))
 refine TL.done (TQ.inBlock (TQ.then (sA (xmp rfl (xN0 rfl (xf 9 zbc rfl (xlt 0 zbW rfl rfl (xat rfl ?_))))))))
 refine dR ?_
 refine FQ.ret1 (v:=(.bool true)) (Bs:=[_,_]) [0,1] rfl rfl rfl ⟨rfl,rfl,trivial⟩ ?_
 rw [LookS.step_0 q1 q2 (.inl (zro q3)),LookS.cnt_0 q1 q2]; exact ⟨rfl,rfl⟩
 refine xmf rfl (xL4 2 zak rfl rfl (TL.callD [] [] zew ⟨rfl,trivial⟩ trivial zhL rfl rfl rfl rfl rfl trivial (TL.casesP rfl (fun q4=>?_) (fun q4=>?_))))
 refine xpH rfl (TL.done (TQ.then (TC.condT rfl (TC.region (xmp rfl (xmp rfl (xf 1 zaJ rfl (xli 2 zaf rfl rfl ?_))))))))
 refine xN0 rfl (xf 10 zcS rfl (TL.st 0 #[_,_,_,_,_,_,_,_,_,_,_] (.int _ _) rfl rfl rfl rfl rfl rfl zaf rfl rfl trivial (xN0 rfl (xf 9 zbc rfl (TL.st 0 #[_,_,_,_,_,_,_,_,_,_,_] (.bool true) rfl rfl rfl rfl rfl rfl zbW rfl rfl trivial (TL.done (TQ.inBlock (TQ.then ?_))))))))
 refine sA (xmp rfl (xN0 rfl (xf 9 zbc rfl (xlt 0 zbW rfl rfl (xat rfl (dR ?_))))))
 refine FQ.ret1 (v:=(.bool true)) (Bs:=[_,_]) [0,1] rfl rfl rfl ⟨rfl,rfl,trivial⟩ ?_
 rw [LookS.step_0 q1 q2 (.inr q4),LookS.cnt_0 q1 q2]; exact ⟨rfl,rfl⟩
 refine xpF rfl (TL.done (TQ.then (TC.condF rfl (TC.skip (TQ.inBlock (TQ.then (sA (xmp rfl ?_))))))))
 refine xN0 rfl (xf 9 zbc rfl (xlb 0 zbW rfl rfl (xab rfl (dR ?_))))
 refine FQ.ret1 (v:=(.bool _)) (Bs:=[_,_]) [0,1] rfl rfl rfl ⟨rfl,rfl,trivial⟩ ?_
 rw [LookS.step_n q1 q2 (zrn (by decide) q3) q4,LookS.cnt_0 q1 q2]; exact ⟨rfl,rfl⟩
theorem zlN {l:Lay} (hl:l.Ok)  : FnD Tryz.prog 91 [layV l] [] (.bool true) []:=by
 have hb:=za3 hl
 refine Fn.enter (Tryz.func91) rfl rfl (fun w0 R=>?_)
 refine sA (xB 0 rfl (fun bk0=>(xaf rfl (dA (xf 0 zaq rfl (xli 0 zaf rfl rfl (TL.sub _ rfl rfl (wr64 (by omega)) rfl rfl (TL.callD [] [] zaX ⟨rfl,rfl,trivial⟩ trivial zbe rfl rfl rfl rfl rfl trivial (TL.casesP rfl (fun q1=>?_) (fun q1=>?_))))))))))
 refine xmt rfl (xf 1 za9 rfl (xli 0 zaf rfl rfl (TL.callD [] [] zaX ⟨rfl,rfl,trivial⟩ trivial zbe rfl rfl rfl rfl rfl trivial (TL.casesP rfl (fun q2=>?_) (fun q2=>?_)))))
 refine xpT rfl (xmt rfl (xf 2 zdU rfl (xli 0 zaf rfl rfl (TL.sub _ rfl rfl (wr64 (by omega)) rfl rfl (TL.callD [] [] zaX ⟨rfl,rfl,trivial⟩ trivial zbe rfl rfl rfl rfl rfl trivial (TL.pickT (.bool _) rfl rfl rfl rfl (xab rfl (dR ?_))))))))
 refine FQ.ret1 (v:=(.bool _)) (Bs:=[]) [] rfl rfl rfl trivial ?_
 first | exact ⟨congrArg Value.bool (decide_eq_true (by omega)),rfl⟩ | (exfalso; omega)
 refine xpG rfl (xmf rfl (xo rfl (xo rfl (xo rfl (xo rfl (xpF rfl (xaf rfl (dR ?_))))))))
 refine FQ.ret1 (v:=(.bool false)) (Bs:=[]) [] rfl rfl rfl trivial ?_
 first | exact ⟨congrArg Value.bool (decide_eq_true (by omega)),rfl⟩ | (exfalso; omega)
 refine xmf rfl (xo rfl (xo rfl (xo rfl (xpF rfl (xmf rfl (xo rfl (xo rfl (xo rfl ?_))))))))
 refine xo rfl (xpF rfl (xaf rfl (dR ?_)))
 refine FQ.ret1 (v:=(.bool false)) (Bs:=[]) [] rfl rfl rfl trivial ?_
 first | exact ⟨congrArg Value.bool (decide_eq_true (by omega)),rfl⟩ | (exfalso; omega)
theorem znD {S:Type} [MemLike S] {mt:TypeId} {mv:Value} {A:S→Assn} (hM:MemI Tryz.prog mt mv A) {fS:FuncId} (hfS:zd1 Tryz.prog mt "Store" fS=true) {l:Lay} (hl:l.Ok) {σ:S}:FnD Tryz.prog 93 [.iface mt mv,layV l] [A σ] (.tuple #[]) [A (zfB l σ)]:=by
 have hb:=za3 hl
 refine Fn.enter (Tryz.func93) rfl rfl (fun w0 R=>?_)
 refine sA (xB 1 rfl (fun bk1=>(dB (xf 1 za9 rfl (xli 1 zaf rfl rfl (xmi rfl (dK (TC.loopK (X:=Nat) [0,3,6] [1] (fun s=>[(7,.int .i64 ((s:Nat):Int))]) (fun s=>[(0,A (zc2 l s σ))]) (fun s=>s≤l.S) (fun s=>l.S - s) (0) (Nat.zero_le _) ⟨rfl,trivial⟩ ⟨rfl,trivial⟩ (fun s hI=>(TC.sub (env':=[(7,_),(0,_),(3,_),(6,_)]) (L':=[(0,_),(1,_)]) ⟨rfl,rfl,rfl,rfl,trivial⟩ ⟨rfl,rfl,trivial⟩ ?_))))))))))
 refine sA (TL.lss rfl rfl rfl rfl (fun q1=>?_) (fun q1=>?_))
 refine dS (TC.condT rfl (TC.skip (TQ.then (TC.seq (TC.block (sA (xmi rfl (xai rfl ?_))))))))
 refine TL.done (TQ.then (TC.draw [(0,true),(1,true),(2,true),(4,true),(5,true),(6,true),(7,true),(8,true),(9,true),(3,false),(10,false)] [1] fc_m (by kernel_rfl) (xmc rfl (xL3 1 zaa rfl rfl (xmi rfl (xmi rfl (TL.add _ rfl rfl (wr64 (by omega)) rfl rfl (TL.conv _ rfl zeN za0 (zqA (by omega)) rfl rfl ?_))))))))
 refine TL.mf (xs:=[_]) (ys:=[]) [_] [] ⟨rfl,trivial⟩ trivial rfl rfl (TL.ncM hfS rfl rfl rfl (xmc rfl (TL.callD [] [] (zjT hl) ⟨rfl,rfl,trivial⟩ trivial zmN rfl rfl rfl rfl rfl (kL1 rfl trivial) (TL.mstore 0 hM rfl rfl rfl (by first | decide | omega) rfl rfl rfl (kL1 rfl trivial) (dI (TL.add (((s+1:Nat):Int)) rfl rfl (wrN (by omega)) rfl rfl (xmi rfl (TL.done ?_))))))))
 refine TQ.roundK (s+1) ⟨(by omega),(by omega)⟩ ⟨rfl,trivial⟩ ⟨rfl,trivial⟩ (kE3 rfl rfl rfl trivial) (kL1 rfl trivial)
 refine dS (TC.condF rfl (TC.exit (TQ.thenExit (TQ.thenExit (TQ.blockHere (TQ.then (sB (xf 1 za9 rfl ?_))))))))
 refine xli 1 zaf rfl rfl (TL.eql rfl rfl rfl rfl (fun q2=>?_) (fun q2=>?_))
 refine TL.done (TQ.then (TC.condT rfl (TC.seq (TC.draw [(0,true),(1,true),(3,true),(4,true),(5,true),(2,false),(6,false)] [1] fc_m (by kernel_rfl) (xmc rfl (xL3 1 zaa rfl rfl (TL.mf (xs:=[_]) (ys:=[]) [_] [] ⟨rfl,trivial⟩ trivial rfl rfl (TL.ncM hfS rfl rfl rfl ?_))))))))
 refine xmc rfl (TL.callD [] [] (zhA hl) ⟨rfl,trivial⟩ trivial zhM rfl rfl rfl rfl rfl (kL1 rfl trivial) (TL.mstore 0 hM rfl rfl rfl (by first | decide | omega) rfl rfl rfl (kL1 rfl trivial) (dRR ?_)))
 refine FQ.ret0 (Bs:=[A _]) [0] rfl rfl ⟨rfl,trivial⟩ ?_
 obtain rfl:s=l.S:=by omega
 have e0:l.S=0:=by omega
 exact ⟨rfl,by rw [zpf e0,e0,zc2]⟩
 refine TL.done (TQ.then (TC.condF rfl (TC.skip (TQ.then (TC.seq (TC.draw [(0,true),(1,true),(2,true),(3,true),(4,true),(6,true),(7,true),(8,true),(5,false),(9,false)] [1] fc_m (by kernel_rfl) (xmc rfl (xL3 1 zaa rfl rfl ?_))))))))
 refine xf 1 za9 rfl (xli 1 zaf rfl rfl (TL.sub _ rfl rfl (wr64 (by omega)) rfl rfl (TL.mf (xs:=[_]) (ys:=[]) [_] [] ⟨rfl,trivial⟩ trivial rfl rfl (TL.ncM hfS rfl rfl rfl (xmc rfl (TL.callD [] [] (zjT hl) ⟨rfl,rfl,trivial⟩ trivial zmN rfl rfl rfl rfl rfl (kL1 rfl trivial) (TL.mstore 0 hM rfl rfl rfl (by first | decide | omega) rfl rfl rfl (kL1 rfl trivial) (TL.done ?_))))))))
 refine TQ.then (TC.draw [(0,true),(1,true),(3,true),(4,true),(5,true),(2,false),(6,false)] [1] fc_m (by kernel_rfl) (xmc rfl (xL3 1 zaa rfl rfl (TL.mf (xs:=[_]) (ys:=[]) [_] [] ⟨rfl,trivial⟩ trivial rfl rfl (TL.ncM hfS rfl rfl rfl (xmc rfl (TL.callD [] [] (zhA hl) ⟨rfl,trivial⟩ trivial zhM rfl rfl rfl rfl rfl (kL1 rfl trivial) (TL.mstore 0 hM rfl rfl rfl (by first | decide | omega) rfl rfl rfl (kL1 rfl trivial) ?_))))))))
 refine TL.done ?_
 refine FQ.end0 (Bs:=[A _]) [0] rfl rfl ⟨rfl,trivial⟩ ?_
 obtain rfl:s=l.S:=by omega
 exact ⟨rfl,by rw [zpe (by omega)]⟩
end Go.Proofs.YtjnpjkfliochbaaGreat
