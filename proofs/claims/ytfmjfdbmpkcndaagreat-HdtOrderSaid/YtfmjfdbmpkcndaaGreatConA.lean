import Derived.Test.YtfmjfdbmpkcndaaGreatEngD
import Derived.Test.YtfmjfdbmpkcndaaGreatProg
import Derived.KernelRfl
import Derived.Tactics2
import Derived.StillTactics
import Derived.Laws.Tables
set_option linter.unusedVariables false
set_option linter.unusedSimpArgs false
set_option maxRecDepth 20000
namespace Go.Proofs.YtfmjfdbmpkcndaaGreat
open Go.Eng Go.Tm
open Go.Eng Go.Tm
abbrev layV (l:Lay):Value:=.agg #[.int .i64 l.V,.int .i64 l.S,.int .i64 l.T]
abbrev zqz (t:Thing):Value:=.agg #[.bool t.arc,.int .i64 t.level,.int .i64 t.vertex,.int .i64 t.slot,.int .i64 t.side]
abbrev wdV (w:Wd):Value:=.agg #[.int .i64 w.old,.int .i64 w.new,.int .i64 w.thread,.int .i64 w.tag]
theorem zpD {x:Int} (_h0:0≤x) (_h1:x≤16):0≤levI x∧levI x≤5:=by
 unfold levI
 repeat' split
 all_goals omega
theorem zqO {s:ByteArray} {x:Int} (h0:0≤x) (h1:x≤16) (hs:(List.range 17).map (fun i=>(s[i]?).map (·.toNat))=[0,1,2,2,3,3,3,3,4,4,4,4,4,4,4,4,5].map some):(s[x.toNat]?).map (fun b=>(b.toNat:Int))=some (levI x):=by
 have hx:x.toNat<17:=by omega
 have h2:=congrArg (fun l=>l[x.toNat]?) hs
 simp only [List.getElem?_map,List.getElem?_range hx,Option.map_some] at h2
 have h3:x=(x.toNat:Int):=by omega
 rw [h3,Int.toNat_natCast]
 generalize x.toNat=i at *
 have:i=0∨i=1∨i=2∨i=3∨i=4∨i=5∨i=6∨i=7∨i=8∨i=9∨i=10∨i=11∨i=12∨i=13∨i=14∨i=15∨i=16:=by omega
 cases hb:s[i]? with
 | none=>rw [hb] at h2; rcases this with rfl | rfl | rfl | rfl | rfl | rfl | rfl | rfl | rfl | rfl | rfl | rfl | rfl | rfl | rfl | rfl | rfl<;>simp at h2
 | some b=>rw [hb] at h2; rcases this with rfl | rfl | rfl | rfl | rfl | rfl | rfl | rfl | rfl | rfl | rfl | rfl | rfl | rfl | rfl | rfl | rfl<;>simp at h2<;>simp [h2,levI]
theorem zaU {l:Lay} (h:l.Ok):1≤(l.V:Int)∧(l.V:Int)≤16∧(l.S:Int)≤48∧1≤(l.T:Int)∧(l.T:Int)≤8:=by
 obtain ⟨h1,h2,h3,h4,h5⟩:=h; omega
theorem zqL {l:Lay} (h:l.Ok):1≤l.lev∧l.lev≤5:=by
 have:=zaU h
 unfold Lay.lev levI
 repeat' split
 all_goals omega
theorem zbz {l:Lay} (h:l.Ok):(1≤(l.V:Int)∧(l.V:Int)≤16∧(l.S:Int)≤48∧1≤(l.T:Int)∧(l.T:Int)≤8)∧(1≤l.lev∧l.lev≤5)∧l.arcs=2 * l.lev∧l.free=l.T∧(0≤l.lev * l.V∧l.lev * l.V≤5 * 16)∧(0≤(l.V:Int) * l.lev∧(l.V:Int) * l.lev≤16 * 5) ∧
  (0≤(l.S:Int) * l.arcs∧(l.S:Int) * l.arcs≤48 * 10)∧l.nodes=l.lev * l.V+l.S * l.arcs∧l.heads=l.T+1+l.S * 7∧l.edges=l.heads+l.V * l.lev∧(0≤(l.V:Int) * (l.V - 1)∧(l.V:Int) * (l.V - 1)≤16 * 15) ∧
  l.base=l.edges+(l.V:Int) * (l.V - 1) / 2∧l.cells=l.base+l.nodes * 7:=by
 have h1:=zaU h
 have h2:=zqL h
 have h3:l.arcs=2 * l.lev:=rfl
 exact ⟨h1,h2,h3,rfl,zcX (by omega) (by omega) (by omega) (by omega),zcX (by omega) (by omega) (by omega) (by omega),zcX (by omega) (by omega) (by omega) (by omega),rfl,rfl,rfl,zcX (by omega) (by omega) (by omega) (by omega),rfl,rfl⟩
theorem zlQ {a b:Int} (h0:0≤a) (hb:0<b) (ha:a<9223372036854775808):IntKind.i64.wrap (a.tdiv b)=a / b:=by
 rw [Int.tdiv_eq_ediv_of_nonneg h0]
 exact wr64 ⟨by have:=Int.ediv_nonneg h0 (Int.le_of_lt hb); omega,by have:=Int.ediv_le_self b h0; omega⟩
theorem zjk {a b:Int} (h0:0≤a):a.tmod b=a % b:=Int.tmod_eq_emod_of_nonneg h0
theorem zeU {x V:Int} (h0:0≤x) (h1:x<V) (h2:V≤16):0≤x * (2 * V - x - 1)∧x * (2 * V - x - 1)≤16 * 32:=zcX h0 (by omega) (by omega) (by omega)
abbrev za8 (l:Lay) (mt:TypeId) (mv:Value) (p:Pen):Value:=.agg #[.int .i64 l.V,.int .i64 l.S,.int .i64 l.T,.iface mt mv,.int .i64 p.thread,.int .i64 p.tag]
abbrev zgS (l:Lay) (mt:TypeId) (mv:Value):Value:=.agg #[.int .i64 l.V,.int .i64 l.S,.int .i64 l.T,.iface mt mv]
abbrev adjV (l:Lay) (mt:TypeId) (mv:Value) (p:Pen):Value:=.agg #[.int .i64 l.V,.int .i64 l.S,.int .i64 l.T,.iface mt mv,.int .i64 p.thread,.int .i64 p.tag,.int .i64 l.V,.int .i64 l.S,.int .i64 l.T,.iface mt mv]
theorem zki (l:Lay) (x m:Int):0≤zes l x m∧zes l x m<18446744073709551616:=by
 unfold zes; split<;>exact zcV _ _
theorem zk0 {S:Type} [MemLike S] (l:Lay) (σ:S) (x m:Int) (i:Nat):0≤(zdJ l σ x m i).1∧(zdJ l σ x m i).1<18446744073709551616:=by
 cases i with
 | zero=>exact zki _ _ _
 | succ i=>exact zcV _ _
abbrev edgV (e:Edg):Value:=.agg #[.int .i64 e.u,.int .i64 e.v,.int .i64 e.level,.bool e.tree]
theorem quo2 (z:Int):IntKind.i64.wrap ((IntKind.i64.wrap z).tdiv 2)=(IntKind.i64.wrap z).tdiv 2:=by
 have h:-9223372036854775808≤IntKind.i64.wrap z∧IntKind.i64.wrap z<9223372036854775808:=by
  rw [IntKind.wrap_i64]; omega
 generalize IntKind.i64.wrap z=y at *
 refine wr64 ?_
 have h1:=Int.mul_tdiv_add_tmod y 2
 have h2:=Int.tmod_lt_of_pos y (show (0:Int)<2 by omega)
 have h3:=Int.lt_tmod_of_pos y (show (0:Int)<2 by omega)
 omega
theorem zbb:(Tryz.prog.underlying 110).isSome=true:=by kernel_rfl
theorem zod:intB Tryz.prog 5 .u8=true:=by kernel_rfl
theorem zqX:Tryz.prog.underlying 9=some .string:=by kernel_rfl
theorem fc_u5:(Tryz.prog.underlying 5).isSome=true:=by kernel_rfl
theorem zaI:intB Tryz.prog 3 .i64=true:=by kernel_rfl
theorem zqa:zao Tryz.prog 103=true:=by kernel_rfl
theorem zap:fldB Tryz.prog 23 0 0=true:=by kernel_rfl
theorem zaa:zbK Tryz.prog 3=true:=by kernel_rfl
theorem zdz:(Tryz.prog.underlying 3).isSome=true:=by kernel_rfl
theorem zjF:intB Tryz.prog 112 .u64=true:=by kernel_rfl
theorem zrl:zao Tryz.prog 61=true:=by kernel_rfl
theorem zaj:aggB Tryz.prog 23 3=true:=by kernel_rfl
theorem zeC:zao Tryz.prog 19=true:=by kernel_rfl
theorem fc_m:Tryz.prog.follows .mixedOrders=true:=by kernel_rfl
theorem zb7:fldB Tryz.prog 23 1 1=true:=by kernel_rfl
theorem zku:zao Tryz.prog 93=true:=by kernel_rfl
theorem zc4:zao Tryz.prog 95=true:=by kernel_rfl
theorem zhk:fldB Tryz.prog 23 2 2=true:=by kernel_rfl
theorem zmR:zao Tryz.prog 153=true:=by kernel_rfl
theorem zic:zao Tryz.prog 127=true:=by kernel_rfl
theorem zmT:zao Tryz.prog 141=true:=by kernel_rfl
theorem zmX:zao Tryz.prog 131=true:=by kernel_rfl
theorem ziZ:zao Tryz.prog 53=true:=by kernel_rfl
theorem zoW:zao Tryz.prog 92=true:=by kernel_rfl
theorem zd0:zbj Tryz.prog 114=some (.agg #[.bool false,.int .i64 0,.int .i64 0,.int .i64 0,.int .i64 0]):=by kernel_rfl
theorem zjE:za0 Tryz.prog 114 [(0,1),(1,1),(2,1),(3,1),(4,1)]=true:=by kernel_rfl
theorem zbU:aggB Tryz.prog 114 5=true:=by kernel_rfl
theorem zdB:fldB Tryz.prog 184 2 2=true:=by kernel_rfl
theorem zbI:fldB Tryz.prog 184 0 0=true:=by kernel_rfl
theorem zh8:zao Tryz.prog 166=true:=by kernel_rfl
theorem zcv:fldB Tryz.prog 184 1 1=true:=by kernel_rfl
theorem zdA:fldB Tryz.prog 184 3 3=true:=by kernel_rfl
theorem zaN:aggB Tryz.prog 184 4=true:=by kernel_rfl
theorem zpT:zao Tryz.prog 167=true:=by kernel_rfl
theorem zmO:zao Tryz.prog 165=true:=by kernel_rfl
theorem zaF:intB Tryz.prog 110 .u64=true:=by kernel_rfl
theorem zcG:zbj Tryz.prog 184=some (.agg #[.int .i64 0,.int .i64 0,.int .i64 0,.int .i64 0]):=by kernel_rfl
theorem zjR:zao Tryz.prog 164=true:=by kernel_rfl
theorem zgA:za0 Tryz.prog 184 [(0,1),(1,1),(2,1),(3,1)]=true:=by kernel_rfl
theorem zem:fldB Tryz.prog 41 0 0=true:=by kernel_rfl
theorem zel:fldB Tryz.prog 41 1 1=true:=by kernel_rfl
theorem zh9:zao Tryz.prog 162=true:=by kernel_rfl
theorem zmQ:zao Tryz.prog 155=true:=by kernel_rfl
theorem zmP:zao Tryz.prog 163=true:=by kernel_rfl
theorem zpZ:zao Tryz.prog 154=true:=by kernel_rfl
theorem zbP:fldB Tryz.prog 43 1 3=true:=by kernel_rfl
theorem zb3:zbK Tryz.prog 39=true:=by kernel_rfl
theorem zaT:fldB Tryz.prog 43 0 0=true:=by kernel_rfl
theorem zd2:zao Tryz.prog 55=true:=by kernel_rfl
theorem zkv:zao Tryz.prog 63=true:=by kernel_rfl
theorem zjP:fldB Tryz.prog 114 1 1=true:=by kernel_rfl
theorem zad:aggB Tryz.prog 43 6=true:=by kernel_rfl
theorem zmW:zao Tryz.prog 132=true:=by kernel_rfl
theorem zp0:zao Tryz.prog 152=true:=by kernel_rfl
theorem zc5:zao Tryz.prog 139=true:=by kernel_rfl
theorem zlb:fldB Tryz.prog 43 2 4=true:=by kernel_rfl
theorem zkC:aggB Tryz.prog 41 2=true:=by kernel_rfl
theorem zp3:zao Tryz.prog 133=true:=by kernel_rfl
theorem zks:zao Tryz.prog 96=true:=by kernel_rfl
theorem zjQ:fldB Tryz.prog 114 0 0=true:=by kernel_rfl
theorem zfj:zbK Tryz.prog 4=true:=by kernel_rfl
theorem zoV:zao Tryz.prog 98=true:=by kernel_rfl
theorem zgw:zbj Tryz.prog 70=some (.agg #[.int .i64 0,.int .i64 0]):=by kernel_rfl
theorem zaQ:zhu Tryz.prog 70 2 3 1=true:=by kernel_rfl
theorem zgK:zao Tryz.prog 146=true:=by kernel_rfl
theorem zpV:zao Tryz.prog 159=true:=by kernel_rfl
theorem ziY:zao Tryz.prog 97=true:=by kernel_rfl
theorem zfG:zao Tryz.prog 126=true:=by kernel_rfl
theorem zib:zao Tryz.prog 150=true:=by kernel_rfl
theorem zfE:zao Tryz.prog 147=true:=by kernel_rfl
theorem zgJ:zao Tryz.prog 148=true:=by kernel_rfl
theorem zjS:zao Tryz.prog 151=true:=by kernel_rfl
theorem zia:zao Tryz.prog 161=true:=by kernel_rfl
theorem zpU:zao Tryz.prog 160=true:=by kernel_rfl
theorem zjT:zao Tryz.prog 149=true:=by kernel_rfl
theorem zmV:zao Tryz.prog 138=true:=by kernel_rfl
theorem zmU:zao Tryz.prog 140=true:=by kernel_rfl
theorem zaq:fldB Tryz.prog 45 0 0=true:=by kernel_rfl
theorem zhl:zao Tryz.prog 82=true:=by kernel_rfl
theorem zgI:zao Tryz.prog 81=true:=by kernel_rfl
theorem zjW:zao Tryz.prog 124=true:=by kernel_rfl
theorem zdE:zao Tryz.prog 125=true:=by kernel_rfl
theorem zfH:zao Tryz.prog 122=true:=by kernel_rfl
theorem zp4:zao Tryz.prog 119=true:=by kernel_rfl
theorem zjX:zao Tryz.prog 121=true:=by kernel_rfl
theorem zbQ:aggB Tryz.prog 45 6=true:=by kernel_rfl
theorem zo1:zao Tryz.prog 80=true:=by kernel_rfl
theorem zm1:zao Tryz.prog 123=true:=by kernel_rfl
theorem zfV:zao Tryz.prog 56=true:=by kernel_rfl
theorem zbo:fldB Tryz.prog 47 1 3=true:=by kernel_rfl
theorem zaE:fldB Tryz.prog 47 0 0=true:=by kernel_rfl
theorem zif:zao Tryz.prog 101=true:=by kernel_rfl
theorem zmZ:zao Tryz.prog 129=true:=by kernel_rfl
theorem zmJ:zao Tryz.prog 83=true:=by kernel_rfl
theorem zm0:zao Tryz.prog 128=true:=by kernel_rfl
theorem zfS:zbj Tryz.prog 98=some (.agg #[.int .i64 0,.int .i64 0,.int .i64 0,.bool false]):=by kernel_rfl
theorem za6:aggB Tryz.prog 47 4=true:=by kernel_rfl
theorem zoX:zao Tryz.prog 90=true:=by kernel_rfl
theorem zq8:zao Tryz.prog 91=true:=by kernel_rfl
theorem zqY:za0 Tryz.prog 98 [(0,1),(1,1),(2,1),(3,1)]=true:=by kernel_rfl
theorem zde:aggB Tryz.prog 98 4=true:=by kernel_rfl
theorem zaw:fldB Tryz.prog 49 1 6=true:=by kernel_rfl
theorem zpX:zao Tryz.prog 157=true:=by kernel_rfl
theorem zpY:zao Tryz.prog 156=true:=by kernel_rfl
theorem zat:aggB Tryz.prog 49 10=true:=by kernel_rfl
theorem zie:zao Tryz.prog 106=true:=by kernel_rfl
theorem zgP:zao Tryz.prog 105=true:=by kernel_rfl
theorem zbi:fldB Tryz.prog 49 0 0=true:=by kernel_rfl
theorem zg3:zli Tryz.prog 4=true:=by kernel_rfl
theorem zm2:zao Tryz.prog 120=true:=by kernel_rfl
theorem zjV:zao Tryz.prog 135=true:=by kernel_rfl
theorem zdD:zao Tryz.prog 136=true:=by kernel_rfl
theorem zgL:zao Tryz.prog 134=true:=by kernel_rfl
theorem zfF:zao Tryz.prog 137=true:=by kernel_rfl
theorem zeB:zao Tryz.prog 47=true:=by kernel_rfl
theorem zb5:fldB Tryz.prog 98 0 0=true:=by kernel_rfl
theorem zbm:fldB Tryz.prog 98 2 2=true:=by kernel_rfl
theorem zig:zao Tryz.prog 100=true:=by kernel_rfl
theorem zmY:zao Tryz.prog 130=true:=by kernel_rfl
theorem zb4:fldB Tryz.prog 98 1 1=true:=by kernel_rfl
theorem zoU:zao Tryz.prog 99=true:=by kernel_rfl
theorem zas:fldB Tryz.prog 51 0 0=true:=by kernel_rfl
theorem zrb:zao Tryz.prog 84=true:=by kernel_rfl
theorem zo2:zao Tryz.prog 78=true:=by kernel_rfl
theorem zbc:aggB Tryz.prog 51 10=true:=by kernel_rfl
theorem zmK:zao Tryz.prog 77=true:=by kernel_rfl
theorem zfU:zjB Tryz.prog 98 2 2 3=true:=by kernel_rfl
theorem zrc:zao Tryz.prog 79=true:=by kernel_rfl
theorem zo9:zao Tryz.prog 31=true:=by kernel_rfl
theorem zmL:zao Tryz.prog 58=true:=by kernel_rfl
theorem zoY:zao Tryz.prog 88=true:=by kernel_rfl
theorem zp9:zao Tryz.prog 104=true:=by kernel_rfl
theorem zkw:zao Tryz.prog 62=true:=by kernel_rfl
theorem zjN:fldB Tryz.prog 114 3 3=true:=by kernel_rfl
theorem zrr:zao Tryz.prog 27=true:=by kernel_rfl
theorem zjO:fldB Tryz.prog 114 2 2=true:=by kernel_rfl
theorem zrk:zao Tryz.prog 64=true:=by kernel_rfl
theorem zpa:zao Tryz.prog 30=true:=by kernel_rfl
theorem zrm:zao Tryz.prog 60=true:=by kernel_rfl
theorem zo3:zao Tryz.prog 76=true:=by kernel_rfl
theorem zoP:zbj Tryz.prog 88=some (.agg #[.int .i64 0,.int .i64 0,.int .i64 0,.nilIface,.int .i64 0,.int .i64 0,.int .i64 0,.int .i64 0,.int .i64 0,.nilIface]):=by kernel_rfl
theorem zmG:za0 Tryz.prog 43 [(0,3),(3,1),(4,2)]=true:=by kernel_rfl
theorem ziW:zbj Tryz.prog 43=some (.agg #[.int .i64 0,.int .i64 0,.int .i64 0,.nilIface,.int .i64 0,.int .i64 0]):=by kernel_rfl
theorem zq5:za0 Tryz.prog 45 [(0,6)]=true:=by kernel_rfl
theorem zoR:zbj Tryz.prog 45=some (.agg #[.int .i64 0,.int .i64 0,.int .i64 0,.nilIface,.int .i64 0,.int .i64 0]):=by kernel_rfl
theorem zq4:za0 Tryz.prog 47 [(0,3),(3,1)]=true:=by kernel_rfl
theorem zqV:zbj Tryz.prog 47=some (.agg #[.int .i64 0,.int .i64 0,.int .i64 0,.nilIface]):=by kernel_rfl
theorem zq3:za0 Tryz.prog 49 [(0,6),(6,4)]=true:=by kernel_rfl
theorem zqU:zbj Tryz.prog 49=some (.agg #[.int .i64 0,.int .i64 0,.int .i64 0,.nilIface,.int .i64 0,.int .i64 0,.int .i64 0,.int .i64 0,.int .i64 0,.nilIface]):=by kernel_rfl
theorem zq2:za0 Tryz.prog 51 [(0,10)]=true:=by kernel_rfl
theorem zqT:zbj Tryz.prog 51=some (.agg #[.int .i64 0,.int .i64 0,.int .i64 0,.nilIface,.int .i64 0,.int .i64 0,.int .i64 0,.int .i64 0,.int .i64 0,.nilIface]):=by kernel_rfl
theorem zqZ:za0 Tryz.prog 88 [(0,10)]=true:=by kernel_rfl
theorem za5:aggB Tryz.prog 88 10=true:=by kernel_rfl
theorem zaR:fldB Tryz.prog 88 0 0=true:=by kernel_rfl
theorem zi1:zao Tryz.prog 40=true:=by kernel_rfl
theorem zra:zao Tryz.prog 87=true:=by kernel_rfl
theorem zo8:zao Tryz.prog 32=true:=by kernel_rfl
theorem zrs:zao Tryz.prog 26=true:=by kernel_rfl
theorem zrp:zao Tryz.prog 33=true:=by kernel_rfl
theorem zru:zao Tryz.prog 20=true:=by kernel_rfl
theorem zk9:fldB Tryz.prog 98 3 3=true:=by kernel_rfl
theorem zo5:zao Tryz.prog 59=true:=by kernel_rfl
theorem zrq:zao Tryz.prog 28=true:=by kernel_rfl
theorem zq9:zao Tryz.prog 89=true:=by kernel_rfl
theorem zbJ:fldB Tryz.prog 149 0 0=true:=by kernel_rfl
theorem zbB:zbK Tryz.prog 24=true:=by kernel_rfl
theorem zax:zbS Tryz.prog 24 110 1=true:=by kernel_rfl
theorem zdC:fldB Tryz.prog 149 1 1=true:=by kernel_rfl
theorem zgG:fldB Tryz.prog 147 0 0=true:=by kernel_rfl
theorem zkt:zao Tryz.prog 94=true:=by kernel_rfl
theorem zh4:ptrB Tryz.prog 150=true:=by kernel_rfl
theorem zeM:zbK Tryz.prog 110=true:=by kernel_rfl
theorem zgF:fldB Tryz.prog 147 1 1=true:=by kernel_rfl
theorem zgH:fldB Tryz.prog 107 0 0=true:=by kernel_rfl
theorem zmD:zbK Tryz.prog 37=true:=by kernel_rfl
theorem zo4:zao Tryz.prog 65=true:=by kernel_rfl
theorem zmM:zao Tryz.prog 54=true:=by kernel_rfl
theorem zdc:appB Tryz.prog 24 110 1=true:=by kernel_rfl
theorem zh3:zbj Tryz.prog 110=some (.int .u64 0):=by kernel_rfl
theorem zpR:za0 Tryz.prog 149 [(0,1),(1,5)]=true:=by kernel_rfl
theorem zpN:zbj Tryz.prog 149=some (.agg #[.slice none 0 0,.int .i64 0,.int .i64 0,.int .i64 0,.int .i64 0,.int .i64 0]):=by kernel_rfl
theorem zmC:zbj Tryz.prog 107=some (.agg #[.pointer none]):=by kernel_rfl
theorem zpS:za0 Tryz.prog 107 [(0,1)]=true:=by kernel_rfl
theorem zi4:aggB Tryz.prog 107 1=true:=by kernel_rfl
theorem zae:zbS Tryz.prog 77 3 1=true:=by kernel_rfl
theorem zeL:zbj Tryz.prog 3=some (.int .i64 0):=by kernel_rfl
theorem zaY:zbS Tryz.prog 122 70 2=true:=by kernel_rfl
theorem zgN:zao Tryz.prog 109=true:=by kernel_rfl
theorem za2:appB Tryz.prog 77 3 1=true:=by kernel_rfl
theorem zbw:zbK Tryz.prog 52=true:=by kernel_rfl
theorem zah:zbS Tryz.prog 52 65 5=true:=by kernel_rfl
theorem zaV:aggB Tryz.prog 65 5=true:=by kernel_rfl
theorem zc0:zbj Tryz.prog 65=some (.agg #[.int .i64 0,.int .i64 0,.int .i64 0,.int .i64 0,.bool false]):=by kernel_rfl
theorem zaS:fldB Tryz.prog 65 0 0=true:=by kernel_rfl
theorem zek:fldB Tryz.prog 65 4 4=true:=by kernel_rfl
theorem zcS:fldB Tryz.prog 65 3 3=true:=by kernel_rfl
theorem zb6:fldB Tryz.prog 65 1 1=true:=by kernel_rfl
theorem zbx:fldB Tryz.prog 65 2 2=true:=by kernel_rfl
theorem zd1:appB Tryz.prog 122 70 2=true:=by kernel_rfl
theorem zhm:zao Tryz.prog 69=true:=by kernel_rfl
theorem zmF:za0 Tryz.prog 65 [(0,1),(1,1),(2,1),(3,1),(4,1)]=true:=by kernel_rfl
theorem zbH:appB Tryz.prog 52 65 5=true:=by kernel_rfl
theorem zoS:zbj Tryz.prog 23=some (.agg #[.int .i64 0,.int .i64 0,.int .i64 0]):=by kernel_rfl
theorem zo6:zao Tryz.prog 51=true:=by kernel_rfl
theorem zrn:zao Tryz.prog 50=true:=by kernel_rfl
theorem zq7:ptrB Tryz.prog 37=true:=by kernel_rfl
theorem zmH:za0 Tryz.prog 41 [(0,1),(1,1)]=true:=by kernel_rfl
theorem zmA:zbj Tryz.prog 41=some (.agg #[.int .i64 0,.int .i64 0]):=by kernel_rfl
theorem zkx:zao Tryz.prog 52=true:=by kernel_rfl
theorem zh5:zhN Tryz.prog 107=true:=by kernel_rfl
theorem zbn:fldB Tryz.prog 57 0 0=true:=by kernel_rfl
theorem zbO:fldB Tryz.prog 57 1 1=true:=by kernel_rfl
theorem zfD:fldB Tryz.prog 57 2 2=true:=by kernel_rfl
theorem zoQ:zbj Tryz.prog 57=some (.agg #[.int .i64 0,.int .i64 0,.int .i64 0]):=by kernel_rfl
theorem zq1:za0 Tryz.prog 57 [(0,1),(1,1),(2,1)]=true:=by kernel_rfl
theorem zbX:aggB Tryz.prog 57 3=true:=by kernel_rfl
theorem zro:zao Tryz.prog 48=true:=by kernel_rfl
theorem zq6:za0 Tryz.prog 23 [(0,1),(1,1),(2,1)]=true:=by kernel_rfl
theorem zhn:zao Tryz.prog 68=true:=by kernel_rfl
theorem zbf:za0 Tryz.prog 132 [(0,1),(1,1),(2,1),(3,1)]=true:=by kernel_rfl
theorem zaK:zbj Tryz.prog 132=some (.agg #[.int .i64 0,.int .i64 0,.int .i64 0,.int .i64 0]):=by kernel_rfl
theorem zaf:zbS Tryz.prog 58 132 4=true:=by kernel_rfl
theorem zbr:appB Tryz.prog 58 132 4=true:=by kernel_rfl
theorem zcH:zao Tryz.prog 108=true:=by kernel_rfl
theorem za4:fldB Tryz.prog 61 3 5=true:=by kernel_rfl
theorem zdb:zbK Tryz.prog 59=true:=by kernel_rfl
theorem zaM:zjr Tryz.prog 59 132 3=true:=by kernel_rfl
theorem zhj:fldB Tryz.prog 61 2 4=true:=by kernel_rfl
theorem zbF:zbj Tryz.prog 61=some (.agg #[.int .i64 0,.int .i64 0,.int .i64 0,.slice none 0 0,.slice none 0 0,.map none,.slice none 0 0]):=by kernel_rfl
theorem zgO:zao Tryz.prog 107=true:=by kernel_rfl
theorem zdK:za0 Tryz.prog 61 [(0,3),(3,1),(4,1),(5,1),(6,1)]=true:=by kernel_rfl
theorem zai:aggB Tryz.prog 61 7=true:=by kernel_rfl
theorem zaD:fldB Tryz.prog 61 1 3=true:=by kernel_rfl
theorem za1:zbK Tryz.prog 58=true:=by kernel_rfl
theorem zaG:aggB Tryz.prog 132 4=true:=by kernel_rfl
theorem zbh:fldB Tryz.prog 61 0 0=true:=by kernel_rfl
theorem zdd:zao Tryz.prog 67=true:=by kernel_rfl
theorem zjD:zbj Tryz.prog 176=some (.agg #[.int .i64 0,.int .i64 0,.int .i64 0,.int .i64 0]):=by kernel_rfl
theorem zpO:za0 Tryz.prog 176 [(0,1),(1,1),(2,1),(3,1)]=true:=by kernel_rfl
theorem zfp:aggB Tryz.prog 176 4=true:=by kernel_rfl
theorem zjI:fldB Tryz.prog 176 0 0=true:=by kernel_rfl
theorem zjH:fldB Tryz.prog 176 2 2=true:=by kernel_rfl
theorem zjG:fldB Tryz.prog 176 3 3=true:=by kernel_rfl
theorem zp2:zao Tryz.prog 142=true:=by kernel_rfl
theorem zh7:zjB Tryz.prog 176 1 1 3=true:=by kernel_rfl
theorem zcw:fldB Tryz.prog 132 0 0=true:=by kernel_rfl
theorem zeQ:fldB Tryz.prog 132 1 1=true:=by kernel_rfl
theorem zc3:fldB Tryz.prog 132 2 2=true:=by kernel_rfl
theorem zby:fldB Tryz.prog 61 4 6=true:=by kernel_rfl
theorem zoe:Tryz.prog.eqGuardType Tryz.prog.depth 132=false:=by kernel_rfl
theorem zjY:zao Tryz.prog 115=true:=by kernel_rfl
theorem zp8:zao Tryz.prog 110=true:=by kernel_rfl
theorem zfI:zao Tryz.prog 111=true:=by kernel_rfl
theorem zgM:zao Tryz.prog 112=true:=by kernel_rfl
theorem zfo:aggB Tryz.prog 70 2=true:=by kernel_rfl
theorem zb0:fldB Tryz.prog 165 1 1=true:=by kernel_rfl
theorem zc1:fldB Tryz.prog 169 6 6=true:=by kernel_rfl
theorem zjJ:fldB Tryz.prog 169 5 5=true:=by kernel_rfl
theorem zeO:fldB Tryz.prog 169 4 4=true:=by kernel_rfl
theorem zjK:fldB Tryz.prog 169 3 3=true:=by kernel_rfl
theorem zdr:aggB Tryz.prog 165 4=true:=by kernel_rfl
theorem zpW:zao Tryz.prog 158=true:=by kernel_rfl
theorem zeP:fldB Tryz.prog 165 2 2=true:=by kernel_rfl
theorem zgy:zbK Tryz.prog 77=true:=by kernel_rfl
theorem zpP:za0 Tryz.prog 169 [(0,1),(1,1),(2,1),(3,1),(4,1),(5,1),(6,1)]=true:=by kernel_rfl
theorem zh2:zbj Tryz.prog 169=some (.agg #[.int .i64 0,.int .i64 0,.int .i64 0,.int .i64 0,.int .i64 0,.int .i64 0,.int .i64 0]):=by kernel_rfl
theorem zdq:aggB Tryz.prog 169 7=true:=by kernel_rfl
theorem zc2:fldB Tryz.prog 165 3 3=true:=by kernel_rfl
theorem zgz:zbK Tryz.prog 163=true:=by kernel_rfl
theorem zeN:zbS Tryz.prog 163 4 1=true:=by kernel_rfl
theorem zjU:zao Tryz.prog 143=true:=by kernel_rfl
theorem zgD:fldB Tryz.prog 169 1 1=true:=by kernel_rfl
theorem zgC:fldB Tryz.prog 169 2 2=true:=by kernel_rfl
theorem zfl:zbS Tryz.prog 166 169 7=true:=by kernel_rfl
theorem zh6:appB Tryz.prog 166 169 7=true:=by kernel_rfl
theorem zgE:fldB Tryz.prog 165 0 0=true:=by kernel_rfl
theorem zmE:zbK Tryz.prog 125=true:=by kernel_rfl
theorem zbG:zbS Tryz.prog 125 77 1=true:=by kernel_rfl
theorem zid:zao Tryz.prog 113=true:=by kernel_rfl
theorem zm3:zao Tryz.prog 114=true:=by kernel_rfl
theorem zqS:zbj Tryz.prog 77=some (.slice none 0 0):=by kernel_rfl
theorem ziX:appB Tryz.prog 125 77 1=true:=by kernel_rfl
theorem zpQ:za0 Tryz.prog 165 [(0,1),(1,1),(2,1),(3,1)]=true:=by kernel_rfl
theorem zmB:zbj Tryz.prog 165=some (.agg #[.slice none 0 0,.slice none 0 0,.slice none 0 0,.slice none 0 0]):=by kernel_rfl
theorem zqW:zbj Tryz.prog 4=some (.bool false):=by kernel_rfl
theorem zgB:appB Tryz.prog 163 4 1=true:=by kernel_rfl
theorem zp7:zao Tryz.prog 116=true:=by kernel_rfl
theorem zjL:fldB Tryz.prog 169 0 0=true:=by kernel_rfl
theorem zp6:zao Tryz.prog 117=true:=by kernel_rfl
theorem zp1:zao Tryz.prog 144=true:=by kernel_rfl
theorem zmS:zao Tryz.prog 145=true:=by kernel_rfl
theorem zjM:fldB Tryz.prog 132 3 3=true:=by kernel_rfl
theorem zp5:zao Tryz.prog 118=true:=by kernel_rfl
theorem zi3:zao Tryz.prog 22=true:=by kernel_rfl
theorem zri:zao Tryz.prog 70=true:=by kernel_rfl
theorem zrh:zao Tryz.prog 71=true:=by kernel_rfl
theorem zrg:zao Tryz.prog 72=true:=by kernel_rfl
theorem zrf:zao Tryz.prog 73=true:=by kernel_rfl
theorem zre:zao Tryz.prog 74=true:=by kernel_rfl
theorem zrd:zao Tryz.prog 75=true:=by kernel_rfl
theorem zrj:zao Tryz.prog 66=true:=by kernel_rfl
theorem zrt:zao Tryz.prog 25=true:=by kernel_rfl
theorem zay:fldB Tryz.prog 90 3 14=true:=by kernel_rfl
theorem zaB:fldB Tryz.prog 90 0 0=true:=by kernel_rfl
theorem zcu:fldB Tryz.prog 80 0 0=true:=by kernel_rfl
theorem zct:fldB Tryz.prog 80 1 3=true:=by kernel_rfl
theorem zoZ:zao Tryz.prog 86=true:=by kernel_rfl
theorem zoT:za0 Tryz.prog 90 [(0,3),(3,1),(4,10),(14,1)]=true:=by kernel_rfl
theorem zoO:zbj Tryz.prog 90=some (.agg #[.int .i64 0,.int .i64 0,.int .i64 0,.pointer none,.int .i64 0,.int .i64 0,.int .i64 0,.nilIface,.int .i64 0,.int .i64 0,.int .i64 0,.int .i64 0,.int .i64 0,.nilIface,.slice none 0 0]):=by kernel_rfl
theorem zo0:zao Tryz.prog 85=true:=by kernel_rfl
theorem zcs:fldB Tryz.prog 80 2 4=true:=by kernel_rfl
theorem zgx:zbK Tryz.prog 78=true:=by kernel_rfl
theorem zbZ:zbS Tryz.prog 78 85 3=true:=by kernel_rfl
theorem zla:fldB Tryz.prog 90 1 3=true:=by kernel_rfl
theorem zal:fldB Tryz.prog 85 1 1=true:=by kernel_rfl
theorem zan:fldB Tryz.prog 85 2 2=true:=by kernel_rfl
theorem zfm:zao Tryz.prog 44=true:=by kernel_rfl
theorem zfn:zao Tryz.prog 43=true:=by kernel_rfl
theorem za9:fldB Tryz.prog 85 0 0=true:=by kernel_rfl
theorem za3:fldB Tryz.prog 90 2 4=true:=by kernel_rfl
theorem zkA:zao Tryz.prog 41=true:=by kernel_rfl
theorem zkz:zao Tryz.prog 45=true:=by kernel_rfl
theorem zi2:zao Tryz.prog 39=true:=by kernel_rfl
theorem zky:zao Tryz.prog 46=true:=by kernel_rfl
theorem zi0:zao Tryz.prog 42=true:=by kernel_rfl
theorem zcB:zjB Tryz.prog 65 4 4 4=true:=by kernel_rfl
theorem zq0:za0 Tryz.prog 80 [(0,3),(3,1),(4,1)]=true:=by kernel_rfl
theorem zqR:zbj Tryz.prog 80=some (.agg #[.int .i64 0,.int .i64 0,.int .i64 0,.slice none 0 0,.slice none 0 0]):=by kernel_rfl
theorem zmN:zao Tryz.prog 36=true:=by kernel_rfl
theorem zmI:ptrB Tryz.prog 82=true:=by kernel_rfl
theorem zf6:aggB Tryz.prog 80 5=true:=by kernel_rfl
theorem zo7:zao Tryz.prog 34=true:=by kernel_rfl
theorem zho:zao Tryz.prog 35=true:=by kernel_rfl
theorem zcA:aggB Tryz.prog 85 3=true:=by kernel_rfl
theorem zkr:zbj Tryz.prog 85=some (.agg #[.int .i64 0,.int .i64 0,.int .i64 0]):=by kernel_rfl
theorem zkB:zao Tryz.prog 37=true:=by kernel_rfl
theorem zfT:zjB Tryz.prog 98 3 3 4=true:=by kernel_rfl
theorem zbt {n m:Int}:FnD Tryz.prog 95 [.int .i64 n,.int .i64 m] [] (.bool (decide (0≤n∧n<m))) []:=by
 refine Fn.enter (Tryz.func95) rfl rfl (fun w0 R=>?_)
 refine sA (xaf rfl (dA (xmi rfl (TL.geq rfl rfl rfl rfl (fun q1=>?_) (fun q1=>?_)))))
 refine xmt rfl (xmi rfl (xmi rfl (TL.lssV rfl rfl rfl rfl (TL.pickT (.bool _) rfl rfl rfl rfl (xab rfl (dR ?_))))))
 refine FQ.ret1 (v:=(.bool _)) (Bs:=[]) [] rfl rfl rfl trivial ?_
 first | exact ⟨bT (by omega),rfl⟩ | exact ⟨bF (by omega),rfl⟩ | exact ⟨congrArg Value.bool (decide_eq_decide.2 (by omega)),rfl⟩
 refine xmf rfl (xo rfl (xo rfl (xo rfl (xpF rfl (xaf rfl (dR ?_))))))
 refine FQ.ret1 (v:=(.bool false)) (Bs:=[]) [] rfl rfl rfl trivial ?_
 first | exact ⟨bT (by omega),rfl⟩ | exact ⟨bF (by omega),rfl⟩ | exact ⟨congrArg Value.bool (decide_eq_decide.2 (by omega)),rfl⟩
theorem zn7 {x:Int} (h0:0≤x) (h1:x≤16):FnD Tryz.prog 103 [.int .u64 x] [] (.int .i64 (levI x)) []:=by
 have hl:=zpD h0 h1
 refine Fn.enter (Tryz.func103) rfl rfl (fun w0 R=>?_)
 refine sA (xai rfl (dB (xmi rfl (TL.geqF rfl rfl (by omega) rfl rfl (TL.done (TQ.then (TC.condF rfl (TC.skip ?_))))))))
 refine TQ.then (sB (xmi rfl (TL.geqF rfl rfl (by omega) rfl rfl (TL.done (TQ.then (TC.condF rfl (TC.skip (TQ.then ?_))))))))
 refine sB (xmi rfl (TL.geqF rfl rfl (by omega) rfl rfl (dF rfl (xmi rfl (xmi rfl (TL.conv _ rfl zbb zod (wru8 (by omega)) rfl rfl (TL.ixS (levI x) rfl rfl zqX (by omega) (zqO h0 h1 (by kernel_rfl)) rfl rfl (TL.conv _ rfl fc_u5 zaI (wr64 (by omega)) rfl rfl ?_))))))))
 refine TL.add _ rfl rfl (wr64 (by omega)) rfl rfl (xai rfl (dR ?_))
 refine FQ.ret1 (v:=(.int _ _)) (Bs:=[]) [] rfl rfl rfl trivial ?_
 exact ⟨iE (by omega),rfl⟩
theorem zqM {x:Int} (h0:0≤x) (h1:x≤16):FnD Tryz.prog 61 [.int .u64 x] [] (.int .i64 (levI x)) []:=by
 refine Fn.enter (Tryz.func61) rfl rfl (fun w0 R=>?_)
 refine sA (xai rfl (dS (TC.condF rfl (TC.skip (TQ.then (sA (xmi rfl (TL.callD [] [] (zn7 (by omega) (by omega)) ⟨rfl,trivial⟩ trivial zqa rfl rfl rfl rfl rfl trivial ?_))))))))
 refine xai rfl (dR ?_)
 refine FQ.ret1 (v:=(.int _ _)) (Bs:=[]) [] rfl rfl rfl trivial ?_
 exact ⟨rfl,rfl⟩
theorem zbT {l:Lay} (hl:l.Ok)  : FnD Tryz.prog 19 [layV l] [] (.int .i64 l.lev) []:=by
 have hb:=zaU hl
 refine Fn.enter (Tryz.func19) rfl rfl (fun w0 R=>?_)
 refine sA (xB 0 rfl (fun bk0=>(xai rfl (dA (xf 0 zap rfl (xli 0 zaa rfl rfl (TL.conv _ rfl zdz zjF (zdL (by omega)) rfl rfl (TL.callD [] [] (zqM (by omega) (by omega)) ⟨rfl,trivial⟩ trivial zrl rfl rfl rfl rfl rfl trivial (xai rfl ?_)))))))))
 refine dR ?_
 refine FQ.ret1 (v:=(.int _ _)) (Bs:=[]) [] rfl rfl rfl trivial ?_
 exact ⟨rfl,rfl⟩
theorem zir {l:Lay} (hl:l.Ok)  : FnD Tryz.prog 93 [layV l] [] (.int .i64 l.arcs) []:=by
 have hb:=zbz hl
 refine Fn.enter (Tryz.func93) rfl rfl (fun w0 R=>?_)
 refine sA (xB 0 rfl (fun bk0=>(xai rfl (dA (xL3 0 zaj rfl rfl (TL.callD [] [] (zbT hl) ⟨rfl,trivial⟩ trivial zeC rfl rfl rfl rfl rfl trivial (TL.mul _ rfl rfl (wr64 (by omega)) rfl rfl (xai rfl (dR ?_)))))))))
 refine FQ.ret1 (v:=(.int _ _)) (Bs:=[]) [] rfl rfl rfl trivial ?_
 exact ⟨rfl,rfl⟩
theorem ze9 {l:Lay} (hl:l.Ok)  : FnD Tryz.prog 53 [layV l] [] (.int .i64 l.nodes) []:=by
 have hb:=zbz hl
 refine Fn.enter (Tryz.func53) rfl rfl (fun w0 R=>?_)
 refine sA (xB 0 rfl (fun bk0=>(xai rfl (dS (TC.draw [(0,true),(2,true),(3,true),(5,true),(6,true),(7,true),(1,false),(4,true),(8,false),(9,true),(10,true),(11,true)] [0] fc_m (by kernel_rfl) (xL3 0 zaj rfl rfl (xf 0 zap rfl (xli 0 zaa rfl rfl (xf 1 zb7 rfl ?_)))))))))
 refine xli 0 zaa rfl rfl (xL3 0 zaj rfl rfl (TL.callD [] [] (zbT hl) ⟨rfl,trivial⟩ trivial zeC rfl rfl rfl rfl rfl (kL1 rfl trivial) (TL.mul _ rfl rfl (wr64 (by omega)) rfl rfl (TL.callD [] [] (zir hl) ⟨rfl,trivial⟩ trivial zku rfl rfl rfl rfl rfl (kL1 rfl trivial) (TL.mul _ rfl rfl (wr64 (by omega)) rfl rfl (TL.add _ rfl rfl (wr64 (by omega)) rfl rfl (xai rfl (dR ?_))))))))
 refine FQ.ret1 (v:=(.int _ _)) (Bs:=[]) [] rfl rfl rfl trivial ?_
 exact ⟨rfl,rfl⟩
theorem zdl {l:Lay} (hl:l.Ok) {i v:Int}:FnD Tryz.prog 82 [layV l,.int .i64 i,.int .i64 v] [] (.int .i64 (l.vertex i v)) []:=by
 have hb:=zbz hl
 refine Fn.enter (Tryz.func82) rfl rfl (fun w0 R=>?_)
 refine sA (xB 0 rfl (fun bk0=>(xai rfl (dB (xmi rfl (xL3 0 zaj rfl rfl (TL.callD [] [] (zbT hl) ⟨rfl,trivial⟩ trivial zeC rfl rfl rfl rfl rfl trivial (TL.callD [] [] zbt ⟨rfl,rfl,trivial⟩ trivial zc4 rfl rfl rfl rfl rfl trivial (TL.casesP rfl (fun q1=>?_) (fun q1=>?_))))))))))
 refine xnt rfl (xmf rfl (xmi rfl (xf 0 zap rfl (xli 0 zaa rfl rfl (TL.callD [] [] zbt ⟨rfl,rfl,trivial⟩ trivial zc4 rfl rfl rfl rfl rfl trivial (TL.casesP rfl (fun q2=>?_) (fun q2=>?_)))))))
 refine xnt rfl (xpF rfl (dF rfl (xmi rfl (xf 0 zap rfl (xli 0 zaa rfl rfl (TL.mul _ rfl rfl (wr64 (by have:=zcX (a:=i) (A:=5) (b:=(l.V:Int)) (B:=16) (by omega) (by omega) (by omega) (by omega); omega)) rfl rfl (TL.add _ rfl rfl (wr64 (by have:=zcX (a:=i) (A:=5) (b:=(l.V:Int)) (B:=16) (by omega) (by omega) (by omega) (by omega); omega)) rfl rfl (xmi rfl ?_))))))))
 refine TL.add _ rfl rfl (wr64 (by have:=zcX (a:=i) (A:=5) (b:=(l.V:Int)) (B:=16) (by omega) (by omega) (by omega) (by omega); omega)) rfl rfl (xai rfl (dR ?_))
 refine FQ.ret1 (v:=(.int _ _)) (Bs:=[]) [] rfl rfl rfl trivial ?_
 first | exact ⟨iE (by unfold Lay.vertex; rw [if_pos (by omega)]),rfl⟩ | exact ⟨iE (by unfold Lay.vertex; rw [if_neg (by omega)]),rfl⟩
 refine xnf rfl (xpH rfl (dT rfl (xai rfl (dRR ?_))))
 refine FQ.ret1 (v:=(.int _ _)) (Bs:=[]) [] rfl rfl rfl trivial ?_
 first | exact ⟨iE (by unfold Lay.vertex; rw [if_pos (by omega)]),rfl⟩ | exact ⟨iE (by unfold Lay.vertex; rw [if_neg (by omega)]),rfl⟩
 refine xnf rfl (xmt rfl (xo rfl (xo rfl (xo rfl (xo rfl (xo rfl (xpT rfl (dT rfl ?_))))))))
 refine xai rfl (dRR ?_)
 refine FQ.ret1 (v:=(.int _ _)) (Bs:=[]) [] rfl rfl rfl trivial ?_
 first | exact ⟨iE (by unfold Lay.vertex; rw [if_pos (by omega)]),rfl⟩ | exact ⟨iE (by unfold Lay.vertex; rw [if_neg (by omega)]),rfl⟩
theorem znr {l:Lay} (hl:l.Ok) {s i d:Int}:FnD Tryz.prog 121 [layV l,.int .i64 s,.int .i64 i,.int .i64 d] [] (.int .i64 (l.arc s i d)) []:=by
 have hb:=zbz hl
 refine Fn.enter (Tryz.func121) rfl rfl (fun w0 R=>?_)
 refine sA (xB 0 rfl (fun bk0=>(xai rfl (dB (xmi rfl (xf 1 zb7 rfl (xli 0 zaa rfl rfl (TL.callD [] [] zbt ⟨rfl,rfl,trivial⟩ trivial zc4 rfl rfl rfl rfl rfl trivial (TL.casesP rfl (fun q1=>?_) (fun q1=>?_))))))))))
 refine xnt rfl (xmf rfl (xmi rfl (xL3 0 zaj rfl rfl (TL.callD [] [] (zbT hl) ⟨rfl,trivial⟩ trivial zeC rfl rfl rfl rfl rfl trivial (TL.callD [] [] zbt ⟨rfl,rfl,trivial⟩ trivial zc4 rfl rfl rfl rfl rfl trivial (TL.casesP rfl (fun q2=>?_) (fun q2=>?_)))))))
 refine xnt rfl (xpF rfl (xmf rfl (xmi rfl (TL.callD [] [] zbt ⟨rfl,rfl,trivial⟩ trivial zc4 rfl rfl rfl rfl rfl trivial (TL.casesP rfl (fun q3=>?_) (fun q3=>?_))))))
 refine xnt rfl (xpF rfl (TL.done (TQ.then (TC.condF rfl (TC.skip (TQ.then (TC.seq (TC.draw [(0,true),(2,true),(3,true),(6,true),(7,true),(11,true),(12,true),(14,true),(1,false),(4,true),(5,true),(8,false),(9,true),(10,true),(13,true),(15,true),(16,true)] [0] fc_m (by kernel_rfl) ?_))))))))
 refine xL3 0 zaj rfl rfl (xf 0 zap rfl (xli 0 zaa rfl rfl (xmi rfl (xL3 0 zaj rfl rfl (xmi rfl (TL.mul _ rfl rfl (wr64 (by omega)) rfl rfl (xmi rfl (TL.callD [] [] (zbT hl) ⟨rfl,trivial⟩ trivial zeC rfl rfl rfl rfl rfl (kL1 rfl trivial) ?_))))))))
 refine TL.mul _ rfl rfl (wr64 (by omega)) rfl rfl (TL.add _ rfl rfl (wr64 (by omega)) rfl rfl (TL.callD [] [] (zir hl) ⟨rfl,trivial⟩ trivial zku rfl rfl rfl rfl rfl (kL1 rfl trivial) (TL.mul _ rfl rfl (wr64 (by have:=zcX (a:=s) (A:=48) (b:=l.arcs) (B:=10) (by omega) (by omega) (by omega) (by omega); omega)) rfl rfl (TL.add _ rfl rfl (wr64 (by have:=zcX (a:=s) (A:=48) (b:=l.arcs) (B:=10) (by omega) (by omega) (by omega) (by omega); omega)) rfl rfl (TL.add _ rfl rfl (wr64 (by have:=zcX (a:=s) (A:=48) (b:=l.arcs) (B:=10) (by omega) (by omega) (by omega) (by omega); omega)) rfl rfl ?_)))))
 refine TL.add _ rfl rfl (wr64 (by have:=zcX (a:=s) (A:=48) (b:=l.arcs) (B:=10) (by omega) (by omega) (by omega) (by omega); omega)) rfl rfl (xai rfl (dR ?_))
 refine FQ.ret1 (v:=(.int _ _)) (Bs:=[]) [] rfl rfl rfl trivial ?_
 first | exact ⟨iE (by unfold Lay.arc; rw [if_pos (by omega)]),rfl⟩ | exact ⟨iE (by unfold Lay.arc; rw [if_neg (by omega)]),rfl⟩
 refine xnf rfl (xpH rfl (dT rfl (xai rfl (dRR ?_))))
 refine FQ.ret1 (v:=(.int _ _)) (Bs:=[]) [] rfl rfl rfl trivial ?_
 first | exact ⟨iE (by unfold Lay.arc; rw [if_pos (by omega)]),rfl⟩ | exact ⟨iE (by unfold Lay.arc; rw [if_neg (by omega)]),rfl⟩
 refine xnf rfl (xpH rfl (xmt rfl (xo rfl (xo rfl (xo rfl (xpT rfl (dT rfl (xai rfl ?_))))))))
 refine dRR ?_
 refine FQ.ret1 (v:=(.int _ _)) (Bs:=[]) [] rfl rfl rfl trivial ?_
 first | exact ⟨iE (by unfold Lay.arc; rw [if_pos (by omega)]),rfl⟩ | exact ⟨iE (by unfold Lay.arc; rw [if_neg (by omega)]),rfl⟩
 refine xnf rfl (xmt rfl (xo rfl (xo rfl (xo rfl (xo rfl (xo rfl (xpT rfl (xmt rfl ?_))))))))
 refine xo rfl (xo rfl (xo rfl (xpT rfl (dT rfl (xai rfl (dRR ?_))))))
 refine FQ.ret1 (v:=(.int _ _)) (Bs:=[]) [] rfl rfl rfl trivial ?_
 first | exact ⟨iE (by unfold Lay.arc; rw [if_pos (by omega)]),rfl⟩ | exact ⟨iE (by unfold Lay.arc; rw [if_neg (by omega)]),rfl⟩
theorem zmw {l:Lay} (hl:l.Ok)  : FnD Tryz.prog 153 [layV l] [] (.int .i64 l.free) []:=by
 have hb:=zbz hl
 refine Fn.enter (Tryz.func153) rfl rfl (fun w0 R=>?_)
 refine sA (xB 0 rfl (fun bk0=>(xai rfl (dA (xf 2 zhk rfl (xli 0 zaa rfl rfl (xai rfl (dR ?_))))))))
 refine FQ.ret1 (v:=(.int _ _)) (Bs:=[]) [] rfl rfl rfl trivial ?_
 exact ⟨rfl,rfl⟩
theorem znZ {l:Lay} (hl:l.Ok) {s f:Int} (hf:0≤f∧f≤8):FnD Tryz.prog 127 [layV l,.int .i64 s,.int .i64 f] [] (.int .i64 (l.of s f)) []:=by
 have hb:=zbz hl
 refine Fn.enter (Tryz.func127) rfl rfl (fun w0 R=>?_)
 refine sA (xB 0 rfl (fun bk0=>(xai rfl (dB (xmi rfl (xf 1 zb7 rfl (xli 0 zaa rfl rfl (TL.callD [] [] zbt ⟨rfl,rfl,trivial⟩ trivial zc4 rfl rfl rfl rfl rfl trivial (TL.casesP rfl (fun q1=>?_) (fun q1=>?_))))))))))
 refine xnt rfl (dF rfl (xL3 0 zaj rfl rfl (TL.callD [] [] (zmw hl) ⟨rfl,trivial⟩ trivial zmR rfl rfl rfl rfl rfl trivial (TL.add _ rfl rfl (wr64 (by omega)) rfl rfl (xmi rfl (TL.mul _ rfl rfl (wr64 (by omega)) rfl rfl (TL.add _ rfl rfl (wr64 (by omega)) rfl rfl (xmi rfl ?_))))))))
 refine TL.add _ rfl rfl (wr64 (by omega)) rfl rfl (xai rfl (dR ?_))
 refine FQ.ret1 (v:=(.int _ _)) (Bs:=[]) [] rfl rfl rfl trivial ?_
 first | exact ⟨iE (by unfold Lay.of Lay.free at *; rw [if_pos (by omega)]),rfl⟩ | exact ⟨iE (by unfold Lay.of Lay.free at *; rw [if_neg (by omega)]),rfl⟩
 refine xnf rfl (dT rfl (xai rfl (dRR ?_)))
 refine FQ.ret1 (v:=(.int _ _)) (Bs:=[]) [] rfl rfl rfl trivial ?_
 first | exact ⟨iE (by unfold Lay.of Lay.free at *; rw [if_pos (by omega)]),rfl⟩ | exact ⟨iE (by unfold Lay.of Lay.free at *; rw [if_neg (by omega)]),rfl⟩
theorem zm6 {l:Lay} (hl:l.Ok) {s:Int}:FnD Tryz.prog 129 [layV l,.int .i64 s] [] (.int .i64 (l.ends s)) []:=by
 have hb:=zbz hl
 refine Fn.enter (Tryz.func129) rfl rfl (fun w0 R=>?_)
 refine sA (xB 0 rfl (fun bk0=>(xai rfl (dA (xL3 0 zaj rfl rfl (xmi rfl (TL.callD [] [] (znZ hl (by omega)) ⟨rfl,rfl,rfl,trivial⟩ trivial zic rfl rfl rfl rfl rfl trivial (xai rfl (dR ?_)))))))))
 refine FQ.ret1 (v:=(.int _ _)) (Bs:=[]) [] rfl rfl rfl trivial ?_
 exact ⟨rfl,rfl⟩
theorem zhU {l:Lay} (hl:l.Ok) {s:Int}:FnD Tryz.prog 83 [layV l,.int .i64 s] [] (.int .i64 (l.level s)) []:=by
 have hb:=zbz hl
 refine Fn.enter (Tryz.func83) rfl rfl (fun w0 R=>?_)
 refine sA (xB 0 rfl (fun bk0=>(xai rfl (dA (xL3 0 zaj rfl rfl (xmi rfl (TL.callD [] [] (znZ hl (by omega)) ⟨rfl,rfl,rfl,trivial⟩ trivial zic rfl rfl rfl rfl rfl trivial (xai rfl (dR ?_)))))))))
 refine FQ.ret1 (v:=(.int _ _)) (Bs:=[]) [] rfl rfl rfl trivial ?_
 exact ⟨rfl,rfl⟩
theorem zpA {l:Lay} (hl:l.Ok) {s d:Int}:FnD Tryz.prog 157 [layV l,.int .i64 s,.int .i64 d] [] (.int .i64 (l.next s d)) []:=by
 have hb:=zbz hl
 refine Fn.enter (Tryz.func157) rfl rfl (fun w0 R=>?_)
 refine sA (xB 0 rfl (fun bk0=>(xai rfl (dB (xmi rfl (TL.callD [] [] zbt ⟨rfl,rfl,trivial⟩ trivial zc4 rfl rfl rfl rfl rfl trivial (TL.casesP rfl (fun q1=>?_) (fun q1=>?_))))))))
 refine xnt rfl (dF rfl (xL3 0 zaj rfl rfl (xmi rfl (xmi rfl (TL.add _ rfl rfl (wr64 (by omega)) rfl rfl (TL.callD [] [] (znZ hl (by omega)) ⟨rfl,rfl,rfl,trivial⟩ trivial zic rfl rfl rfl rfl rfl trivial (xai rfl (dR ?_))))))))
 refine FQ.ret1 (v:=(.int _ _)) (Bs:=[]) [] rfl rfl rfl trivial ?_
 first | exact ⟨iE (by unfold Lay.next; rw [if_pos (by omega)]),rfl⟩ | exact ⟨iE (by unfold Lay.next; rw [if_neg (by omega)]),rfl⟩
 refine xnf rfl (dT rfl (xai rfl (dRR ?_)))
 refine FQ.ret1 (v:=(.int _ _)) (Bs:=[]) [] rfl rfl rfl trivial ?_
 first | exact ⟨iE (by unfold Lay.next; rw [if_pos (by omega)]),rfl⟩ | exact ⟨iE (by unfold Lay.next; rw [if_neg (by omega)]),rfl⟩
theorem zps {l:Lay} (hl:l.Ok) {s d:Int}:FnD Tryz.prog 156 [layV l,.int .i64 s,.int .i64 d] [] (.int .i64 (l.prev s d)) []:=by
 have hb:=zbz hl
 refine Fn.enter (Tryz.func156) rfl rfl (fun w0 R=>?_)
 refine sA (xB 0 rfl (fun bk0=>(xai rfl (dB (xmi rfl (TL.callD [] [] zbt ⟨rfl,rfl,trivial⟩ trivial zc4 rfl rfl rfl rfl rfl trivial (TL.casesP rfl (fun q1=>?_) (fun q1=>?_))))))))
 refine xnt rfl (dF rfl (xL3 0 zaj rfl rfl (xmi rfl (xmi rfl (TL.add _ rfl rfl (wr64 (by omega)) rfl rfl (TL.callD [] [] (znZ hl (by omega)) ⟨rfl,rfl,rfl,trivial⟩ trivial zic rfl rfl rfl rfl rfl trivial (xai rfl (dR ?_))))))))
 refine FQ.ret1 (v:=(.int _ _)) (Bs:=[]) [] rfl rfl rfl trivial ?_
 first | exact ⟨iE (by unfold Lay.prev; rw [if_pos (by omega)]),rfl⟩ | exact ⟨iE (by unfold Lay.prev; rw [if_neg (by omega)]),rfl⟩
 refine xnf rfl (dT rfl (xai rfl (dRR ?_)))
 refine FQ.ret1 (v:=(.int _ _)) (Bs:=[]) [] rfl rfl rfl trivial ?_
 first | exact ⟨iE (by unfold Lay.prev; rw [if_pos (by omega)]),rfl⟩ | exact ⟨iE (by unfold Lay.prev; rw [if_neg (by omega)]),rfl⟩
theorem zkm {l:Lay} (hl:l.Ok)  : FnD Tryz.prog 141 [layV l] [] (.int .i64 l.heads) []:=by
 have hb:=zbz hl
 refine Fn.enter (Tryz.func141) rfl rfl (fun w0 R=>?_)
 refine sA (xB 0 rfl (fun bk0=>(xai rfl (dS (TC.draw [(0,true),(3,true),(4,true),(5,true),(1,false),(2,true),(6,true),(7,true)] [0] fc_m (by kernel_rfl) (xL3 0 zaj rfl rfl (xf 1 zb7 rfl (xli 0 zaa rfl rfl (TL.mul _ rfl rfl (wr64 (by omega)) rfl rfl ?_)))))))))
 refine TL.callD [] [] (zmw hl) ⟨rfl,trivial⟩ trivial zmR rfl rfl rfl rfl rfl (kL1 rfl trivial) (TL.add _ rfl rfl (wr64 (by omega)) rfl rfl (TL.add _ rfl rfl (wr64 (by omega)) rfl rfl (xai rfl (dR ?_))))
 refine FQ.ret1 (v:=(.int _ _)) (Bs:=[]) [] rfl rfl rfl trivial ?_
 exact ⟨rfl,rfl⟩
theorem zhW {l:Lay} (hl:l.Ok) {v i:Int}:FnD Tryz.prog 106 [layV l,.int .i64 v,.int .i64 i] [] (.int .i64 (l.head v i)) []:=by
 have hb:=zbz hl
 refine Fn.enter (Tryz.func106) rfl rfl (fun w0 R=>?_)
 refine sA (xB 0 rfl (fun bk0=>(xai rfl (dB (xmi rfl (xf 0 zap rfl (xli 0 zaa rfl rfl (TL.callD [] [] zbt ⟨rfl,rfl,trivial⟩ trivial zc4 rfl rfl rfl rfl rfl trivial (TL.casesP rfl (fun q1=>?_) (fun q1=>?_))))))))))
 refine xnt rfl (xmf rfl (xmi rfl (xL3 0 zaj rfl rfl (TL.callD [] [] (zbT hl) ⟨rfl,trivial⟩ trivial zeC rfl rfl rfl rfl rfl trivial (TL.callD [] [] zbt ⟨rfl,rfl,trivial⟩ trivial zc4 rfl rfl rfl rfl rfl trivial (TL.casesP rfl (fun q2=>?_) (fun q2=>?_)))))))
 refine xnt rfl (xpF rfl (TL.done (TQ.then (TC.condF rfl (TC.skip (TQ.then (TC.seq (TC.draw [(0,true),(2,true),(3,true),(7,true),(1,false),(4,false),(5,true),(6,true),(8,true),(9,true)] [0] fc_m (by kernel_rfl) ?_))))))))
 refine xL3 0 zaj rfl rfl (xmi rfl (xL3 0 zaj rfl rfl (xmi rfl (TL.callD [] [] (zkm hl) ⟨rfl,trivial⟩ trivial zmT rfl rfl rfl rfl rfl (kL1 rfl trivial) (TL.callD [] [] (zbT hl) ⟨rfl,trivial⟩ trivial zeC rfl rfl rfl rfl rfl (kL1 rfl trivial) (TL.mul _ rfl rfl (wr64 (by have:=zcX (a:=v) (A:=16) (b:=l.lev) (B:=5) (by omega) (by omega) (by omega) (by omega); omega)) rfl rfl (TL.add _ rfl rfl (wr64 (by have:=zcX (a:=v) (A:=16) (b:=l.lev) (B:=5) (by omega) (by omega) (by omega) (by omega); omega)) rfl rfl (TL.add _ rfl rfl (wr64 (by have:=zcX (a:=v) (A:=16) (b:=l.lev) (B:=5) (by omega) (by omega) (by omega) (by omega); omega)) rfl rfl ?_))))))))
 refine xai rfl (dR ?_)
 refine FQ.ret1 (v:=(.int _ _)) (Bs:=[]) [] rfl rfl rfl trivial ?_
 first | exact ⟨iE (by unfold Lay.head; rw [if_pos (by omega)]),rfl⟩ | exact ⟨iE (by unfold Lay.head; rw [if_neg (by omega)]),rfl⟩
 refine xnf rfl (xpH rfl (dT rfl (xai rfl (dRR ?_))))
 refine FQ.ret1 (v:=(.int _ _)) (Bs:=[]) [] rfl rfl rfl trivial ?_
 first | exact ⟨iE (by unfold Lay.head; rw [if_pos (by omega)]),rfl⟩ | exact ⟨iE (by unfold Lay.head; rw [if_neg (by omega)]),rfl⟩
 refine xnf rfl (xmt rfl (xo rfl (xo rfl (xo rfl (xo rfl (xo rfl (xpT rfl (dT rfl ?_))))))))
 refine xai rfl (dRR ?_)
 refine FQ.ret1 (v:=(.int _ _)) (Bs:=[]) [] rfl rfl rfl trivial ?_
 first | exact ⟨iE (by unfold Lay.head; rw [if_pos (by omega)]),rfl⟩ | exact ⟨iE (by unfold Lay.head; rw [if_neg (by omega)]),rfl⟩
theorem zkI {l:Lay} (hl:l.Ok)  : FnD Tryz.prog 131 [layV l] [] (.int .i64 l.edges) []:=by
 have hb:=zbz hl
 refine Fn.enter (Tryz.func131) rfl rfl (fun w0 R=>?_)
 refine sA (xB 0 rfl (fun bk0=>(xai rfl (dS (TC.draw [(0,true),(2,true),(3,true),(4,true),(1,false),(5,false),(6,true),(7,true),(8,true)] [0] fc_m (by kernel_rfl) (xL3 0 zaj rfl rfl (xf 0 zap rfl (xli 0 zaa rfl rfl (xL3 0 zaj rfl rfl ?_)))))))))
 refine TL.callD [] [] (zkm hl) ⟨rfl,trivial⟩ trivial zmT rfl rfl rfl rfl rfl (kL1 rfl trivial) (TL.callD [] [] (zbT hl) ⟨rfl,trivial⟩ trivial zeC rfl rfl rfl rfl rfl (kL1 rfl trivial) (TL.mul _ rfl rfl (wr64 (by omega)) rfl rfl (TL.add _ rfl rfl (wr64 (by omega)) rfl rfl (xai rfl (dR ?_)))))
 refine FQ.ret1 (v:=(.int _ _)) (Bs:=[]) [] rfl rfl rfl trivial ?_
 exact ⟨rfl,rfl⟩
theorem zil {l:Lay} (hl:l.Ok) {a b:Int}:FnD Tryz.prog 101 [layV l,.int .i64 a,.int .i64 b] [] (.int .i64 (l.edge a b)) []:=by
 have hb:=zbz hl
 refine Fn.enter (Tryz.func101) rfl rfl (fun w0 R=>?_)
 refine sA (xB 0 rfl (fun bk0=>(xai rfl (dA (xmi rfl (xmi rfl (TL.min2 rfl rfl rfl rfl (xmi rfl (xmi rfl ?_)))))))))
 refine TL.max2 rfl rfl rfl rfl (xai rfl (xai rfl (dB (xmi rfl (xmi rfl (TL.eql rfl rfl rfl rfl (fun q1=>?_) (fun q1=>?_)))))))
 refine xmt rfl (xo rfl (xo rfl (xo rfl (xo rfl (xo rfl (xpT rfl (xmt rfl (xo rfl ?_))))))))
 refine xo rfl (xo rfl (xo rfl (xo rfl (xpT rfl (dT rfl (xai rfl (dRR ?_)))))))
 refine FQ.ret1 (v:=(.int _ _)) (Bs:=[]) [] rfl rfl rfl trivial ?_
 first | exact ⟨iE (by unfold Lay.edge; rw [if_neg (by omega)]),rfl⟩ | exact ⟨iE (by unfold Lay.edge; rw [if_pos (by omega)]),rfl⟩
 refine xmf rfl (xmi rfl (xf 0 zap rfl (xli 0 zaa rfl rfl (TL.callD [] [] zbt ⟨rfl,rfl,trivial⟩ trivial zc4 rfl rfl rfl rfl rfl trivial (TL.casesP rfl (fun q2=>?_) (fun q2=>?_))))))
 refine xnt rfl (xpF rfl (xmf rfl (xmi rfl (xf 0 zap rfl (xli 0 zaa rfl rfl (TL.callD [] [] zbt ⟨rfl,rfl,trivial⟩ trivial zc4 rfl rfl rfl rfl rfl trivial (TL.casesP rfl (fun q3=>?_) (fun q3=>?_))))))))
 refine xnt rfl (xpF rfl (TL.done (TQ.then (TC.condF rfl (TC.skip (TQ.then (TC.seq (TC.draw [(0,true),(2,true),(3,true),(4,true),(5,true),(6,true),(7,true),(8,true),(9,true),(10,true),(12,true),(14,true),(1,false),(11,true),(13,true),(15,true),(16,true),(17,true)] [0] fc_m (by kernel_rfl) ?_))))))))
 refine xL3 0 zaj rfl rfl (xmi rfl (xf 0 zap rfl (xli 0 zaa rfl rfl (TL.mul _ rfl rfl (wr64 (by omega)) rfl rfl (xmi rfl (TL.sub _ rfl rfl (wr64 (by omega)) rfl rfl (TL.sub _ rfl rfl (wr64 (by omega)) rfl rfl (TL.mul _ rfl rfl (wr64 (by have h9:=zeU (x:=min a b) (V:=(l.V:Int)) (by omega) (by omega) (by omega); omega)) rfl rfl ?_))))))))
 refine TL.quo _ rfl rfl (by omega) (zlQ (by have h9:=zeU (x:=min a b) (V:=(l.V:Int)) (by omega) (by omega) (by omega); omega) (by omega) (by have h9:=zeU (x:=min a b) (V:=(l.V:Int)) (by omega) (by omega) (by omega); omega)) rfl rfl (xmi rfl (xmi rfl (TL.callD [] [] (zkI hl) ⟨rfl,trivial⟩ trivial zmX rfl rfl rfl rfl rfl (kL1 rfl trivial) (TL.add _ rfl rfl (wr64 (by have h9:=zeU (x:=min a b) (V:=(l.V:Int)) (by omega) (by omega) (by omega); omega)) rfl rfl (TL.add _ rfl rfl (wr64 (by have h9:=zeU (x:=min a b) (V:=(l.V:Int)) (by omega) (by omega) (by omega); omega)) rfl rfl ?_)))))
 refine TL.sub _ rfl rfl (wr64 (by have h9:=zeU (x:=min a b) (V:=(l.V:Int)) (by omega) (by omega) (by omega); omega)) rfl rfl (TL.sub _ rfl rfl (wr64 (by have h9:=zeU (x:=min a b) (V:=(l.V:Int)) (by omega) (by omega) (by omega); omega)) rfl rfl (xai rfl (dR ?_)))
 refine FQ.ret1 (v:=(.int _ _)) (Bs:=[]) [] rfl rfl rfl trivial ?_
 first | exact ⟨iE (by unfold Lay.edge; rw [if_neg (by omega)]),rfl⟩ | exact ⟨iE (by unfold Lay.edge; rw [if_pos (by omega)]),rfl⟩
 refine xnf rfl (xpH rfl (dT rfl (xai rfl (dRR ?_))))
 refine FQ.ret1 (v:=(.int _ _)) (Bs:=[]) [] rfl rfl rfl trivial ?_
 first | exact ⟨iE (by unfold Lay.edge; rw [if_neg (by omega)]),rfl⟩ | exact ⟨iE (by unfold Lay.edge; rw [if_pos (by omega)]),rfl⟩
 refine xnf rfl (xpH rfl (xmt rfl (xo rfl (xo rfl (xo rfl (xo rfl (xo rfl (xpT rfl ?_))))))))
 refine dT rfl (xai rfl (dRR ?_))
 refine FQ.ret1 (v:=(.int _ _)) (Bs:=[]) [] rfl rfl rfl trivial ?_
 first | exact ⟨iE (by unfold Lay.edge; rw [if_neg (by omega)]),rfl⟩ | exact ⟨iE (by unfold Lay.edge; rw [if_pos (by omega)]),rfl⟩
theorem znq {l:Lay} (hl:l.Ok)  : FnD Tryz.prog 92 [layV l] [] (.int .i64 l.base) []:=by
 have hb:=zbz hl
 refine Fn.enter (Tryz.func92) rfl rfl (fun w0 R=>?_)
 refine sA (xB 0 rfl (fun bk0=>(xai rfl (dS (TC.draw [(0,true),(2,true),(3,true),(4,true),(5,true),(6,true),(7,true),(8,true),(1,false),(9,true),(10,true)] [0] fc_m (by kernel_rfl) (xL3 0 zaj rfl rfl (xf 0 zap rfl (xli 0 zaa rfl rfl (xf 0 zap rfl ?_)))))))))
 refine xli 0 zaa rfl rfl (TL.sub _ rfl rfl (wr64 (by omega)) rfl rfl (TL.mul _ rfl rfl (wr64 (by omega)) rfl rfl (TL.quo _ rfl rfl (by omega) (zlQ (by omega) (by omega) (by omega)) rfl rfl (TL.callD [] [] (zkI hl) ⟨rfl,trivial⟩ trivial zmX rfl rfl rfl rfl rfl (kL1 rfl trivial) (TL.add _ rfl rfl (wr64 (by omega)) rfl rfl (xai rfl (dR ?_)))))))
 refine FQ.ret1 (v:=(.int _ _)) (Bs:=[]) [] rfl rfl rfl trivial ?_
 exact ⟨rfl,rfl⟩
theorem zch {l:Lay} (hl:l.Ok) {x f:Int}:FnD Tryz.prog 55 [layV l,.int .i64 x,.int .i64 f] [] (.int .i64 (l.field x f)) []:=by
 have hb:=zbz hl
 refine Fn.enter (Tryz.func55) rfl rfl (fun w0 R=>?_)
 refine sA (xB 0 rfl (fun bk0=>(xai rfl (dB (xmi rfl (TL.sub _ rfl rfl (rfl) rfl rfl (xL3 0 zaj rfl rfl (TL.callD [] [] (ze9 hl) ⟨rfl,trivial⟩ trivial ziZ rfl rfl rfl rfl rfl trivial (TL.callD [] [] zbt ⟨rfl,rfl,trivial⟩ trivial zc4 rfl rfl rfl rfl rfl trivial ?_)))))))))
 refine TL.casesP rfl (fun q1=>?_) (fun q1=>?_)
 refine xnt rfl (xmf rfl (xmi rfl (TL.callD [] [] zbt ⟨rfl,rfl,trivial⟩ trivial zc4 rfl rfl rfl rfl rfl trivial (TL.casesP rfl (fun q2=>?_) (fun q2=>?_)))))
 refine xnt rfl (xpF rfl (dF rfl (xL3 0 zaj rfl rfl (TL.callD [] [] (znq hl) ⟨rfl,trivial⟩ trivial zoW rfl rfl rfl rfl rfl trivial (xmi rfl (TL.sub _ rfl rfl (rfl) rfl rfl (TL.mul _ rfl rfl (wr64 (by omega)) rfl rfl (TL.add _ rfl rfl (wr64 (by omega)) rfl rfl ?_))))))))
 refine xmi rfl (TL.add _ rfl rfl (wr64 (by omega)) rfl rfl (xai rfl (dR ?_)))
 refine FQ.ret1 (v:=(.int _ _)) (Bs:=[]) [] rfl rfl rfl trivial ?_
 first | exact ⟨iE (by unfold Lay.field; rw [if_pos (by omega)]),rfl⟩ | exact ⟨iE (by unfold Lay.field; rw [if_neg (by omega)]),rfl⟩
 refine xnf rfl (xpH rfl (dT rfl (xai rfl (dRR ?_))))
 refine FQ.ret1 (v:=(.int _ _)) (Bs:=[]) [] rfl rfl rfl trivial ?_
 first | exact ⟨iE (by unfold Lay.field; rw [if_pos (by omega)]),rfl⟩ | exact ⟨iE (by unfold Lay.field; rw [if_neg (by omega)]),rfl⟩
 refine xnf rfl (xmt rfl (xo rfl (xo rfl (xo rfl (xpT rfl (dT rfl (xai rfl (dRR ?_))))))))
 refine FQ.ret1 (v:=(.int _ _)) (Bs:=[]) [] rfl rfl rfl trivial ?_
 first | exact ⟨iE (by unfold Lay.field; rw [if_pos (by omega)]),rfl⟩ | exact ⟨iE (by unfold Lay.field; rw [if_neg (by omega)]),rfl⟩
theorem zkM {l:Lay} (hl:l.Ok)  : FnD Tryz.prog 51 [layV l] [] (.int .i64 l.cells) []:=by
 have hb:=zbz hl
 refine Fn.enter (Tryz.func51) rfl rfl (fun w0 R=>?_)
 refine sA (xB 0 rfl (fun bk0=>(xai rfl (dS (TC.draw [(0,true),(2,true),(1,false),(3,false),(4,true),(5,true),(6,true)] [0] fc_m (by kernel_rfl) (xL3 0 zaj rfl rfl (xL3 0 zaj rfl rfl (TL.callD [] [] (znq hl) ⟨rfl,trivial⟩ trivial zoW rfl rfl rfl rfl rfl (kL1 rfl trivial) (TL.callD [] [] (ze9 hl) ⟨rfl,trivial⟩ trivial ziZ rfl rfl rfl rfl rfl (kL1 rfl trivial) ?_)))))))))
 refine TL.mul _ rfl rfl (wr64 (by omega)) rfl rfl (TL.add _ rfl rfl (wr64 (by omega)) rfl rfl (xai rfl (dR ?_)))
 refine FQ.ret1 (v:=(.int _ _)) (Bs:=[]) [] rfl rfl rfl trivial ?_
 exact ⟨rfl,rfl⟩
theorem zhO {l:Lay} (hl:l.Ok) {x:Int}:FnD Tryz.prog 63 [layV l,.int .i64 x] [] (.tuple #[zqz (l.node x).1,.bool (l.node x).2]) []:=by
 have hb:=zbz hl
 refine Fn.enter (Tryz.func63) rfl rfl (fun w0 R=>?_)
 refine sA (xB 0 rfl (fun bk0=>(TL.alloc 1 (cs:=#[.bool false,.int .i64 0,.int .i64 0,.int .i64 0,.int .i64 0]) zd0 rfl rfl rfl (fun _=>trivial) (fun bk1=>(xaf rfl (dB (xmi rfl (TL.sub _ rfl rfl (rfl) rfl rfl (xL3 0 zaj rfl rfl (TL.callD [] [] (ze9 hl) ⟨rfl,trivial⟩ trivial ziZ rfl rfl rfl rfl rfl trivial ?_))))))))))
 refine TL.callD [] [] zbt ⟨rfl,rfl,trivial⟩ trivial zc4 rfl rfl rfl rfl rfl trivial (TL.casesP rfl (fun q1=>?_) (fun q1=>?_))
 refine xnt rfl (dF rfl (xmi rfl (TL.sub _ rfl rfl (rfl) rfl rfl (xai rfl (dS (TC.draw [(0,true),(2,true),(3,true),(1,false),(4,true),(5,true)] [0] fc_m (by kernel_rfl) (xL3 0 zaj rfl rfl (xf 0 zap rfl ?_))))))))
 refine xli 0 zaa rfl rfl (TL.callD [] [] (zbT hl) ⟨rfl,trivial⟩ trivial zeC rfl rfl rfl rfl rfl (kL1 rfl trivial) (TL.mul _ rfl rfl (wr64 (by omega)) rfl rfl (xai rfl (dB (xmi rfl (xmi rfl (TL.lss rfl rfl rfl rfl (fun q2=>?_) (fun q2=>?_))))))))
 refine TL.done (TQ.then (TC.condT rfl (TC.seq (TC.draw [(0,true),(1,true),(2,true),(3,true),(4,true),(5,true),(6,true),(7,true),(8,true),(9,false),(10,true)] [0] fc_m (by kernel_rfl) (xmi rfl (xf 0 zap rfl (xli 0 zaa rfl rfl (TL.quo _ rfl rfl (by omega) (zlQ (by omega) (by omega) (by omega)) rfl rfl ?_))))))))
 refine xmi rfl (xf 0 zap rfl (xli 0 zaa rfl rfl (TL.rem _ rfl rfl (by omega) (zjk (by omega)) rfl rfl (TL.bld [.bool false,.int .i64 0,.int .i64 0,.int .i64 0,.int .i64 0] [(.int _ _),(.int _ _)] [_,_,_,_,_] zd0 zjE ⟨rfl,rfl,trivial⟩ ⟨rfl,rfl⟩ rfl rfl (TL.stW 1 5 [_,_,_,_,_] rfl rfl rfl rfl rfl rfl zbU rfl rfl (kL1 rfl trivial) (xat rfl (dRR ?_)))))))
 refine FQ.retG (rs:=[.cell 4 114,.tmp 5]) [(.agg _),(.bool true)] (Bs:=[]) [] rfl ⟨⟨_,_,_,_,_,1,rfl,rfl,.inr ⟨5,[_,_,_,_,_],zbU,rfl,rfl⟩⟩,rfl,trivial⟩ rfl rfl trivial ?_
 first | exact ⟨by unfold Lay.node; simp only []; rw [if_neg (by omega)]; rfl,rfl⟩ | exact ⟨by unfold Lay.node; simp only []; rw [if_pos (by omega),if_pos (by omega)]; rfl,rfl⟩ | exact ⟨by unfold Lay.node; simp only []; rw [if_pos (by omega),if_neg (by omega)]; rfl,rfl⟩
 refine dF rfl (xmi rfl (xmi rfl (TL.sub _ rfl rfl (wr64 (by omega)) rfl rfl (xai rfl (dS (TC.draw [(0,true),(1,true),(4,true),(5,true),(9,true),(10,true),(2,false),(3,true),(6,false),(7,true),(8,true),(11,true),(12,false),(13,true)] [0] fc_m (by kernel_rfl) (xmi rfl (xL3 0 zaj rfl rfl ?_))))))))
 refine xmi rfl (xL3 0 zaj rfl rfl (xmi rfl (TL.rem _ rfl rfl (by omega) (zjk (by omega)) rfl rfl (TL.callD [] [] (zir hl) ⟨rfl,trivial⟩ trivial zku rfl rfl rfl rfl rfl (kL1 rfl trivial) (TL.quo _ rfl rfl (by omega) (zlQ (by omega) (by omega) (by omega)) rfl rfl (TL.callD [] [] (zir hl) ⟨rfl,trivial⟩ trivial zku rfl rfl rfl rfl rfl (kL1 rfl trivial) (TL.rem _ rfl rfl (by omega) (zjk (by omega)) rfl rfl (TL.quo _ rfl rfl (by omega) (zlQ (Int.emod_nonneg _ (by omega)) (by omega) (by have:=Int.emod_lt_of_pos (IntKind.i64.wrap (x - 1) - l.lev * l.V) (b:=l.arcs) (by omega); omega)) rfl rfl ?_))))))))
 refine TL.bld [.bool false,.int .i64 0,.int .i64 0,.int .i64 0,.int .i64 0] [(.bool true),(.int _ _),(.int _ _),(.int _ _)] [_,_,_,_,_] zd0 zjE ⟨rfl,rfl,rfl,rfl,trivial⟩ ⟨rfl,rfl⟩ rfl rfl (TL.stW 1 5 [_,_,_,_,_] rfl rfl rfl rfl rfl rfl zbU rfl rfl (kL1 rfl trivial) (xat rfl (dR ?_)))
 refine FQ.retG (rs:=[.cell 4 114,.tmp 5]) [(.agg _),(.bool true)] (Bs:=[]) [] rfl ⟨⟨_,_,_,_,_,1,rfl,rfl,.inr ⟨5,[_,_,_,_,_],zbU,rfl,rfl⟩⟩,rfl,trivial⟩ rfl rfl trivial ?_
 first | exact ⟨by unfold Lay.node; simp only []; rw [if_neg (by omega)]; rfl,rfl⟩ | exact ⟨by unfold Lay.node; simp only []; rw [if_pos (by omega),if_pos (by omega)]; rfl,rfl⟩ | exact ⟨by unfold Lay.node; simp only []; rw [if_pos (by omega),if_neg (by omega)]; rfl,rfl⟩
 refine xnf rfl (dT rfl (TL.bld [.bool false,.int .i64 0,.int .i64 0,.int .i64 0,.int .i64 0] [] [_,_,_,_,_] zd0 zjE trivial ⟨rfl,rfl⟩ rfl rfl (TL.stW 1 5 [_,_,_,_,_] rfl rfl rfl rfl rfl rfl zbU rfl rfl trivial (xaf rfl (dRR ?_)))))
 refine FQ.retG (rs:=[.cell 4 114,.tmp 5]) [(.agg _),(.bool false)] (Bs:=[]) [] rfl ⟨⟨_,_,_,_,_,1,rfl,rfl,.inr ⟨5,[_,_,_,_,_],zbU,rfl,rfl⟩⟩,rfl,trivial⟩ rfl rfl trivial ?_
 first | exact ⟨by unfold Lay.node; simp only []; rw [if_neg (by omega)]; rfl,rfl⟩ | exact ⟨by unfold Lay.node; simp only []; rw [if_pos (by omega),if_pos (by omega)]; rfl,rfl⟩ | exact ⟨by unfold Lay.node; simp only []; rw [if_pos (by omega),if_neg (by omega)]; rfl,rfl⟩
theorem zeY {n m:Int}:FnD Tryz.prog 166 [.int .i64 n,.int .i64 m] [] (.bool (decide (0≤n∧n≤m))) []:=by
 refine Fn.enter (Tryz.func166) rfl rfl (fun w0 R=>?_)
 refine sA (xaf rfl (dA (xmi rfl (TL.geq rfl rfl rfl rfl (fun q1=>?_) (fun q1=>?_)))))
 refine xmt rfl (xmi rfl (xmi rfl (TL.leqV rfl rfl rfl rfl (TL.pickT (.bool _) rfl rfl rfl rfl (xab rfl (dR ?_))))))
 refine FQ.ret1 (v:=(.bool _)) (Bs:=[]) [] rfl rfl rfl trivial ?_
 first | exact ⟨bT (by omega),rfl⟩ | exact ⟨bF (by omega),rfl⟩ | exact ⟨congrArg Value.bool (decide_eq_decide.2 (by omega)),rfl⟩
 refine xmf rfl (xo rfl (xo rfl (xo rfl (xpF rfl (xaf rfl (dR ?_))))))
 refine FQ.ret1 (v:=(.bool false)) (Bs:=[]) [] rfl rfl rfl trivial ?_
 first | exact ⟨bT (by omega),rfl⟩ | exact ⟨bF (by omega),rfl⟩ | exact ⟨congrArg Value.bool (decide_eq_decide.2 (by omega)),rfl⟩
theorem zl3 {o m t g:Int}:FnD Tryz.prog 167 [.agg #[.int .i64 o,.int .i64 m,.int .i64 t,.int .i64 g]] [] (.bool (decide (t=0))) []:=by
 refine Fn.enter (Tryz.func167) rfl rfl (fun w0 R=>?_)
 refine sA (xB 0 rfl (fun bk0=>(xaf rfl (dA (xf 2 zdB rfl (xli 0 zaa rfl rfl (TL.eqlV rfl rfl rfl rfl (xab rfl (dR ?_)))))))))
 refine FQ.ret1 (v:=(.bool _)) (Bs:=[]) [] rfl rfl rfl trivial ?_
 exact ⟨rfl,rfl⟩
theorem ziv {o m t g:Int}:FnD Tryz.prog 165 [.agg #[.int .i64 o,.int .i64 m,.int .i64 t,.int .i64 g]] [] (.bool (⟨o,m,t,g⟩:Wd).right) []:=by
 refine Fn.enter (Tryz.func165) rfl rfl (fun w0 R=>?_)
 refine sA (xB 0 rfl (fun bk0=>(xaf rfl (dB (xf 0 zbI rfl (xli 0 zaa rfl rfl (TL.callD [] [] zeY ⟨rfl,rfl,trivial⟩ trivial zh8 rfl rfl rfl rfl rfl trivial (TL.casesP rfl (fun q1=>?_) (fun q1=>?_)))))))))
 refine xnt rfl (xmf rfl (xf 1 zcv rfl (xli 0 zaa rfl rfl (TL.callD [] [] zeY ⟨rfl,rfl,trivial⟩ trivial zh8 rfl rfl rfl rfl rfl trivial (TL.casesP rfl (fun q2=>?_) (fun q2=>?_))))))
 refine xnt rfl (xpF rfl (xmf rfl (xf 2 zdB rfl (xli 0 zaa rfl rfl (TL.callD [] [] zeY ⟨rfl,rfl,trivial⟩ trivial zh8 rfl rfl rfl rfl rfl trivial (TL.casesP rfl (fun q3=>?_) (fun q3=>?_)))))))
 refine xnt rfl (xpF rfl (xmf rfl (xf 3 zdA rfl (xli 0 zaa rfl rfl (TL.callD [] [] zeY ⟨rfl,rfl,trivial⟩ trivial zh8 rfl rfl rfl rfl rfl trivial (TL.casesP rfl (fun q4=>?_) (fun q4=>?_)))))))
 refine xnt rfl (xpF rfl (dF rfl (xL4 0 zaN rfl rfl (TL.callD [] [] zl3 ⟨rfl,trivial⟩ trivial zpT rfl rfl rfl rfl rfl trivial (TL.casesP rfl (fun q5=>?_) (fun q5=>?_))))))
 refine xnt rfl (xmf rfl (xf 0 zbI rfl (xli 0 zaa rfl rfl (xf 1 zcv rfl (xli 0 zaa rfl rfl (TL.eql rfl rfl rfl rfl (fun q6=>?_) (fun q6=>?_)))))))
 refine xmt rfl (xf 3 zdA rfl (xli 0 zaa rfl rfl (TL.eqlV rfl rfl rfl rfl (TL.pickT (.bool _) rfl rfl rfl rfl (TL.pickF (.bool _) rfl rfl rfl rfl (xab rfl (dR ?_)))))))
 refine FQ.ret1 (v:=(.bool _)) (Bs:=[]) [] rfl rfl rfl trivial ?_
 exact ⟨congrArg Value.bool (by simp [Wd.right, *]),rfl⟩
 refine xmf rfl (xo rfl (xo rfl (xo rfl (xpF rfl (xpF rfl (xaf rfl (dR ?_)))))))
 refine FQ.ret1 (v:=(.bool false)) (Bs:=[]) [] rfl rfl rfl trivial ?_
 exact ⟨congrArg Value.bool (by simp [Wd.right, *]),rfl⟩
 refine xnf rfl (xmt rfl (xo rfl (xo rfl (xo rfl (xo rfl (xo rfl (xo rfl (xo rfl ?_))))))))
 refine xo rfl (xo rfl (xo rfl (xpT rfl (xat rfl (dR ?_)))))
 refine FQ.ret1 (v:=(.bool true)) (Bs:=[]) [] rfl rfl rfl trivial ?_
 exact ⟨congrArg Value.bool (by simp [Wd.right, *]),rfl⟩
 refine xnf rfl (xpH rfl (dT rfl (xaf rfl (dRR ?_))))
 refine FQ.ret1 (v:=(.bool false)) (Bs:=[]) [] rfl rfl rfl trivial ?_
 exact ⟨congrArg Value.bool (by simp [Wd.right, *]),rfl⟩
 refine xnf rfl (xpH rfl (xmt rfl (xo rfl (xo rfl (xo rfl (xo rfl (xpT rfl (dT rfl ?_))))))))
 refine xaf rfl (dRR ?_)
 refine FQ.ret1 (v:=(.bool false)) (Bs:=[]) [] rfl rfl rfl trivial ?_
 exact ⟨congrArg Value.bool (by simp [Wd.right, *]),rfl⟩
 refine xnf rfl (xpH rfl (xmt rfl (xo rfl (xo rfl (xo rfl (xo rfl (xpT rfl (xmt rfl ?_))))))))
 refine xo rfl (xo rfl (xo rfl (xo rfl (xpT rfl (dT rfl (xaf rfl (dRR ?_)))))))
 refine FQ.ret1 (v:=(.bool false)) (Bs:=[]) [] rfl rfl rfl trivial ?_
 exact ⟨congrArg Value.bool (by simp [Wd.right, *]),rfl⟩
 refine xnf rfl (xmt rfl (xo rfl (xo rfl (xo rfl (xo rfl (xpT rfl (xmt rfl (xo rfl ?_))))))))
 refine xo rfl (xo rfl (xo rfl (xpT rfl (xmt rfl (xo rfl (xo rfl (xo rfl (xo rfl ?_))))))))
 refine xpT rfl (dT rfl (xaf rfl (dRR ?_)))
 refine FQ.ret1 (v:=(.bool false)) (Bs:=[]) [] rfl rfl rfl trivial ?_
 exact ⟨congrArg Value.bool (by simp [Wd.right, *]),rfl⟩
theorem zl4 {o m t g:Int}:FnD Tryz.prog 163 [.agg #[.int .i64 o,.int .i64 m,.int .i64 t,.int .i64 g]] [] (.tuple #[.int .u64 (if (⟨o,m,t,g⟩:Wd).right then (⟨o,m,t,g⟩:Wd).pack else 0),.int .i64 (if (⟨o,m,t,g⟩:Wd).right then 0 else 11)]) []:=by
 refine Fn.enter (Tryz.func163) rfl rfl (fun w0 R=>?_)
 refine sA (xB 0 rfl (fun bk0=>(xai rfl (xai rfl (dB (xL4 0 zaN rfl rfl (TL.callD [] [] ziv ⟨rfl,trivial⟩ trivial zmO rfl rfl rfl rfl rfl trivial (TL.cases rfl (fun q1=>?_) (fun q1=>?_)))))))))
 refine xnt rfl (dF rfl (xf 1 zcv rfl (xli 0 zaa rfl rfl (TL.conv _ rfl zdz zaF (rfl) rfl rfl (xf 0 zbI rfl (xli 0 zaa rfl rfl (TL.conv _ rfl zdz zaF (rfl) rfl rfl (TL.shl _ rfl rfl (by decide) rfl rfl rfl ?_))))))))
 refine TL.or _ rfl rfl rfl rfl rfl (xf 2 zdB rfl (xli 0 zaa rfl rfl (TL.conv _ rfl zdz zaF (rfl) rfl rfl (TL.shl _ rfl rfl (by decide) rfl rfl rfl (TL.or _ rfl rfl rfl rfl rfl (xf 3 zdA rfl (xli 0 zaa rfl rfl (TL.conv _ rfl zdz zaF (rfl) rfl rfl ?_))))))))
 refine TL.shl _ rfl rfl (by decide) rfl rfl rfl (TL.or _ rfl rfl rfl rfl rfl (xai rfl (xai rfl (dR ?_))))
 refine FQ.ret2 (v:=(.int _ _)) (x:=(.int _ _)) (Bs:=[]) [] rfl rfl rfl rfl trivial ?_
 exact ⟨by simp only [*,if_true,Bool.false_eq_true,if_false]<;>rfl,rfl⟩
 refine xnf rfl (dT rfl (xai rfl (xai rfl (dRR ?_))))
 refine FQ.ret2 (v:=(.int _ _)) (x:=(.int _ _)) (Bs:=[]) [] rfl rfl rfl rfl trivial ?_
 exact ⟨by simp only [*,if_true,Bool.false_eq_true,if_false]<;>rfl,rfl⟩
theorem zjZ {v a n:Int} (ha:0≤a) (hn:0≤n):FnD Tryz.prog 164 [.int .u64 v,.int .i64 a,.int .i64 n] [] (.int .i64 (zg4 v a n)) []:=by
 refine Fn.enter (Tryz.func164) rfl rfl (fun w0 R=>?_)
 refine sA (xai rfl (dS (TC.draw [(0,true),(1,true),(2,true),(3,true),(4,true),(5,true),(6,true),(7,true),(8,true)] [] fc_m (by kernel_rfl) (xmi rfl (xmi rfl (TL.shr _ rfl rfl (by omega) rfl rfl rfl (xmi rfl (TL.shl _ rfl rfl (by omega) rfl rfl rfl ?_))))))))
 refine TL.sub _ rfl rfl (rfl) rfl rfl (TL.and _ rfl rfl rfl rfl rfl (TL.conv _ rfl zbb zaI (rfl) rfl rfl (xai rfl (dR ?_))))
 refine FQ.ret1 (v:=(.int _ _)) (Bs:=[]) [] rfl rfl rfl trivial ?_
 exact ⟨iE (by unfold zg4 andU shrU shlU; rw [Int.one_mul]),rfl⟩
theorem zeZ {v:Int}:FnD Tryz.prog 162 [.int .u64 v] [] (.tuple #[wdV (zbk v).1,.int .i64 (if (zbk v).2 then 0 else 21)]) []:=by
 refine Fn.enter (Tryz.func162) rfl rfl (fun w0 R=>?_)
 refine sA (TL.alloc 0 (cs:=#[.int .i64 0,.int .i64 0,.int .i64 0,.int .i64 0]) zcG rfl rfl rfl (fun _=>trivial) (fun bk0=>(xai rfl (dA (xmi rfl (TL.callD [] [] (zjZ (by decide) (by decide)) ⟨rfl,rfl,rfl,trivial⟩ trivial zjR rfl rfl rfl rfl rfl trivial (xmi rfl (TL.callD [] [] (zjZ (by decide) (by decide)) ⟨rfl,rfl,rfl,trivial⟩ trivial zjR rfl rfl rfl rfl rfl trivial (xmi rfl ?_)))))))))
 refine TL.callD [] [] (zjZ (by decide) (by decide)) ⟨rfl,rfl,rfl,trivial⟩ trivial zjR rfl rfl rfl rfl rfl trivial (xmi rfl (TL.shr _ rfl rfl (by decide) rfl rfl rfl (TL.conv _ rfl zbb zaI (rfl) rfl rfl (TL.bld [.int .i64 0,.int .i64 0,.int .i64 0,.int .i64 0] [(.int _ _),(.int _ _),(.int _ _),(.int _ _)] [_,_,_,_] zcG zgA ⟨rfl,rfl,rfl,rfl,trivial⟩ ⟨rfl,rfl⟩ rfl rfl (TL.alloc 1 (cs:=#[.int .i64 0,.int .i64 0,.int .i64 0,.int .i64 0]) zcG rfl rfl rfl (fun _=>trivial) (fun bk1=>(TL.stW 1 4 [_,_,_,_] rfl rfl rfl rfl rfl rfl zaN rfl rfl trivial (dB (xL4 1 zaN rfl rfl ?_)))))))))
 refine TL.callD [] [] ziv ⟨rfl,trivial⟩ trivial zmO rfl rfl rfl rfl rfl trivial (TL.cases rfl (fun q1=>?_) (fun q1=>?_))
 refine xnt rfl (dF rfl (xL4 1 zaN rfl rfl (TL.stW 0 4 [_,_,_,_] rfl rfl rfl rfl rfl rfl zaN rfl rfl trivial (xai rfl (dR ?_)))))
 refine FQ.retG (rs:=[.cell 2 184,.tmp 3]) [(.agg _),(.int _ _)] (Bs:=[]) [] rfl ⟨⟨_,_,_,_,_,0,rfl,rfl,.inr ⟨4,[_,_,_,_],zaN,rfl,rfl⟩⟩,rfl,trivial⟩ rfl rfl trivial ?_
 first | exact ⟨(by have q:(zca v).right=true:=‹(zca v).right=true›; simp only [zbk,q,if_true]; rfl),rfl⟩ | exact ⟨(by have q:(zca v).right=false:=‹(zca v).right=false›; simp only [zbk,q,Bool.false_eq_true,if_false]; rfl),rfl⟩
 refine xnf rfl (dT rfl (TL.bld [.int .i64 0,.int .i64 0,.int .i64 0,.int .i64 0] [] [_,_,_,_] zcG zgA trivial ⟨rfl,rfl⟩ rfl rfl (TL.stW 0 4 [_,_,_,_] rfl rfl rfl rfl rfl rfl zaN rfl rfl trivial (xai rfl (dRR ?_)))))
 refine FQ.retG (rs:=[.cell 2 184,.tmp 3]) [(.agg _),(.int _ _)] (Bs:=[]) [] rfl ⟨⟨_,_,_,_,_,0,rfl,rfl,.inr ⟨4,[_,_,_,_],zaN,rfl,rfl⟩⟩,rfl,trivial⟩ rfl rfl trivial ?_
 first | exact ⟨(by have q:(zca v).right=true:=‹(zca v).right=true›; simp only [zbk,q,if_true]; rfl),rfl⟩ | exact ⟨(by have q:(zca v).right=false:=‹(zca v).right=false›; simp only [zbk,q,Bool.false_eq_true,if_false]; rfl),rfl⟩
theorem ziu {p:Pen} {x o m t g:Int} {b1 b2:Nat}:FnD Tryz.prog 155 [.agg #[.int .i64 o,.int .i64 m,.int .i64 t,.int .i64 g],.pointer (some ⟨b1,0,none⟩),.pointer (some ⟨b2,0,none⟩)] [pt b1 (.cells #[.int .i64 p.thread,.int .i64 p.tag] 41),pt b2 (.cells #[.int .i64 x] 3)] (wdV (p.to x (⟨o,m,t,g⟩:Wd))) [pt b1 (.cells #[.int .i64 p.thread,.int .i64 p.tag] 41),pt b2 (.cells #[.int .i64 x] 3)]:=by
 refine Fn.enter (Tryz.func155) rfl rfl (fun w0 R=>?_)
 refine sA (xB 2 rfl (fun bk2=>(TL.alloc 3 (cs:=#[.int .i64 0,.int .i64 0,.int .i64 0,.int .i64 0]) zcG rfl rfl rfl (fun _=>trivial) (fun bk3=>(dB (xf 2 zdB rfl (xli 2 zaa rfl rfl (xf 0 zem rfl (xli 0 zaa rfl rfl (TL.neq rfl rfl rfl rfl (fun q1=>?_) (fun q1=>?_)))))))))))
 refine xmt rfl (xo rfl (xo rfl (xo rfl (xo rfl (xo rfl (xpT rfl (TL.done (TQ.then ?_))))))))
 refine TC.condT rfl (TC.region (xf 1 zcv rfl (xli 2 zaa rfl rfl (xf 0 zbI rfl (TL.st 2 #[_,_,_,_] (.int _ _) rfl rfl rfl rfl rfl rfl zaa rfl rfl trivial (dA (xf 0 zbI rfl (xli 2 zaa rfl rfl ?_))))))))
 refine xli 1 zaa rfl rfl (xf 0 zem rfl (xli 0 zaa rfl rfl (xf 1 zel rfl (xli 0 zaa rfl rfl (TL.bld [.int .i64 0,.int .i64 0,.int .i64 0,.int .i64 0] [(.int _ _),(.int _ _),(.int _ _),(.int _ _)] [_,_,_,_] zcG zgA ⟨rfl,rfl,rfl,rfl,trivial⟩ ⟨rfl,rfl⟩ rfl rfl (TL.stW 3 4 [_,_,_,_] rfl rfl rfl rfl rfl rfl zaN rfl rfl trivial (dR ?_)))))))
 refine FQ.retG (rs:=[.cell 4 184]) [(.agg _)] (Bs:=[pt b1 (.cells #[.int .i64 p.thread,.int .i64 p.tag] 41),pt b2 (.cells #[.int .i64 x] 3)]) [0,1] rfl ⟨⟨_,_,_,_,_,3,rfl,rfl,.inr ⟨4,[_,_,_,_],zaN,rfl,rfl⟩⟩,trivial⟩ rfl rfl ⟨rfl,rfl,trivial⟩ ?_
 first | exact ⟨(by unfold Pen.to; dsimp only; rw [if_pos (by omega)]; rfl),rfl⟩ | exact ⟨(by unfold Pen.to; dsimp only; rw [if_neg (by omega)]; rfl),rfl⟩
 refine xmf rfl (xf 3 zdA rfl (xli 2 zaa rfl rfl (xf 1 zel rfl (xli 0 zaa rfl rfl (TL.neq rfl rfl rfl rfl (fun q2=>?_) (fun q2=>?_))))))
 refine xpH rfl (TL.done (TQ.then (TC.condT rfl (TC.region (xf 1 zcv rfl (xli 2 zaa rfl rfl (xf 0 zbI rfl (TL.st 2 #[_,_,_,_] (.int _ _) rfl rfl rfl rfl rfl rfl zaa rfl rfl trivial ?_))))))))
 refine dA (xf 0 zbI rfl (xli 2 zaa rfl rfl (xli 1 zaa rfl rfl (xf 0 zem rfl (xli 0 zaa rfl rfl (xf 1 zel rfl (xli 0 zaa rfl rfl (TL.bld [.int .i64 0,.int .i64 0,.int .i64 0,.int .i64 0] [(.int _ _),(.int _ _),(.int _ _),(.int _ _)] [_,_,_,_] zcG zgA ⟨rfl,rfl,rfl,rfl,trivial⟩ ⟨rfl,rfl⟩ rfl rfl ?_))))))))
 refine TL.stW 3 4 [_,_,_,_] rfl rfl rfl rfl rfl rfl zaN rfl rfl trivial (dR ?_)
 refine FQ.retG (rs:=[.cell 4 184]) [(.agg _)] (Bs:=[pt b1 (.cells #[.int .i64 p.thread,.int .i64 p.tag] 41),pt b2 (.cells #[.int .i64 x] 3)]) [0,1] rfl ⟨⟨_,_,_,_,_,3,rfl,rfl,.inr ⟨4,[_,_,_,_],zaN,rfl,rfl⟩⟩,trivial⟩ rfl rfl ⟨rfl,rfl,trivial⟩ ?_
 first | exact ⟨(by unfold Pen.to; dsimp only; rw [if_pos (by omega)]; rfl),rfl⟩ | exact ⟨(by unfold Pen.to; dsimp only; rw [if_neg (by omega)]; rfl),rfl⟩
 refine xpF rfl (dF rfl (xf 0 zbI rfl (xli 2 zaa rfl rfl (xli 1 zaa rfl rfl (xf 0 zem rfl (xli 0 zaa rfl rfl (xf 1 zel rfl (xli 0 zaa rfl rfl ?_))))))))
 refine TL.bld [.int .i64 0,.int .i64 0,.int .i64 0,.int .i64 0] [(.int _ _),(.int _ _),(.int _ _),(.int _ _)] [_,_,_,_] zcG zgA ⟨rfl,rfl,rfl,rfl,trivial⟩ ⟨rfl,rfl⟩ rfl rfl (TL.stW 3 4 [_,_,_,_] rfl rfl rfl rfl rfl rfl zaN rfl rfl trivial (dR ?_))
 refine FQ.retG (rs:=[.cell 4 184]) [(.agg _)] (Bs:=[pt b1 (.cells #[.int .i64 p.thread,.int .i64 p.tag] 41),pt b2 (.cells #[.int .i64 x] 3)]) [0,1] rfl ⟨⟨_,_,_,_,_,3,rfl,rfl,.inr ⟨4,[_,_,_,_],zaN,rfl,rfl⟩⟩,trivial⟩ rfl rfl ⟨rfl,rfl,trivial⟩ ?_
 first | exact ⟨(by unfold Pen.to; dsimp only; rw [if_pos (by omega)]; rfl),rfl⟩ | exact ⟨(by unfold Pen.to; dsimp only; rw [if_neg (by omega)]; rfl),rfl⟩
theorem zne {S:Type} [MemLike S] {mt:TypeId} {mv:Value} {A:S→Assn} (hM:MemI Tryz.prog mt mv A) {σ:S} {p:Pen} {c x:Int} {b1 b2:Nat} (h:(zbk (MemLike.get σ c)).2=false):FnD Tryz.prog 154 [.iface mt mv,.int .i64 c,.func (.func 155) #[] #[.pointer (some ⟨b1,0,none⟩),.pointer (some ⟨b2,0,none⟩)]] [A σ,pt b1 (.cells #[.int .i64 p.thread,.int .i64 p.tag] 41),pt b2 (.cells #[.int .i64 x] 3)] (.tuple #[]) [A (MemLike.ld σ c),pt b1 (.cells #[.int .i64 p.thread,.int .i64 p.tag] 41),pt b2 (.cells #[.int .i64 x] 3)]:=by
 refine Fn.enter (Tryz.func154) rfl rfl (fun w0 R=>?_)
 refine sA (xmc rfl (xmi rfl (TL.mload 0 hM rfl rfl rfl rfl rfl trivial (TL.callD [] [] zeZ ⟨rfl,trivial⟩ trivial zh9 rfl rfl rfl rfl rfl trivial (xmu rfl (TL.ext (.agg _) rfl rfl rfl rfl (xei rfl rfl (TL.alloc 3 (cs:=#[.int .i64 0,.int .i64 0,.int .i64 0,.int .i64 0]) zcG rfl rfl rfl (fun _=>trivial) (fun bk3=>?_)))))))))
 refine TL.stW 3 4 [_,_,_,_] rfl rfl rfl rfl rfl rfl zaN rfl rfl trivial (xai rfl (dB (xmi rfl (TL.neqT rfl rfl (by rw [h]; decide) rfl rfl (TL.done (TQ.then (TC.condT rfl (TC.ret ?_))))))))
 refine TQ.thenRet ?_
 refine FQ.ret0 (Bs:=[A (MemLike.ld σ c),pt b1 (.cells #[.int .i64 p.thread,.int .i64 p.tag] 41),pt b2 (.cells #[.int .i64 x] 3)]) [0,1,2] rfl rfl ⟨rfl,rfl,rfl,trivial⟩ ?_
 exact ⟨rfl,rfl⟩
theorem znd {S:Type} [MemLike S] {mt:TypeId} {mv:Value} {A:S→Assn} (hM:MemI Tryz.prog mt mv A) {σ:S} {p:Pen} {c x:Int} {b1 b2:Nat} (h:(zbk (MemLike.get σ c)).2=true) (h2:(p.to x (zbk (MemLike.get σ c)).1).right=false):FnD Tryz.prog 154 [.iface mt mv,.int .i64 c,.func (.func 155) #[] #[.pointer (some ⟨b1,0,none⟩),.pointer (some ⟨b2,0,none⟩)]] [A σ,pt b1 (.cells #[.int .i64 p.thread,.int .i64 p.tag] 41),pt b2 (.cells #[.int .i64 x] 3)] (.tuple #[]) [A (MemLike.ld σ c),pt b1 (.cells #[.int .i64 p.thread,.int .i64 p.tag] 41),pt b2 (.cells #[.int .i64 x] 3)]:=by
 refine Fn.enter (Tryz.func154) rfl rfl (fun w0 R=>?_)
 refine sA (xmc rfl (xmi rfl (TL.mload 0 hM rfl rfl rfl rfl rfl trivial (TL.callD [] [] zeZ ⟨rfl,trivial⟩ trivial zh9 rfl rfl rfl rfl rfl trivial (xmu rfl (TL.ext (.agg _) rfl rfl rfl rfl (xei rfl rfl (TL.alloc 3 (cs:=#[.int .i64 0,.int .i64 0,.int .i64 0,.int .i64 0]) zcG rfl rfl rfl (fun _=>trivial) (fun bk3=>?_)))))))))
 refine TL.stW 3 4 [_,_,_,_] rfl rfl rfl rfl rfl rfl zaN rfl rfl trivial (xai rfl (dB (xmi rfl (TL.neqF rfl rfl (by rw [h]; decide) rfl rfl (dF rfl (TL.mv (.func _ _ _) rfl rfl rfl (xL4 3 zaN rfl rfl (TL.callC (c1:=[]) (c2:=[_,_]) (vs:=[_]) [1,2] [1,2] rfl ziu ⟨rfl,trivial⟩ ⟨rfl,rfl,trivial⟩ zmQ rfl rfl rfl rfl rfl trivial ?_))))))))
 refine TL.callD [] [] zl4 ⟨rfl,trivial⟩ trivial zmP rfl rfl rfl rfl rfl trivial (xmu rfl (xei rfl rfl (xei rfl rfl (xai rfl (xai rfl (dA (xmi rfl (TL.eqlF rfl rfl (by rw [h2]; decide) rfl rfl ?_))))))))
 refine TL.done (TQ.then (TC.condF rfl (TC.skip ?_)))
 refine FQ.end0 (Bs:=[A (MemLike.ld σ c),pt b1 (.cells #[.int .i64 p.thread,.int .i64 p.tag] 41),pt b2 (.cells #[.int .i64 x] 3)]) [0,1,2] rfl rfl ⟨rfl,rfl,rfl,trivial⟩ ?_
 exact ⟨rfl,rfl⟩
theorem znc {S:Type} [MemLike S] {mt:TypeId} {mv:Value} {A:S→Assn} (hM:MemI Tryz.prog mt mv A) {σ:S} {p:Pen} {c x:Int} {b1 b2:Nat} (h:(zbk (MemLike.get σ c)).2=true) (h2:(p.to x (zbk (MemLike.get σ c)).1).right=true):FnD Tryz.prog 154 [.iface mt mv,.int .i64 c,.func (.func 155) #[] #[.pointer (some ⟨b1,0,none⟩),.pointer (some ⟨b2,0,none⟩)]] [A σ,pt b1 (.cells #[.int .i64 p.thread,.int .i64 p.tag] 41),pt b2 (.cells #[.int .i64 x] 3)] (.tuple #[]) [A (MemLike.st (MemLike.ld σ c) c (p.to x (zbk (MemLike.get σ c)).1).pack),pt b1 (.cells #[.int .i64 p.thread,.int .i64 p.tag] 41),pt b2 (.cells #[.int .i64 x] 3)]:=by
 refine Fn.enter (Tryz.func154) rfl rfl (fun w0 R=>?_)
 refine sA (xmc rfl (xmi rfl (TL.mload 0 hM rfl rfl rfl rfl rfl trivial (TL.callD [] [] zeZ ⟨rfl,trivial⟩ trivial zh9 rfl rfl rfl rfl rfl trivial (xmu rfl (TL.ext (.agg _) rfl rfl rfl rfl (xei rfl rfl (TL.alloc 3 (cs:=#[.int .i64 0,.int .i64 0,.int .i64 0,.int .i64 0]) zcG rfl rfl rfl (fun _=>trivial) (fun bk3=>?_)))))))))
 refine TL.stW 3 4 [_,_,_,_] rfl rfl rfl rfl rfl rfl zaN rfl rfl trivial (xai rfl (dB (xmi rfl (TL.neqF rfl rfl (by rw [h]; decide) rfl rfl (dF rfl (TL.mv (.func _ _ _) rfl rfl rfl (xL4 3 zaN rfl rfl (TL.callC (c1:=[]) (c2:=[_,_]) (vs:=[_]) [1,2] [1,2] rfl ziu ⟨rfl,trivial⟩ ⟨rfl,rfl,trivial⟩ zmQ rfl rfl rfl rfl rfl trivial ?_))))))))
 refine TL.callD [] [] zl4 ⟨rfl,trivial⟩ trivial zmP rfl rfl rfl rfl rfl trivial (xmu rfl (xei rfl rfl (xei rfl rfl (xai rfl (xai rfl (dA (xmi rfl (TL.eqlT rfl rfl (by rw [h2]; decide) rfl rfl ?_))))))))
 refine TL.done (TQ.then (TC.condT rfl (TC.region (xmc rfl (xmi rfl (xmi rfl (TL.mstore 0 hM rfl rfl rfl (by rw [h2]; exact zcV _ _) rfl rfl rfl trivial (TL.done ?_))))))))
 refine FQ.end0 (Bs:=[A _,pt b1 (.cells #[.int .i64 p.thread,.int .i64 p.tag] 41),pt b2 (.cells #[.int .i64 x] 3)]) [0,1,2] rfl rfl ⟨rfl,rfl,rfl,trivial⟩ ?_
 exact ⟨rfl,by rw [h2]; rfl⟩
theorem znf {S:Type} [MemLike S] {mt:TypeId} {mv:Value} {A:S→Assn} (hM:MemI Tryz.prog mt mv A) {σ:S} {p:Pen} {c x:Int} {b1 b2:Nat}:FnD Tryz.prog 154 [.iface mt mv,.int .i64 c,.func (.func 155) #[] #[.pointer (some ⟨b1,0,none⟩),.pointer (some ⟨b2,0,none⟩)]] [A σ,pt b1 (.cells #[.int .i64 p.thread,.int .i64 p.tag] 41),pt b2 (.cells #[.int .i64 x] 3)] (.tuple #[]) [A (p.write σ c x),pt b1 (.cells #[.int .i64 p.thread,.int .i64 p.tag] 41),pt b2 (.cells #[.int .i64 x] 3)]:=by
 unfold Pen.write
 cases h:(zbk (MemLike.get σ c)).2
 ·exact zne hM h
 ·rw [if_pos rfl]
  cases h2:(p.to x (zbk (MemLike.get σ c)).1).right
  ·exact znd hM h h2
  ·exact znc hM h h2
theorem znA {S:Type} [MemLike S] {mt:TypeId} {mv:Value} {A:S→Assn} (hM:MemI Tryz.prog mt mv A) {σ:S} {p:Pen} {c x:Int}:FnD Tryz.prog 133 [.agg #[.int .i64 p.thread,.int .i64 p.tag],.iface mt mv,.int .i64 c,.int .i64 x] [A σ] (.tuple #[]) [A (p.write σ c x)]:=by
 refine Fn.enter (Tryz.func133) rfl rfl (fun w0 R=>?_)
 refine sA (xB 1 rfl (fun bk1=>(TL.box1 2 (.int _ _) rfl rfl rfl rfl (fun _=>trivial) (fun bk2=>(dG (xmc rfl (xmi rfl (TL.mf (xs:=[]) (ys:=[_,_]) [] [_,_] trivial ⟨rfl,rfl,trivial⟩ rfl rfl (TL.callD [0,1,2] [0,1,2] (znf hM) ⟨rfl,rfl,rfl,trivial⟩ ⟨rfl,rfl,rfl,trivial⟩ zpZ rfl rfl rfl rfl rfl trivial (TL.done ?_))))))))))
 refine FQ.end0 (Bs:=[A (p.write σ c x)]) [0] rfl rfl ⟨rfl,trivial⟩ ?_
 exact ⟨rfl,rfl⟩
theorem zqI {S:Type} [MemLike S] {mt:TypeId} {mv:Value} {A:S→Assn} (hM:MemI Tryz.prog mt mv A) {σ:S} {c:Int}:FnD Tryz.prog 152 [.iface mt mv,.int .i64 c] [A σ] (.int .i64 (pnew σ c)) [A (MemLike.ld σ c)]:=by
 refine Fn.enter (Tryz.func152) rfl rfl (fun w0 R=>?_)
 refine sA (xai rfl (dA (xmc rfl (xmi rfl (TL.mload 0 hM rfl rfl rfl rfl rfl trivial (TL.callD [] [] zeZ ⟨rfl,trivial⟩ trivial zh9 rfl rfl rfl rfl rfl trivial (xmu rfl (TL.ext (.agg _) rfl rfl rfl rfl ?_))))))))
 refine xei rfl rfl (TL.alloc 1 (cs:=#[.int .i64 0,.int .i64 0,.int .i64 0,.int .i64 0]) zcG rfl rfl rfl (fun _=>trivial) (fun bk1=>(TL.stW 1 4 [_,_,_,_] rfl rfl rfl rfl rfl rfl zaN rfl rfl trivial (xai rfl (dA (xf 1 zcv rfl (xli 1 zaa rfl rfl (xai rfl (dR ?_)))))))))
 refine FQ.ret1 (v:=(.int _ _)) (Bs:=[A (MemLike.ld σ c)]) [0] rfl rfl rfl ⟨rfl,trivial⟩ ?_
 exact ⟨rfl,rfl⟩
theorem zcU {S:Type} [MemLike S] {mt:TypeId} {mv:Value} {A:S→Assn} (hM:MemI Tryz.prog mt mv A) {l:Lay} (hl:l.Ok) {p:Pen} {σ:S} {x f:Int}:FnD Tryz.prog 139 [za8 l mt mv p,.int .i64 x,.int .i64 f] [A σ] (.int .i64 (tget l σ x f)) [A (zfY l σ x f)]:=by
 refine Fn.enter (Tryz.func139) rfl rfl (fun w0 R=>?_)
 refine sA (xB 1 rfl (fun bk1=>(xai rfl (dS (TC.draw [(0,true),(1,true),(2,true),(3,true),(4,true),(5,true),(7,true),(8,true),(6,false),(9,false),(10,true),(11,true)] [1] fc_m (by kernel_rfl) (xf 3 zbP rfl (xlc 1 zb3 rfl rfl (xf 0 zaT rfl (xL3 1 zaj rfl rfl ?_)))))))))
 refine xmi rfl (xmi rfl (TL.ncI rfl rfl rfl (xmc rfl (TL.callD [] [] (zch hl) ⟨rfl,rfl,rfl,trivial⟩ trivial zd2 rfl rfl rfl rfl rfl (kL1 rfl trivial) (TL.mload 0 hM rfl rfl rfl rfl rfl (kL1 rfl trivial) (TL.conv _ rfl zbb zaI (rfl) rfl rfl (xai rfl (dR ?_))))))))
 refine FQ.ret1 (v:=(.int _ _)) (Bs:=[A _]) [0] rfl rfl rfl ⟨rfl,trivial⟩ ?_
 exact ⟨rfl,rfl⟩
theorem zhA {S:Type} [MemLike S] {mt:TypeId} {mv:Value} {A:S→Assn} (hM:MemI Tryz.prog mt mv A) {l:Lay} (hl:l.Ok) {p:Pen} {σ:S} {x f v:Int}:FnD Tryz.prog 96 [za8 l mt mv p,.int .i64 x,.int .i64 f,.int .i64 v] [A σ] (.tuple #[]) [A (tput l σ x f v)]:=by
 refine Fn.enter (Tryz.func96) rfl rfl (fun w0 R=>?_)
 refine sA (xB 1 rfl (fun bk1=>(TL.done (TQ.then (TC.draw [(0,true),(1,true),(2,true),(3,true),(4,true),(5,true),(7,true),(8,true),(9,true),(10,true),(6,false),(11,false)] [1] fc_m (by kernel_rfl) (xf 3 zbP rfl (xlc 1 zb3 rfl rfl (xf 0 zaT rfl (xL3 1 zaj rfl rfl ?_)))))))))
 refine xmi rfl (xmi rfl (xmi rfl (TL.conv _ rfl zdz zaF (rfl) rfl rfl (TL.ncI rfl rfl rfl (xmc rfl (TL.callD [] [] (zch hl) ⟨rfl,rfl,rfl,trivial⟩ trivial zd2 rfl rfl rfl rfl rfl (kL1 rfl trivial) (TL.mstore 0 hM rfl rfl rfl (by first | exact zeX _ | exact zcV _ _ | exact MemLike.rng _ _ | decide | assumption) rfl rfl rfl (kL1 rfl trivial) (TL.done ?_))))))))
 refine FQ.end0 (Bs:=[A _]) [0] rfl rfl ⟨rfl,trivial⟩ ?_
 exact ⟨rfl,rfl⟩
theorem zj6 {mt:TypeId} {mv:Value} {l:Lay} (hl:l.Ok) {p:Pen} {x:Int}:FnD Tryz.prog 132 [za8 l mt mv p,.int .i64 x] [] (.bool (zgf l x)) []:=by
 refine Fn.enter (Tryz.func132) rfl rfl (fun w0 R=>?_)
 refine sA (xB 0 rfl (fun bk0=>(xaf rfl (dA (xf 0 zaT rfl (xL3 0 zaj rfl rfl (xmi rfl (TL.callD [] [] (zhO hl) ⟨rfl,rfl,trivial⟩ trivial zkv rfl rfl rfl rfl rfl trivial (xmu rfl ?_)))))))))
 refine TL.ext (.agg _) rfl rfl rfl rfl (TL.ext (.bool _) rfl rfl rfl rfl (TL.alloc 1 (cs:=#[.bool false,.int .i64 0,.int .i64 0,.int .i64 0,.int .i64 0]) zd0 rfl rfl rfl (fun _=>trivial) (fun bk1=>(TL.stW 1 5 [_,_,_,_,_] rfl rfl rfl rfl rfl rfl zbU rfl rfl trivial (xab rfl (dA (xf 1 zjP rfl (xli 1 zaa rfl rfl (TL.eqlV rfl rfl rfl rfl ?_)))))))))
 refine xab rfl (dR ?_)
 refine FQ.ret1 (v:=(.bool _)) (Bs:=[]) [] rfl rfl rfl trivial ?_
 exact ⟨rfl,rfl⟩
theorem zdm {S:Type} [MemLike S] {mt:TypeId} {mv:Value} {A:S→Assn} (hM:MemI Tryz.prog mt mv A) {l:Lay} (hl:l.Ok) {p:Pen} {σ:S} {x:Int}:FnD Tryz.prog 126 [za8 l mt mv p,.int .i64 x] [A σ] (.int .i64 (parent l σ x)) [A (zdu l σ x)]:=by
 refine Fn.enter (Tryz.func126) rfl rfl (fun w0 R=>?_)
 refine sA (xB 1 rfl (fun bk1=>(xai rfl (dB (xL6 1 zad rfl rfl (xmi rfl (TL.callD [] [] (zj6 hl) ⟨rfl,rfl,trivial⟩ trivial zmW rfl rfl rfl rfl rfl trivial (TL.cases rfl (fun q1=>?_) (fun q1=>?_)))))))))
 refine TL.done (TQ.then (TC.condT rfl (TC.seq (TC.draw [(0,true),(1,true),(2,true),(3,true),(4,true),(5,false),(6,false),(7,true)] [1] fc_m (by kernel_rfl) (xf 3 zbP rfl (xlc 1 zb3 rfl rfl (xf 0 zaT rfl (xL3 1 zaj rfl rfl ?_))))))))
 refine xmi rfl (TL.callD [] [] (zch hl) ⟨rfl,rfl,rfl,trivial⟩ trivial zd2 rfl rfl rfl rfl rfl (kL1 rfl trivial) (TL.callD [0] [0] (zqI hM) ⟨rfl,rfl,trivial⟩ ⟨rfl,trivial⟩ zp0 rfl rfl rfl rfl rfl (kL1 rfl trivial) (xai rfl (dRR ?_))))
 refine FQ.ret1 (v:=(.int _ _)) (Bs:=[A _]) [0] rfl rfl rfl ⟨rfl,trivial⟩ ?_
 exact ⟨(by simp only [parent, *,if_true,Bool.false_eq_true,if_false]),rfl⟩
 refine dF rfl (xL6 1 zad rfl rfl (xmi rfl (TL.callD [0] [0] (zcU hM hl) ⟨rfl,rfl,rfl,trivial⟩ ⟨rfl,trivial⟩ zc5 rfl rfl rfl rfl rfl trivial (xai rfl (dR ?_)))))
 refine FQ.ret1 (v:=(.int _ _)) (Bs:=[A _]) [0] rfl rfl rfl ⟨rfl,trivial⟩ ?_
 exact ⟨(by simp only [parent, *,if_true,Bool.false_eq_true,if_false]),rfl⟩
theorem zgr {S:Type} [MemLike S] {mt:TypeId} {mv:Value} {A:S→Assn} (hM:MemI Tryz.prog mt mv A) {l:Lay} (hl:l.Ok) {p:Pen} {σ:S} {x q:Int}:FnD Tryz.prog 97 [za8 l mt mv p,.int .i64 x,.int .i64 q] [A σ] (.tuple #[]) [A (hang l p σ x q)]:=by
 refine Fn.enter (Tryz.func97) rfl rfl (fun w0 R=>?_)
 refine sA (xB 1 rfl (fun bk1=>(dK (sA (xmi rfl (TL.eql rfl rfl rfl rfl (fun q1=>?_) (fun q1=>?_)))))))
 refine xat rfl (TL.done (TQ.then (TC.condT rfl (TC.skip (TQ.inBlock ?_)))))
 refine FQ.end0 (Bs:=[A _]) [0] rfl rfl ⟨rfl,trivial⟩ ?_
 first | exact ⟨rfl,(by simp only [hang, *,if_true,Bool.false_eq_true,if_false])⟩ | exact ⟨rfl,(by simp only [hang]; rw [if_pos (by assumption)])⟩
 refine xaf rfl (TL.done (TQ.then (TC.condF rfl (sA (xL6 1 zad rfl rfl (xmi rfl (TL.callD [] [] (zj6 hl) ⟨rfl,rfl,trivial⟩ trivial zmW rfl rfl rfl rfl rfl trivial (TL.cases rfl (fun q2=>?_) (fun q2=>?_)))))))))
 refine xat rfl (TL.done (TQ.then (TC.condT rfl (TC.draw [(0,true),(1,true),(2,true),(3,true),(4,true),(5,true),(6,true),(8,true),(7,false),(9,false)] [1] fc_m (by kernel_rfl) (xf 4 zlb rfl (xL2 1 zkC rfl rfl (xf 3 zbP rfl (xlc 1 zb3 rfl rfl ?_))))))))
 refine xf 0 zaT rfl (xL3 1 zaj rfl rfl (xmi rfl (xmi rfl (TL.callD [] [] (zch hl) ⟨rfl,rfl,rfl,trivial⟩ trivial zd2 rfl rfl rfl rfl rfl (kL1 rfl trivial) (TL.callD [0] [0] (znA hM) ⟨rfl,rfl,rfl,rfl,trivial⟩ ⟨rfl,trivial⟩ zp3 rfl rfl rfl rfl rfl (kL1 rfl trivial) (TL.done (TQ.inBlock ?_)))))))
 refine FQ.end0 (Bs:=[A _]) [0] rfl rfl ⟨rfl,trivial⟩ ?_
 first | exact ⟨rfl,(by simp only [hang, *,if_true,Bool.false_eq_true,if_false])⟩ | exact ⟨rfl,(by simp only [hang]; rw [if_pos (by assumption)])⟩
 refine xaf rfl (TL.done (TQ.then (TC.condF rfl (TC.region (xL6 1 zad rfl rfl (xmi rfl (xmi rfl (TL.callD [0] [0] (zhA hM hl) ⟨rfl,rfl,rfl,rfl,trivial⟩ ⟨rfl,trivial⟩ zks rfl rfl rfl rfl rfl trivial ?_))))))))
 refine TL.done (TQ.inBlock ?_)
 refine FQ.end0 (Bs:=[A _]) [0] rfl rfl ⟨rfl,trivial⟩ ?_
 first | exact ⟨rfl,(by simp only [hang, *,if_true,Bool.false_eq_true,if_false])⟩ | exact ⟨rfl,(by simp only [hang]; rw [if_pos (by assumption)])⟩
theorem zgb {S:Type} [MemLike S] {mt:TypeId} {mv:Value} {A:S→Assn} (hM:MemI Tryz.prog mt mv A) {l:Lay} (hl:l.Ok) {p:Pen} {σ:S} {x:Int}:FnD Tryz.prog 146 [za8 l mt mv p,.int .i64 x] [A σ] (.int .u64 (tsum l σ x)) [A (zcE l σ x)]:=by
 refine Fn.enter (Tryz.func146) rfl rfl (fun w0 R=>?_)
 refine sA (xB 1 rfl (fun bk1=>(xai rfl (dB (xmi rfl (TL.eql rfl rfl rfl rfl (fun q1=>?_) (fun q1=>?_)))))))
 refine dT rfl (xai rfl (dRR ?_))
 refine FQ.ret1 (v:=(.int _ _)) (Bs:=[A _]) [0] rfl rfl rfl ⟨rfl,trivial⟩ ?_
 first | exact ⟨(by simp only [tsum]; rw [if_pos (by assumption)]),(by simp only [zcE]; rw [if_pos (by assumption)])⟩ | exact ⟨(by simp only [tsum]; rw [if_neg (by assumption)]),(by simp only [zcE]; rw [if_neg (by assumption)])⟩
 refine TL.done (TQ.then (TC.condF rfl (TC.skip (TQ.then (TC.seq (TC.draw [(0,true),(1,true),(2,true),(3,true),(4,true),(6,true),(7,true),(5,false),(8,false),(9,true)] [1] fc_m (by kernel_rfl) (xf 3 zbP rfl (xlc 1 zb3 rfl rfl ?_))))))))
 refine xf 0 zaT rfl (xL3 1 zaj rfl rfl (xmi rfl (TL.ncI rfl rfl rfl (xmc rfl (TL.callD [] [] (zch hl) ⟨rfl,rfl,rfl,trivial⟩ trivial zd2 rfl rfl rfl rfl rfl (kL1 rfl trivial) (TL.mload 0 hM rfl rfl rfl rfl rfl (kL1 rfl trivial) (xai rfl (dR ?_))))))))
 refine FQ.ret1 (v:=(.int _ _)) (Bs:=[A _]) [0] rfl rfl rfl ⟨rfl,trivial⟩ ?_
 first | exact ⟨(by simp only [tsum]; rw [if_pos (by assumption)]),(by simp only [zcE]; rw [if_pos (by assumption)])⟩ | exact ⟨(by simp only [tsum]; rw [if_neg (by assumption)]),(by simp only [zcE]; rw [if_neg (by assumption)])⟩
theorem zm9 {v:Int}:FnD Tryz.prog 159 [.int .u64 v] [] (.int .u64 (zkK v)) []:=by
 refine Fn.enter (Tryz.func159) rfl rfl (fun w0 R=>?_)
 refine sA (xai rfl (dA (xmi rfl (TL.and _ rfl rfl rfl rfl rfl (xai rfl (dR ?_))))))
 refine FQ.ret1 (v:=(.int _ _)) (Bs:=[]) [] rfl rfl rfl trivial ?_
 exact ⟨rfl,rfl⟩
theorem zmk {mt:TypeId} {mv:Value} {l:Lay} (hl:l.Ok) {p:Pen} {x m:Int}:FnD Tryz.prog 98 [za8 l mt mv p,.int .i64 x,.int .u64 m] [] (.int .u64 (zes l x m)) []:=by
 refine Fn.enter (Tryz.func98) rfl rfl (fun w0 R=>?_)
 refine sA (xB 0 rfl (fun bk0=>(xai rfl (dA (xmi rfl (TL.shl _ rfl rfl (by decide) rfl rfl rfl (TL.or _ rfl rfl rfl rfl rfl (xmi rfl (TL.shl _ rfl rfl (by decide) rfl rfl rfl ?_)))))))))
 refine TL.or _ rfl rfl rfl rfl rfl (xai rfl (dB (xf 0 zaT rfl (xL3 0 zaj rfl rfl (xmi rfl (TL.callD [] [] (zhO hl) ⟨rfl,rfl,trivial⟩ trivial zkv rfl rfl rfl rfl rfl trivial (xmu rfl (TL.ext (.agg _) rfl rfl rfl rfl ?_))))))))
 refine TL.ext (.bool _) rfl rfl rfl rfl (TL.alloc 1 (cs:=#[.bool false,.int .i64 0,.int .i64 0,.int .i64 0,.int .i64 0]) zd0 rfl rfl rfl (fun _=>trivial) (fun bk1=>(TL.stW 1 5 [_,_,_,_,_] rfl rfl rfl rfl rfl rfl zbU rfl rfl trivial (xab rfl (dA (xf 0 zjQ rfl (xlb 1 zfj rfl rfl (TL.not _ _ rfl rfl rfl rfl (TL.done ?_)))))))))
 refine TQ.then (TC.cond rfl (fun q1=>?_) (fun q1=>?_))
 refine TC.region (xmi rfl (TL.or _ rfl rfl rfl rfl rfl (xai rfl (dA (xmi rfl (xai rfl (dR ?_)))))))
 refine FQ.ret1 (v:=(.int _ _)) (Bs:=[]) [] rfl rfl rfl trivial ?_
 first | exact ⟨(by have q:(l.node x).1.arc=false:=(by simpa using ‹(!(l.node x).1.arc)=true›); simp only [zes,q,Bool.false_eq_true,if_false]; rfl),rfl⟩ | exact ⟨(by have q:(l.node x).1.arc=true:=(by simpa using ‹(!(l.node x).1.arc)=false›); simp only [zes,q,if_true]; rfl),rfl⟩
 refine TC.skip (TQ.then (sA (xmi rfl (xai rfl (dR ?_)))))
 refine FQ.ret1 (v:=(.int _ _)) (Bs:=[]) [] rfl rfl rfl trivial ?_
 first | exact ⟨(by have q:(l.node x).1.arc=false:=(by simpa using ‹(!(l.node x).1.arc)=true›); simp only [zes,q,Bool.false_eq_true,if_false]; rfl),rfl⟩ | exact ⟨(by have q:(l.node x).1.arc=true:=(by simpa using ‹(!(l.node x).1.arc)=false›); simp only [zes,q,if_true]; rfl),rfl⟩
theorem ze6 {S:Type} [MemLike S] {mt:TypeId} {mv:Value} {A:S→Assn} (hM:MemI Tryz.prog mt mv A) {l:Lay} (hl:l.Ok) {p:Pen} {σ:S} {x m:Int}:FnD Tryz.prog 148 [za8 l mt mv p,.int .i64 x,.int .u64 m] [A σ] (.tuple #[]) [A (zg0 l σ x m)]:=by
 refine Fn.enter (Tryz.func148) rfl rfl (fun w0 R=>?_)
 refine sA (xB 1 rfl (fun bk1=>(dA (xL6 1 zad rfl rfl (xmi rfl (xmi rfl (TL.callD [] [] (zmk hl) ⟨rfl,rfl,rfl,trivial⟩ trivial zoV rfl rfl rfl rfl rfl trivial (xai rfl (dB ?_)))))))))
 refine TL.bldA [.int .i64 0,.int .i64 0] [(.int _ _),(.int _ _)] [_,_] zgw zaQ ⟨rfl,rfl,trivial⟩ ⟨rfl,rfl⟩ rfl rfl (xmi rfl (dK (TC.loopK (X:=Nat) [1,3,14] [1] (fun i=>[(6,.int .u64 (zdJ l σ x m i).1),(15,.int .i64 (i:Int))]) (fun i=>[(0,A (zdJ l σ x m i).2)]) (fun i=>i≤2) (fun i=>2 - i) (0) (by decide) ⟨rfl,rfl,trivial⟩ ⟨rfl,trivial⟩ (fun i hI=>(TC.sub (env':=[(6,_),(15,_),(1,_),(3,_),(14,_)]) (L':=[(0,_),(1,_)]) ⟨rfl,rfl,rfl,rfl,rfl,trivial⟩ ⟨rfl,rfl,trivial⟩ (sA (TL.lss rfl rfl rfl rfl (fun q1=>?_) (fun q1=>?_))))))))
 refine dS (TC.condT rfl (TC.skip (TQ.then (TC.seq (TC.block (sA (TL.ixA (.int .i64 (3+(i:Int))) rfl rfl zaQ zaa (by omega) (by omega) (by have:i=0∨i=1:=(by omega); rcases this with rfl | rfl<;>rfl) rfl rfl (xai rfl ?_))))))))
 refine dS (TC.draw [(0,true),(1,true),(2,true),(3,true),(4,false),(5,false),(6,true)] [1] fc_m (by kernel_rfl) (xL6 1 zad rfl rfl (xL6 1 zad rfl rfl (xmi rfl (xmi rfl (TL.callD [0] [0] (zcU hM hl) ⟨rfl,rfl,rfl,trivial⟩ ⟨rfl,trivial⟩ zc5 rfl rfl rfl rfl rfl (kL1 rfl trivial) (TL.callD [0] [0] (zgb hM hl) ⟨rfl,rfl,trivial⟩ ⟨rfl,trivial⟩ zgK rfl rfl rfl rfl rfl (kL1 rfl trivial) (xai rfl ?_))))))))
 refine dG (xmi rfl (xmi rfl (TL.callD [] [] zm9 ⟨rfl,trivial⟩ trivial zpV rfl rfl rfl rfl rfl trivial (TL.add _ rfl rfl (rfl) rfl rfl (xmi rfl (TL.shr _ rfl rfl (by decide) rfl rfl rfl (TL.and _ rfl rfl rfl rfl rfl (TL.shl _ rfl rfl (by decide) rfl rfl rfl ?_))))))))
 refine TL.or _ rfl rfl rfl rfl rfl (xai rfl (dI (TL.add _ rfl rfl (wr64 (by omega)) rfl rfl (xmi rfl (TL.done (TQ.roundK (i+1) ⟨by omega,by omega⟩ ⟨rfl,rfl,trivial⟩ ⟨rfl,trivial⟩ (kE3 rfl rfl rfl trivial) (kL1 rfl trivial)))))))
 refine dS (TC.condF rfl (TC.exit (TQ.thenExit (TQ.thenExit (TQ.blockHere (TQ.then (TC.draw [(0,true),(1,true),(2,true),(3,true),(4,true),(6,true),(7,true),(8,true),(5,false),(9,false)] [1] fc_m (by kernel_rfl) (xf 3 zbP rfl ?_))))))))
 refine xlc 1 zb3 rfl rfl (xf 0 zaT rfl (xL3 1 zaj rfl rfl (xmi rfl (xmi rfl (TL.ncI rfl rfl rfl (xmc rfl (TL.callD [] [] (zch hl) ⟨rfl,rfl,rfl,trivial⟩ trivial zd2 rfl rfl rfl rfl rfl (kL1 rfl trivial) (TL.mstore 0 hM rfl rfl rfl (zk0 _ _ _ _ _) rfl rfl rfl (kL1 rfl trivial) ?_))))))))
 refine TL.done ?_
 refine FQ.end0 (Bs:=[A _]) [0] rfl rfl ⟨rfl,trivial⟩ ?_
 obtain rfl:i=2:=by omega
 refine ⟨rfl,?_⟩
 unfold zg0
 rfl
theorem zee {S:Type} [MemLike S] {mt:TypeId} {mv:Value} {A:S→Assn} (hM:MemI Tryz.prog mt mv A) {l:Lay} (hl:l.Ok) {p:Pen} {σ:S} {x:Int}:FnD Tryz.prog 147 [za8 l mt mv p,.int .i64 x] [A σ] (.int .u64 (zgq l σ x)) [A (zgp l σ x)]:=by
 refine Fn.enter (Tryz.func147) rfl rfl (fun w0 R=>?_)
 refine sA (xB 1 rfl (fun bk1=>(xai rfl (dA (xL6 1 zad rfl rfl (xmi rfl (TL.callD [0] [0] (zgb hM hl) ⟨rfl,rfl,trivial⟩ ⟨rfl,trivial⟩ zgK rfl rfl rfl rfl rfl trivial (TL.shr _ rfl rfl (by decide) rfl rfl rfl (TL.and _ rfl rfl rfl rfl rfl ?_)))))))))
 refine xai rfl (dR ?_)
 refine FQ.ret1 (v:=(.int _ _)) (Bs:=[A _]) [0] rfl rfl rfl ⟨rfl,trivial⟩ ?_
 exact ⟨rfl,rfl⟩
theorem zdi {S:Type} [MemLike S] {mt:TypeId} {mv:Value} {A:S→Assn} (hM:MemI Tryz.prog mt mv A) {l:Lay} (hl:l.Ok) {p:Pen} {σ:S} {x:Int}:FnD Tryz.prog 56 [za8 l mt mv p,.int .i64 x] [A σ] (.tuple #[]) [A (alone l p σ x)]:=by
 refine Fn.enter (Tryz.func56) rfl rfl (fun w0 R=>?_)
 refine sA (xB 1 rfl (fun bk1=>(dA (xL6 1 zad rfl rfl (xmi rfl (TL.callD [0] [0] (zhA hM hl) ⟨rfl,rfl,rfl,rfl,trivial⟩ ⟨rfl,trivial⟩ zks rfl rfl rfl rfl rfl trivial (dA (xL6 1 zad rfl rfl (xmi rfl ?_)))))))))
 refine TL.callD [0] [0] (zhA hM hl) ⟨rfl,rfl,rfl,rfl,trivial⟩ ⟨rfl,trivial⟩ zks rfl rfl rfl rfl rfl trivial (dA (xL6 1 zad rfl rfl (xmi rfl (TL.callD [0] [0] (zgr hM hl) ⟨rfl,rfl,rfl,trivial⟩ ⟨rfl,trivial⟩ ziY rfl rfl rfl rfl rfl trivial (TL.done (TQ.then (TC.draw [(0,true),(1,true),(2,true),(3,true),(4,true),(6,true),(7,true),(9,true),(10,true),(5,false),(8,false),(11,false)] [1] fc_m (by kernel_rfl) (xf 3 zbP rfl ?_))))))))
 refine xlc 1 zb3 rfl rfl (xf 0 zaT rfl (xL3 1 zaj rfl rfl (xmi rfl (xL6 1 zad rfl rfl (xmi rfl (TL.ncI rfl rfl rfl (xmc rfl (TL.callD [] [] (zch hl) ⟨rfl,rfl,rfl,trivial⟩ trivial zd2 rfl rfl rfl rfl rfl (kL1 rfl trivial) ?_))))))))
 refine TL.callD [] [] (zmk hl) ⟨rfl,rfl,rfl,trivial⟩ trivial zoV rfl rfl rfl rfl rfl (kL1 rfl trivial) (TL.mstore 0 hM rfl rfl rfl (by first | exact zki _ _ _) rfl rfl rfl (kL1 rfl trivial) (TL.done ?_))
 refine FQ.end0 (Bs:=[A _]) [0] rfl rfl ⟨rfl,trivial⟩ ?_
 exact ⟨rfl,rfl⟩
theorem zhD {S:Type} [MemLike S] {mt:TypeId} {mv:Value} {A:S→Assn} (hM:MemI Tryz.prog mt mv A) {l:Lay} (hl:l.Ok) {p:Pen} {σ:S} {x:Int}:FnD Tryz.prog 150 [za8 l mt mv p,.int .i64 x] [A σ] (.int .i64 (size l σ x)) [A (zcE l σ x)]:=by
 refine Fn.enter (Tryz.func150) rfl rfl (fun w0 R=>?_)
 refine sA (xB 1 rfl (fun bk1=>(xai rfl (dA (xL6 1 zad rfl rfl (xmi rfl (TL.callD [0] [0] (zgb hM hl) ⟨rfl,rfl,trivial⟩ ⟨rfl,trivial⟩ zgK rfl rfl rfl rfl rfl trivial (TL.and _ rfl rfl rfl rfl rfl (TL.conv _ rfl zbb zaI (rfl) rfl rfl ?_)))))))))
 refine xai rfl (dR ?_)
 refine FQ.ret1 (v:=(.int _ _)) (Bs:=[A _]) [0] rfl rfl rfl ⟨rfl,trivial⟩ ?_
 exact ⟨rfl,rfl⟩
theorem znE {S:Type} [MemLike S] {mt:TypeId} {mv:Value} {A:S→Assn} (hM:MemI Tryz.prog mt mv A) {l:Lay} (hl:l.Ok) {p:Pen} {σ:S} {x:Int}:FnD Tryz.prog 119 [za8 l mt mv p,.int .i64 x] [A σ] (.int .i64 (verts l σ x)) [A (zcE l σ x)]:=by
 refine Fn.enter (Tryz.func119) rfl rfl (fun w0 R=>?_)
 refine sA (xB 1 rfl (fun bk1=>(xai rfl (dA (xL6 1 zad rfl rfl (xmi rfl (TL.callD [0] [0] (zgb hM hl) ⟨rfl,rfl,trivial⟩ ⟨rfl,trivial⟩ zgK rfl rfl rfl rfl rfl trivial (TL.shr _ rfl rfl (by decide) rfl rfl rfl (TL.and _ rfl rfl rfl rfl rfl ?_)))))))))
 refine TL.conv _ rfl zbb zaI (rfl) rfl rfl (xai rfl (dR ?_))
 refine FQ.ret1 (v:=(.int _ _)) (Bs:=[A _]) [0] rfl rfl rfl ⟨rfl,trivial⟩ ?_
 exact ⟨rfl,rfl⟩
theorem zeH {S:Type} [MemLike S] {mt:TypeId} {mv:Value} {A:S→Assn} (hM:MemI Tryz.prog mt mv A) {l:Lay} (hl:l.Ok) {p:Pen} {σ:S} {x r:Int} {k:Nat} {σ2:S} (h:root l k σ x=some (r,σ2)):FnD Tryz.prog 81 [za8 l mt mv p,.int .i64 x] [A σ] (.int .i64 r) [A σ2]:=by
 refine Fn.enter (Tryz.func81) rfl rfl (fun w0 R=>?_)
 refine sA (xB 1 rfl (fun bk1=>(xai rfl (dS (TC.block (TC.loopK (X:=Nat×S×Int) [2,4] [1] (fun y=>[(1,.int .i64 y.2.2)]) (fun y=>[(0,A y.2.1)]) (fun y=>root l y.1 y.2.1 y.2.2=some (r,σ2)) (fun y=>y.1) ((k,σ,x)) h ⟨rfl,trivial⟩ ⟨rfl,trivial⟩ (fun y hI=>?_)))))))
 obtain ⟨k,σ1,z⟩:=y
 rcases k with _ | k
 ·simp [root] at hI
 dsimp only at hI
 refine TC.sub (env':=[(1,_),(2,_),(4,_)]) (L':=[(0,_),(1,_)]) ⟨rfl,rfl,rfl,trivial⟩ ⟨rfl,rfl,trivial⟩ (sB (xmi rfl (TL.neq rfl rfl rfl rfl (fun q1=>?_) (fun q1=>?_))))
 refine TL.done (TQ.then (TC.condT rfl (TC.skip (TQ.then (TC.block (sA (xL6 1 zad rfl rfl (xmi rfl ?_))))))))
 refine TL.callD [0] [0] (zdm hM hl) ⟨rfl,rfl,trivial⟩ ⟨rfl,trivial⟩ zfG rfl rfl rfl rfl rfl trivial (xai rfl (dB (xmi rfl (TL.eql rfl rfl rfl rfl (fun q2=>?_) (fun q2=>?_)))))
 refine TL.done (TQ.then (TC.condT rfl (TC.exit (TQ.thenExit (TQ.blockOut rfl (TQ.thenExit (TQ.blockHere (TQ.then ?_))))))))
 refine sA (xmi rfl (xai rfl (dR ?_)))
 refine FQ.ret1 (v:=(.int _ _)) (Bs:=[A _]) [0] rfl rfl rfl ⟨rfl,trivial⟩ ?_
 rw [root,if_pos q1,if_pos q2] at hI; cases hI; exact ⟨rfl,rfl⟩
 refine TL.done (TQ.then (TC.condF rfl (TC.skip (TQ.then (TC.region (xmi rfl (xai rfl (TL.done ?_))))))))
 refine TQ.inBlock (TQ.roundK ((k,zdu l σ1 z,parent l σ1 z)) ⟨(by rw [root,if_pos q1,if_neg q2] at hI; exact hI),Nat.lt_succ_self _⟩ ⟨rfl,trivial⟩ ⟨rfl,trivial⟩ (kE2 rfl rfl trivial) (kL1 rfl trivial))
 refine dE rfl (sA (xmi rfl (xai rfl (dR ?_))))
 refine FQ.ret1 (v:=(.int _ _)) (Bs:=[A _]) [0] rfl rfl rfl ⟨rfl,trivial⟩ ?_
 rw [root,if_neg q1] at hI; cases hI; exact ⟨rfl,rfl⟩
theorem zhV {S:Type} [MemLike S] {mt:TypeId} {mv:Value} {A:S→Assn} (hM:MemI Tryz.prog mt mv A) {l:Lay} (hl:l.Ok) {p:Pen} {σ:S} {x r:Int} {k:Nat} {σ2:S} (h:index l k σ x=some (r,σ2)):FnD Tryz.prog 124 [za8 l mt mv p,.int .i64 x] [A σ] (.int .i64 r) [A σ2]:=by
 unfold index at h
 dsimp only at h
 refine Fn.enter (Tryz.func124) rfl rfl (fun w0 R=>?_)
 refine sA (xB 1 rfl (fun bk1=>(xai rfl (dS (TC.draw [(0,true),(1,true),(2,true),(3,false),(4,false),(5,true)] [1] fc_m (by kernel_rfl) (xL6 1 zad rfl rfl (xL6 1 zad rfl rfl (xmi rfl (TL.callD [0] [0] (zcU hM hl) ⟨rfl,rfl,rfl,trivial⟩ ⟨rfl,trivial⟩ zc5 rfl rfl rfl rfl rfl (kL1 rfl trivial) ?_)))))))))
 refine TL.callD [0] [0] (zhD hM hl) ⟨rfl,rfl,trivial⟩ ⟨rfl,trivial⟩ zib rfl rfl rfl rfl rfl (kL1 rfl trivial) (xai rfl (dK (TC.loopK (X:=Nat×S×Int×Int) [2] [1] (fun y=>[(1,.int .i64 y.2.2.1),(5,.int .i64 y.2.2.2)]) (fun y=>[(0,A y.2.1)]) (fun y=>zc9 l y.1 y.2.1 y.2.2.1 y.2.2.2=some (r,σ2)) (fun y=>y.1) ((k,_,_,_)) h ⟨rfl,rfl,trivial⟩ ⟨rfl,trivial⟩ (fun y hI=>?_))))
 obtain ⟨k,σ1,z,n⟩:=y
 rcases k with _ | k
 ·simp [zc9] at hI
 dsimp only at hI
 refine TC.sub (env':=[(1,_),(5,_),(2,_)]) (L':=[(0,_),(1,_)]) ⟨rfl,rfl,rfl,trivial⟩ ⟨rfl,rfl,trivial⟩ (TC.block (sA (xL6 1 zad rfl rfl (xmi rfl (TL.callD [0] [0] (zdm hM hl) ⟨rfl,rfl,trivial⟩ ⟨rfl,trivial⟩ zfG rfl rfl rfl rfl rfl trivial (xai rfl (dB (xmi rfl ?_))))))))
 refine TL.eql rfl rfl rfl rfl (fun q1=>?_) (fun q1=>?_)
 refine dT rfl (xmi rfl (xai rfl (dRR (TQ.blockRet (TQ.thenRet (TQ.blockRet ?_))))))
 refine FQ.ret1 (v:=(.int _ _)) (Bs:=[A _]) [0] rfl rfl rfl ⟨rfl,trivial⟩ ?_
 rw [zc9,if_pos q1] at hI; cases hI; exact ⟨rfl,rfl⟩
 refine TL.done (TQ.then (TC.condF rfl (TC.skip (TQ.then (sB (xL6 1 zad rfl rfl (xmi rfl (TL.callD [0] [0] (zcU hM hl) ⟨rfl,rfl,rfl,trivial⟩ ⟨rfl,trivial⟩ zc5 rfl rfl rfl rfl rfl trivial ?_))))))))
 refine xmi rfl (TL.eql rfl rfl rfl rfl (fun q2=>?_) (fun q2=>?_))
 refine TL.done (TQ.then (TC.condT rfl (TC.draw [(0,true),(1,true),(2,true),(3,true),(4,false),(5,false),(6,true),(7,true),(8,true)] [1] fc_m (by kernel_rfl) (xmi rfl (xL6 1 zad rfl rfl (xL6 1 zad rfl rfl (xmi rfl (TL.callD [0] [0] (zcU hM hl) ⟨rfl,rfl,rfl,trivial⟩ ⟨rfl,trivial⟩ zc5 rfl rfl rfl rfl rfl (kL1 rfl trivial) ?_))))))))
 refine TL.callD [0] [0] (zhD hM hl) ⟨rfl,rfl,trivial⟩ ⟨rfl,trivial⟩ zib rfl rfl rfl rfl rfl (kL1 rfl trivial) (TL.add _ rfl rfl (rfl) rfl rfl (TL.add _ rfl rfl (rfl) rfl rfl (xai rfl (dG (xmi rfl (xai rfl (TL.done (TQ.inBlock ?_))))))))
 refine TQ.roundK ((k,_,_,_)) ⟨(by rw [zc9,if_neg q1] at hI; dsimp only at hI; rw [if_pos q2] at hI; exact hI),Nat.lt_succ_self _⟩ ⟨rfl,rfl,trivial⟩ ⟨rfl,trivial⟩ (kE1 rfl trivial) (kL1 rfl trivial)
 refine TL.done (TQ.then (TC.condF rfl (TC.skip (TQ.then (TC.region (xmi rfl (xai rfl (TL.done ?_))))))))
 refine TQ.inBlock (TQ.roundK ((k,_,_,_)) ⟨(by rw [zc9,if_neg q1] at hI; dsimp only at hI; rw [if_neg q2] at hI; exact hI),Nat.lt_succ_self _⟩ ⟨rfl,rfl,trivial⟩ ⟨rfl,trivial⟩ (kE1 rfl trivial) (kL1 rfl trivial))
theorem zj7 {S:Type} [MemLike S] {mt:TypeId} {mv:Value} {A:S→Assn} (hM:MemI Tryz.prog mt mv A) {l:Lay} (hl:l.Ok) {p:Pen} {σ:S} {x f c:Int}:FnD Tryz.prog 161 [za8 l mt mv p,.int .i64 x,.int .i64 f,.int .i64 c] [A σ] (.tuple #[]) [A (setC l p σ x f c)]:=by
 refine Fn.enter (Tryz.func161) rfl rfl (fun w0 R=>?_)
 refine sA (xB 1 rfl (fun bk1=>(dA (xL6 1 zad rfl rfl (xmi rfl (xmi rfl (xmi rfl (TL.callD [0] [0] (zhA hM hl) ⟨rfl,rfl,rfl,rfl,trivial⟩ ⟨rfl,trivial⟩ zks rfl rfl rfl rfl rfl trivial (dA ?_)))))))))
 refine xL6 1 zad rfl rfl (xmi rfl (xmi rfl (TL.callD [0] [0] (zgr hM hl) ⟨rfl,rfl,rfl,trivial⟩ ⟨rfl,trivial⟩ ziY rfl rfl rfl rfl rfl trivial (TL.done (TQ.then (TC.draw [(0,true),(1,true),(2,true),(3,true),(4,false),(5,false)] [1] fc_m (by kernel_rfl) (xL6 1 zad rfl rfl (xmi rfl ?_))))))))
 refine xL6 1 zad rfl rfl (xmi rfl (TL.callD [0] [0] (zee hM hl) ⟨rfl,rfl,trivial⟩ ⟨rfl,trivial⟩ zfE rfl rfl rfl rfl rfl (kL1 rfl trivial) (TL.callD [0] [0] (ze6 hM hl) ⟨rfl,rfl,rfl,trivial⟩ ⟨rfl,trivial⟩ zgJ rfl rfl rfl rfl rfl (kL1 rfl trivial) (TL.done ?_))))
 refine FQ.end0 (Bs:=[A _]) [0] rfl rfl ⟨rfl,trivial⟩ ?_
 exact ⟨rfl,(by unfold setC zgp; rfl)⟩
theorem znJ {S:Type} [MemLike S] {mt:TypeId} {mv:Value} {A:S→Assn} (hM:MemI Tryz.prog mt mv A) {l:Lay} (hl:l.Ok) {p:Pen} {σ:S} {x n:Int} {r:Int×Int} {k:Nat} {σ2:S} (h:split l p k σ x n=some (r,σ2)):FnD Tryz.prog 151 [za8 l mt mv p,.int .i64 x,.int .i64 n] [A σ] (.tuple #[.int .i64 r.1,.int .i64 r.2]) [A σ2]:=by
 induction k generalizing σ x n r σ2
 case zero=>simp [split] at h
 case succ k ih =>
  refine Fn.enter (Tryz.func151) rfl rfl (fun w0 R=>?_)
  refine sA (xB 1 rfl (fun bk1=>(xai rfl (xai rfl (dB (xmi rfl (TL.eql rfl rfl rfl rfl (fun q1=>?_) (fun q1=>?_))))))))
  refine dT rfl (xai rfl (xai rfl (dRR ?_)))
  refine FQ.ret2 (v:=(.int _ _)) (x:=(.int _ _)) (Bs:=[A _]) [0] rfl rfl rfl rfl ⟨rfl,trivial⟩ ?_
  rw [split,if_pos q1] at h; cases h; exact ⟨rfl,rfl⟩
  refine dF rfl (xL6 1 zad rfl rfl (xmi rfl (TL.callD [0] [0] (zcU hM hl) ⟨rfl,rfl,rfl,trivial⟩ ⟨rfl,trivial⟩ zc5 rfl rfl rfl rfl rfl trivial (xai rfl (dA (xL6 1 zad rfl rfl (xmi rfl (TL.callD [0] [0] (zhD hM hl) ⟨rfl,rfl,trivial⟩ ⟨rfl,trivial⟩ zib rfl rfl rfl rfl rfl trivial ?_))))))))
  refine xai rfl (dB (xmi rfl (xmi rfl (TL.leq rfl rfl rfl rfl (fun q2=>?_) (fun q2=>?_)))))
  refine dT rfl (xL6 1 zad rfl rfl (xmi rfl (xmi rfl ?_)))
  rw [split,if_neg q1] at h
  dsimp only at h
  rw [if_pos q2] at h
  obtain ⟨⟨ab,σ3⟩,h1,h9⟩:=Option.bind_eq_some_iff.1 h
  refine TL.callD [0] [0] (ih h1) ⟨rfl,rfl,rfl,trivial⟩ ⟨rfl,trivial⟩ zjS rfl rfl rfl rfl rfl trivial (xmu rfl (xei rfl rfl (xei rfl rfl (xai rfl (xai rfl (dA (xL6 1 zad rfl rfl (xmi rfl ?_))))))))
  refine xmi rfl (TL.callD [0] [0] (zj7 hM hl) ⟨rfl,rfl,rfl,rfl,trivial⟩ ⟨rfl,trivial⟩ zia rfl rfl rfl rfl rfl trivial (dA (xmi rfl (xmi rfl (xai rfl (xai rfl (dRR ?_)))))))
  refine FQ.ret2 (v:=(.int _ _)) (x:=(.int _ _)) (Bs:=[A _]) [0] rfl rfl rfl rfl ⟨rfl,trivial⟩ ?_
  cases h9; exact ⟨rfl,rfl⟩
  refine TL.done (TQ.then (TC.condF rfl (TC.skip (TQ.then (TC.seq (TC.draw [(0,true),(1,true),(2,true),(4,true),(5,true),(6,true),(7,true),(3,false),(8,false),(9,true),(10,true),(11,true),(12,true),(13,true)] [1] fc_m (by kernel_rfl) (xL6 1 zad rfl rfl (xL6 1 zad rfl rfl ?_))))))))
  refine xmi rfl (xmi rfl (xmi rfl (TL.sub _ rfl rfl (rfl) rfl rfl (TL.sub _ rfl rfl (rfl) rfl rfl (TL.callD [0] [0] (zcU hM hl) ⟨rfl,rfl,rfl,trivial⟩ ⟨rfl,trivial⟩ zc5 rfl rfl rfl rfl rfl (kL1 rfl trivial) ?_)))))
  rw [split,if_neg q1] at h
  dsimp only at h
  rw [if_neg q2] at h
  obtain ⟨⟨ab,σ3⟩,h1,h9⟩:=Option.bind_eq_some_iff.1 h
  refine TL.callD [0] [0] (ih h1) ⟨rfl,rfl,rfl,trivial⟩ ⟨rfl,trivial⟩ zjS rfl rfl rfl rfl rfl (kL1 rfl trivial) (xmu rfl (xei rfl rfl (xei rfl rfl (xai rfl (xai rfl (dA (xL6 1 zad rfl rfl (xmi rfl ?_))))))))
  refine xmi rfl (TL.callD [0] [0] (zj7 hM hl) ⟨rfl,rfl,rfl,rfl,trivial⟩ ⟨rfl,trivial⟩ zia rfl rfl rfl rfl rfl trivial (dA (xmi rfl (xmi rfl (xai rfl (xai rfl (dR ?_)))))))
  refine FQ.ret2 (v:=(.int _ _)) (x:=(.int _ _)) (Bs:=[A _]) [0] rfl rfl rfl rfl ⟨rfl,trivial⟩ ?_
  cases h9; exact ⟨rfl,rfl⟩
theorem zcb {S:Type} [MemLike S] {mt:TypeId} {mv:Value} {A:S→Assn} (hM:MemI Tryz.prog mt mv A) {l:Lay} (hl:l.Ok) {p:Pen} {σ:S} {x n:Int} {r:Int×Int} {k:Nat} {σ2:S} (h:ze1 l p k σ x n=some (r,σ2)):FnD Tryz.prog 125 [za8 l mt mv p,.int .i64 x,.int .i64 n] [A σ] (.tuple #[.int .i64 r.1,.int .i64 r.2]) [A σ2]:=by
 obtain ⟨⟨ab,σ3⟩,h1,h9⟩:=Option.bind_eq_some_iff.1 h
 cases h9
 refine Fn.enter (Tryz.func125) rfl rfl (fun w0 R=>?_)
 refine sA (xB 1 rfl (fun bk1=>(xai rfl (xai rfl (dS (TC.draw [(0,true),(1,true),(2,true),(3,true),(4,true),(5,true),(6,false),(7,true),(8,false),(9,true),(10,true),(11,true),(12,true),(13,true)] [1] fc_m (by kernel_rfl) (xL6 1 zad rfl rfl (xmi rfl (xmi rfl ?_)))))))))
 refine TL.max2 rfl rfl rfl rfl (xL6 1 zad rfl rfl (xmi rfl (TL.callD [0] [0] (zhD hM hl) ⟨rfl,rfl,trivial⟩ ⟨rfl,trivial⟩ zib rfl rfl rfl rfl rfl (kL1 rfl trivial) (TL.min2 rfl rfl rfl rfl (TL.callD [0] [0] (znJ hM hl h1) ⟨rfl,rfl,rfl,trivial⟩ ⟨rfl,trivial⟩ zjS rfl rfl rfl rfl rfl (kL1 rfl trivial) (xmu rfl (xei rfl rfl (xei rfl rfl ?_))))))))
 refine xai rfl (xai rfl (dA (xL6 1 zad rfl rfl (xmi rfl (TL.callD [0] [0] (zgr hM hl) ⟨rfl,rfl,rfl,trivial⟩ ⟨rfl,trivial⟩ ziY rfl rfl rfl rfl rfl trivial (dA (xL6 1 zad rfl rfl (xmi rfl ?_))))))))
 refine TL.callD [0] [0] (zgr hM hl) ⟨rfl,rfl,rfl,trivial⟩ ⟨rfl,trivial⟩ ziY rfl rfl rfl rfl rfl trivial (dA (xmi rfl (xmi rfl (xai rfl (xai rfl (dR ?_))))))
 refine FQ.ret2 (v:=(.int _ _)) (x:=(.int _ _)) (Bs:=[A _]) [0] rfl rfl rfl rfl ⟨rfl,trivial⟩ ?_
 exact ⟨rfl,rfl⟩
theorem zox {S:Type} [MemLike S] {mt:TypeId} {mv:Value} {A:S→Assn} (hM:MemI Tryz.prog mt mv A) {l:Lay} (hl:l.Ok) {p:Pen} {σ:S} {x y:Int}:FnD Tryz.prog 160 [za8 l mt mv p,.int .i64 x,.int .i64 y] [A σ] (.bool (zfM l σ x y)) [A (znx l σ x y)]:=by
 refine Fn.enter (Tryz.func160) rfl rfl (fun w0 R=>?_)
 refine sA (xB 1 rfl (fun bk1=>(xaf rfl (dS (TC.draw [(0,true),(1,true),(2,true),(3,true),(4,true),(6,true),(7,true),(9,true),(10,true),(11,true),(12,true),(13,true),(15,true),(16,true),(5,false),(8,false),(14,false),(17,false),(18,true),(19,true)] [1] fc_m (by kernel_rfl) (xf 3 zbP rfl (xlc 1 zb3 rfl rfl (xf 0 zaT rfl (xL3 1 zaj rfl rfl ?_)))))))))
 refine xmi rfl (TL.ncI rfl rfl rfl (xmc rfl (xf 3 zbP rfl (xlc 1 zb3 rfl rfl (xf 0 zaT rfl (xL3 1 zaj rfl rfl (xmi rfl (TL.ncI rfl rfl rfl ?_))))))))
 refine xmc rfl (TL.callD [] [] (zch hl) ⟨rfl,rfl,rfl,trivial⟩ trivial zd2 rfl rfl rfl rfl rfl (kL1 rfl trivial) (TL.mload 0 hM rfl rfl rfl rfl rfl (kL1 rfl trivial) (TL.callD [] [] (zch hl) ⟨rfl,rfl,rfl,trivial⟩ trivial zd2 rfl rfl rfl rfl rfl (kL1 rfl trivial) (TL.mload 0 hM rfl rfl rfl rfl rfl (kL1 rfl trivial) (xai rfl (xai rfl (dA (xmi rfl ?_))))))))
 refine xmi rfl (TL.gtr rfl rfl rfl rfl (fun q1=>?_) (fun q1=>?_))
 refine xmt rfl (xo rfl (xo rfl (xo rfl (xo rfl (xo rfl (xo rfl (xo rfl (xo rfl ?_))))))))
 refine xpT rfl (xat rfl (dR ?_))
 refine FQ.ret1 (v:=(.bool true)) (Bs:=[A _]) [0] rfl rfl rfl ⟨rfl,trivial⟩ ?_
 first | exact ⟨(by unfold zfM; dsimp only; rw [if_pos q1]),rfl⟩ | exact ⟨(by unfold zfM; dsimp only; rw [if_neg q1,if_pos q2]),rfl⟩ | exact ⟨(by unfold zfM; dsimp only; rw [if_neg q1,if_neg q2]),rfl⟩
 refine xmf rfl (xmi rfl (xmi rfl (TL.eql rfl rfl rfl rfl (fun q2=>?_) (fun q2=>?_))))
 refine xmt rfl (xmi rfl (xmi rfl (TL.lssV rfl rfl rfl rfl (TL.pickT (.bool _) rfl rfl rfl rfl (TL.pickF (.bool _) rfl rfl rfl rfl (xab rfl (dR ?_)))))))
 refine FQ.ret1 (v:=(.bool _)) (Bs:=[A _]) [0] rfl rfl rfl ⟨rfl,trivial⟩ ?_
 first | exact ⟨(by unfold zfM; dsimp only; rw [if_pos q1]),rfl⟩ | exact ⟨(by unfold zfM; dsimp only; rw [if_neg q1,if_pos q2]),rfl⟩ | exact ⟨(by unfold zfM; dsimp only; rw [if_neg q1,if_neg q2]),rfl⟩
 refine xmf rfl (xo rfl (xo rfl (xo rfl (xpF rfl (xpF rfl (xaf rfl (dR ?_)))))))
 refine FQ.ret1 (v:=(.bool false)) (Bs:=[A _]) [0] rfl rfl rfl ⟨rfl,trivial⟩ ?_
 first | exact ⟨(by unfold zfM; dsimp only; rw [if_pos q1]),rfl⟩ | exact ⟨(by unfold zfM; dsimp only; rw [if_neg q1,if_pos q2]),rfl⟩ | exact ⟨(by unfold zfM; dsimp only; rw [if_neg q1,if_neg q2]),rfl⟩
theorem zn3 {S:Type} [MemLike S] {mt:TypeId} {mv:Value} {A:S→Assn} (hM:MemI Tryz.prog mt mv A) {l:Lay} (hl:l.Ok) {p:Pen} {σ:S} {a b r:Int} {k:Nat} {σ2:S} (h:merge l p k σ a b=some (r,σ2)):FnD Tryz.prog 149 [za8 l mt mv p,.int .i64 a,.int .i64 b] [A σ] (.int .i64 r) [A σ2]:=by
 induction k generalizing σ a b r σ2
 case zero=>simp [merge] at h
 case succ k ih =>
  refine Fn.enter (Tryz.func149) rfl rfl (fun w0 R=>?_)
  refine sA (xB 1 rfl (fun bk1=>(xai rfl (dS (TC.block (sA (xmi rfl (TL.eql rfl rfl rfl rfl (fun q1=>?_) (fun q1=>?_)))))))))
  refine xat rfl (dT rfl (xmi rfl (xai rfl (dR (TQ.blockRet (TQ.thenRet ?_))))))
  refine FQ.ret1 (v:=(.int _ _)) (Bs:=[A _]) [0] rfl rfl rfl ⟨rfl,trivial⟩ ?_
  rw [merge,if_pos q1] at h; cases h; exact ⟨rfl,rfl⟩
  refine xaf rfl (TL.done (TQ.then (TC.condF rfl (sA (xmi rfl (TL.eql rfl rfl rfl rfl (fun q2=>?_) (fun q2=>?_)))))))
  refine xat rfl (dT rfl (xmi rfl (xai rfl (dR (TQ.blockRet (TQ.thenRet ?_))))))
  refine FQ.ret1 (v:=(.int _ _)) (Bs:=[A _]) [0] rfl rfl rfl ⟨rfl,trivial⟩ ?_
  rw [merge,if_neg q1,if_pos q2] at h; cases h; exact ⟨rfl,rfl⟩
  refine xaf rfl (TL.done (TQ.then (TC.condF rfl (sA (xL6 1 zad rfl rfl (xmi rfl (xmi rfl (TL.callD [0] [0] (zox hM hl) ⟨rfl,rfl,rfl,trivial⟩ ⟨rfl,trivial⟩ zpU rfl rfl rfl rfl rfl trivial ?_))))))))
  refine TL.cases rfl (fun q3=>?_) (fun q3=>?_)
  refine xat rfl (TL.done (TQ.then (TC.condT rfl (TC.seq (TC.draw [(0,true),(1,true),(2,true),(3,true),(4,true),(6,true),(5,false),(7,false),(8,false)] [1] fc_m (by kernel_rfl) (xL6 1 zad rfl rfl (xmi rfl (xL6 1 zad rfl rfl ?_))))))))
  refine xL6 1 zad rfl rfl (xmi rfl (xmi rfl (TL.callD [0] [0] (zcU hM hl) ⟨rfl,rfl,rfl,trivial⟩ ⟨rfl,trivial⟩ zc5 rfl rfl rfl rfl rfl (kL1 rfl trivial) ?_)))
  rw [merge,if_neg q1,if_neg q2] at h
  dsimp only at h
  rw [if_pos q3] at h
  obtain ⟨⟨c,σ3⟩,h1,h9⟩:=Option.bind_eq_some_iff.1 h
  refine TL.callD [0] [0] (ih h1) ⟨rfl,rfl,rfl,trivial⟩ ⟨rfl,trivial⟩ zjT rfl rfl rfl rfl rfl (kL1 rfl trivial) (TL.callD [0] [0] (zj7 hM hl) ⟨rfl,rfl,rfl,rfl,trivial⟩ ⟨rfl,trivial⟩ zia rfl rfl rfl rfl rfl (kL1 rfl trivial) (dA (xmi rfl (xai rfl (dR (TQ.blockRet (TQ.thenRet ?_)))))))
  refine FQ.ret1 (v:=(.int _ _)) (Bs:=[A _]) [0] rfl rfl rfl ⟨rfl,trivial⟩ ?_
  cases h9; exact ⟨rfl,rfl⟩
  refine xaf rfl (TL.done (TQ.then (TC.condF rfl (TC.skip (TQ.inBlock (TQ.then (TC.seq (TC.draw [(0,true),(1,true),(2,true),(3,true),(4,true),(5,true),(6,false),(7,false),(8,false)] [1] fc_m (by kernel_rfl) ?_))))))))
  refine xL6 1 zad rfl rfl (xmi rfl (xL6 1 zad rfl rfl (xmi rfl (xL6 1 zad rfl rfl (xmi rfl (TL.callD [0] [0] (zcU hM hl) ⟨rfl,rfl,rfl,trivial⟩ ⟨rfl,trivial⟩ zc5 rfl rfl rfl rfl rfl (kL1 rfl trivial) ?_))))))
  rw [merge,if_neg q1,if_neg q2] at h
  dsimp only at h
  rw [if_neg (by rw [q3]; decide)] at h
  obtain ⟨⟨c,σ3⟩,h1,h9⟩:=Option.bind_eq_some_iff.1 h
  refine TL.callD [0] [0] (ih h1) ⟨rfl,rfl,rfl,trivial⟩ ⟨rfl,trivial⟩ zjT rfl rfl rfl rfl rfl (kL1 rfl trivial) (TL.callD [0] [0] (zj7 hM hl) ⟨rfl,rfl,rfl,rfl,trivial⟩ ⟨rfl,trivial⟩ zia rfl rfl rfl rfl rfl (kL1 rfl trivial) (dA (xmi rfl (xai rfl (dR ?_)))))
  refine FQ.ret1 (v:=(.int _ _)) (Bs:=[A _]) [0] rfl rfl rfl ⟨rfl,trivial⟩ ?_
  cases h9; exact ⟨rfl,rfl⟩
theorem zdp {S:Type} [MemLike S] {mt:TypeId} {mv:Value} {A:S→Assn} (hM:MemI Tryz.prog mt mv A) {l:Lay} (hl:l.Ok) {p:Pen} {σ:S} {a b r:Int} {k:Nat} {σ2:S} (h:zfb l p k σ a b=some (r,σ2)):FnD Tryz.prog 122 [za8 l mt mv p,.int .i64 a,.int .i64 b] [A σ] (.int .i64 r) [A σ2]:=by
 obtain ⟨⟨c,σ3⟩,h1,h9⟩:=Option.bind_eq_some_iff.1 h
 cases h9
 refine Fn.enter (Tryz.func122) rfl rfl (fun w0 R=>?_)
 refine sA (xB 1 rfl (fun bk1=>(xai rfl (dA (xL6 1 zad rfl rfl (xmi rfl (xmi rfl (TL.callD [0] [0] (zn3 hM hl h1) ⟨rfl,rfl,rfl,trivial⟩ ⟨rfl,trivial⟩ zjT rfl rfl rfl rfl rfl trivial (xai rfl ?_)))))))))
 refine dA (xL6 1 zad rfl rfl (xmi rfl (TL.callD [0] [0] (zgr hM hl) ⟨rfl,rfl,rfl,trivial⟩ ⟨rfl,trivial⟩ ziY rfl rfl rfl rfl rfl trivial (dA (xmi rfl (xai rfl (dR ?_)))))))
 refine FQ.ret1 (v:=(.int _ _)) (Bs:=[A _]) [0] rfl rfl rfl ⟨rfl,trivial⟩ ?_
 exact ⟨rfl,rfl⟩
theorem zmh {S:Type} [MemLike S] {mt:TypeId} {mv:Value} {A:S→Assn} (hM:MemI Tryz.prog mt mv A) {l:Lay} (hl:l.Ok) {p:Pen} {σ:S} {x m:Int} {k:Nat} {σ2:S} (h0:0≤m) (h:zg1 l k σ x m true=some σ2):FnD Tryz.prog 120 [za8 l mt mv p,.int .i64 x,.int .i64 m,.bool true] [A σ] (.tuple #[]) [A σ2]:=by
 unfold zg1 at h
 dsimp only [zhQ] at h
 simp only [if_true,Bool.false_eq_true,if_false] at h
 refine Fn.enter (Tryz.func120) rfl rfl (fun w0 R=>?_)
 refine sA (xB 1 rfl (fun bk1=>(dS (TC.draw [(0,true),(1,true),(3,true),(4,true),(2,false),(5,true),(6,true)] [1] fc_m (by kernel_rfl) (xL6 1 zad rfl rfl (xmi rfl (xmi rfl (TL.shl _ rfl rfl (by omega) rfl rfl rfl (TL.callD [0] [0] (zee hM hl) ⟨rfl,rfl,trivial⟩ ⟨rfl,trivial⟩ zfE rfl rfl rfl rfl rfl (kL1 rfl trivial) ?_)))))))))
 refine TL.andNot _ rfl rfl rfl rfl rfl (xai rfl (dB (xmt rfl (TL.done (TQ.then (TC.condT rfl (TC.region (xmi rfl ?_))))))))
 refine xmi rfl (TL.shl _ rfl rfl (by omega) rfl rfl rfl (TL.or _ rfl rfl rfl rfl rfl (xai rfl (dA (xL6 1 zad rfl rfl (xmi rfl (xmi rfl (TL.callD [0] [0] (ze6 hM hl) ⟨rfl,rfl,rfl,trivial⟩ ⟨rfl,trivial⟩ zgJ rfl rfl rfl rfl rfl trivial ?_))))))))
 refine dA (xL6 1 zad rfl rfl (xmi rfl (TL.callD [0] [0] (zdm hM hl) ⟨rfl,rfl,trivial⟩ ⟨rfl,trivial⟩ zfG rfl rfl rfl rfl rfl trivial (xai rfl (dK (TC.loopK (X:=Nat×S×Int) [4] [1] (fun y=>[(9,.int .i64 y.2.2)]) (fun y=>[(0,A y.2.1)]) (fun y=>zcJ l y.1 y.2.1 y.2.2=some σ2) (fun y=>y.1) ((k,_,_)) h ⟨rfl,trivial⟩ ⟨rfl,trivial⟩ (fun y hI=>?_)))))))
 obtain ⟨k,σ1,z⟩:=y
 rcases k with _ | k
 ·simp [zcJ] at hI
 dsimp only at hI
 refine TC.sub (env':=[(9,_),(4,_)]) (L':=[(0,_),(1,_)]) ⟨rfl,rfl,trivial⟩ ⟨rfl,rfl,trivial⟩ (sB (xmi rfl (TL.neq rfl rfl rfl rfl (fun q1=>?_) (fun q1=>?_))))
 refine TL.done (TQ.then (TC.condT rfl (TC.skip (TQ.then (TC.seq (TC.block (TC.draw [(0,true),(1,true),(2,true),(3,true),(4,false),(5,false)] [1] fc_m (by kernel_rfl) (xL6 1 zad rfl rfl ?_))))))))
 refine xmi rfl (xL6 1 zad rfl rfl (xmi rfl (TL.callD [0] [0] (zee hM hl) ⟨rfl,rfl,trivial⟩ ⟨rfl,trivial⟩ zfE rfl rfl rfl rfl rfl (kL1 rfl trivial) (TL.callD [0] [0] (ze6 hM hl) ⟨rfl,rfl,rfl,trivial⟩ ⟨rfl,trivial⟩ zgJ rfl rfl rfl rfl rfl (kL1 rfl trivial) (dI (xL6 1 zad rfl rfl (xmi rfl (TL.callD [0] [0] (zdm hM hl) ⟨rfl,rfl,trivial⟩ ⟨rfl,trivial⟩ zfG rfl rfl rfl rfl rfl trivial ?_))))))))
 refine xai rfl (TL.done (TQ.roundK ((k,_,_)) ⟨(by rw [zcJ,if_pos q1] at hI; exact hI),Nat.lt_succ_self _⟩ ⟨rfl,trivial⟩ ⟨rfl,trivial⟩ (kE1 rfl trivial) (kL1 rfl trivial)))
 refine TL.done (TQ.then (TC.condF rfl (TC.exit (TQ.thenExit (TQ.thenExit (TQ.blockHere ?_))))))
 refine FQ.end0 (Bs:=[A _]) [0] rfl rfl ⟨rfl,trivial⟩ ?_
 rw [zcJ,if_neg q1] at hI; cases hI; exact ⟨rfl,rfl⟩
theorem zk3 {S:Type} [MemLike S] {mt:TypeId} {mv:Value} {A:S→Assn} (hM:MemI Tryz.prog mt mv A) {l:Lay} (hl:l.Ok) {p:Pen} {σ:S} {x m:Int} {k:Nat} {σ2:S} (h0:0≤m) (h:zg1 l k σ x m false=some σ2):FnD Tryz.prog 120 [za8 l mt mv p,.int .i64 x,.int .i64 m,.bool false] [A σ] (.tuple #[]) [A σ2]:=by
 unfold zg1 at h
 dsimp only [zhQ] at h
 simp only [if_true,Bool.false_eq_true,if_false] at h
 refine Fn.enter (Tryz.func120) rfl rfl (fun w0 R=>?_)
 refine sA (xB 1 rfl (fun bk1=>(dS (TC.draw [(0,true),(1,true),(3,true),(4,true),(2,false),(5,true),(6,true)] [1] fc_m (by kernel_rfl) (xL6 1 zad rfl rfl (xmi rfl (xmi rfl (TL.shl _ rfl rfl (by omega) rfl rfl rfl (TL.callD [0] [0] (zee hM hl) ⟨rfl,rfl,trivial⟩ ⟨rfl,trivial⟩ zfE rfl rfl rfl rfl rfl (kL1 rfl trivial) ?_)))))))))
 refine TL.andNot _ rfl rfl rfl rfl rfl (xai rfl (dB (xmf rfl (dF rfl (xL6 1 zad rfl rfl (xmi rfl (xmi rfl (TL.callD [0] [0] (ze6 hM hl) ⟨rfl,rfl,rfl,trivial⟩ ⟨rfl,trivial⟩ zgJ rfl rfl rfl rfl rfl trivial ?_))))))))
 refine dA (xL6 1 zad rfl rfl (xmi rfl (TL.callD [0] [0] (zdm hM hl) ⟨rfl,rfl,trivial⟩ ⟨rfl,trivial⟩ zfG rfl rfl rfl rfl rfl trivial (xai rfl (dK (TC.loopK (X:=Nat×S×Int) [4] [1] (fun y=>[(9,.int .i64 y.2.2)]) (fun y=>[(0,A y.2.1)]) (fun y=>zcJ l y.1 y.2.1 y.2.2=some σ2) (fun y=>y.1) ((k,_,_)) h ⟨rfl,trivial⟩ ⟨rfl,trivial⟩ (fun y hI=>?_)))))))
 obtain ⟨k,σ1,z⟩:=y
 rcases k with _ | k
 ·simp [zcJ] at hI
 dsimp only at hI
 refine TC.sub (env':=[(9,_),(4,_)]) (L':=[(0,_),(1,_)]) ⟨rfl,rfl,trivial⟩ ⟨rfl,rfl,trivial⟩ (sB (xmi rfl (TL.neq rfl rfl rfl rfl (fun q1=>?_) (fun q1=>?_))))
 refine TL.done (TQ.then (TC.condT rfl (TC.skip (TQ.then (TC.seq (TC.block (TC.draw [(0,true),(1,true),(2,true),(3,true),(4,false),(5,false)] [1] fc_m (by kernel_rfl) (xL6 1 zad rfl rfl ?_))))))))
 refine xmi rfl (xL6 1 zad rfl rfl (xmi rfl (TL.callD [0] [0] (zee hM hl) ⟨rfl,rfl,trivial⟩ ⟨rfl,trivial⟩ zfE rfl rfl rfl rfl rfl (kL1 rfl trivial) (TL.callD [0] [0] (ze6 hM hl) ⟨rfl,rfl,rfl,trivial⟩ ⟨rfl,trivial⟩ zgJ rfl rfl rfl rfl rfl (kL1 rfl trivial) (dI (xL6 1 zad rfl rfl (xmi rfl (TL.callD [0] [0] (zdm hM hl) ⟨rfl,rfl,trivial⟩ ⟨rfl,trivial⟩ zfG rfl rfl rfl rfl rfl trivial ?_))))))))
 refine xai rfl (TL.done (TQ.roundK ((k,_,_)) ⟨(by rw [zcJ,if_pos q1] at hI; exact hI),Nat.lt_succ_self _⟩ ⟨rfl,trivial⟩ ⟨rfl,trivial⟩ (kE1 rfl trivial) (kL1 rfl trivial)))
 refine TL.done (TQ.then (TC.condF rfl (TC.exit (TQ.thenExit (TQ.thenExit (TQ.blockHere ?_))))))
 refine FQ.end0 (Bs:=[A _]) [0] rfl rfl ⟨rfl,trivial⟩ ?_
 rw [zcJ,if_neg q1] at hI; cases hI; exact ⟨rfl,rfl⟩
theorem zmi {S:Type} [MemLike S] {mt:TypeId} {mv:Value} {A:S→Assn} (hM:MemI Tryz.prog mt mv A) {l:Lay} (hl:l.Ok) {p:Pen} {σ:S} {x m:Int} {on:Bool} {k:Nat} {σ2:S} (h0:0≤m) (h:zg1 l k σ x m on=some σ2):FnD Tryz.prog 120 [za8 l mt mv p,.int .i64 x,.int .i64 m,.bool on] [A σ] (.tuple #[]) [A σ2]:=by
 cases on
 ·exact zk3 hM hl h0 h
 ·exact zmh hM hl h0 h
theorem ziI {S:Type} [MemLike S] {mt:TypeId} {mv:Value} {A:S→Assn} (hM:MemI Tryz.prog mt mv A) {l:Lay} (hl:l.Ok) {p:Pen} {σ:S} {x m:Int} (h0:0≤m):FnD Tryz.prog 140 [za8 l mt mv p,.int .i64 x,.int .i64 m] [A σ] (.bool (zhf l σ x m)) [A (zgp l σ x)]:=by
 refine Fn.enter (Tryz.func140) rfl rfl (fun w0 R=>?_)
 refine sA (xB 1 rfl (fun bk1=>(xaf rfl (dA (xL6 1 zad rfl rfl (xmi rfl (TL.callD [0] [0] (zee hM hl) ⟨rfl,rfl,trivial⟩ ⟨rfl,trivial⟩ zfE rfl rfl rfl rfl rfl trivial (xmi rfl (TL.shr _ rfl rfl (by omega) rfl rfl rfl ?_)))))))))
 refine TL.and _ rfl rfl rfl rfl rfl (TL.eqlV rfl rfl rfl rfl (xab rfl (dR ?_)))
 refine FQ.ret1 (v:=(.bool _)) (Bs:=[A _]) [0] rfl rfl rfl ⟨rfl,trivial⟩ ?_
 exact ⟨rfl,rfl⟩
theorem zoK {S:Type} [MemLike S] {mt:TypeId} {mv:Value} {A:S→Assn} (hM:MemI Tryz.prog mt mv A) {l:Lay} (hl:l.Ok) {p:Pen} {σ:S} {x m:Int} (h0:0≤m):FnD Tryz.prog 138 [za8 l mt mv p,.int .i64 x,.int .i64 m] [A σ] (.bool (has l σ x m)) [A (zcE l σ x)]:=by
 refine Fn.enter (Tryz.func138) rfl rfl (fun w0 R=>?_)
 refine sA (xB 1 rfl (fun bk1=>(xaf rfl (dA (xL6 1 zad rfl rfl (xmi rfl (TL.callD [0] [0] (zgb hM hl) ⟨rfl,rfl,trivial⟩ ⟨rfl,trivial⟩ zgK rfl rfl rfl rfl rfl trivial (TL.shr _ rfl rfl (by decide) rfl rfl rfl (xmi rfl ?_)))))))))
 refine TL.shr _ rfl rfl (by omega) rfl rfl rfl (TL.and _ rfl rfl rfl rfl rfl (TL.eqlV rfl rfl rfl rfl (xab rfl (dR ?_))))
 refine FQ.ret1 (v:=(.bool _)) (Bs:=[A _]) [0] rfl rfl rfl ⟨rfl,trivial⟩ ?_
 exact ⟨rfl,rfl⟩
theorem zob {S:Type} [MemLike S] {mt:TypeId} {mv:Value} {A:S→Assn} (hM:MemI Tryz.prog mt mv A) {l:Lay} (hl:l.Ok) {p:Pen} {σ:S} {x m r:Int} {k:Nat} {σ2:S} (h0:0≤m) (h:first l k σ x m=some (r,σ2)):FnD Tryz.prog 104 [za8 l mt mv p,.int .i64 x,.int .i64 m] [A σ] (.int .i64 r) [A σ2]:=by
 unfold first at h
 refine Fn.enter (Tryz.func104) rfl rfl (fun w0 R=>?_)
 refine sA (xB 1 rfl (fun bk1=>(xai rfl (dA (xmi rfl (xai rfl (dB (xL6 1 zad rfl rfl (xmi rfl ?_)))))))))
 refine xmi rfl (TL.callD [0] [0] (zoK hM hl h0) ⟨rfl,rfl,rfl,trivial⟩ ⟨rfl,trivial⟩ zmV rfl rfl rfl rfl rfl trivial (TL.cases rfl (fun q1=>?_) (fun q1=>?_)))
 refine xnt rfl (TL.done (TQ.then (TC.condF rfl (TC.skip (TQ.then (TC.block (TC.loopK (X:=Nat×S×Int) [2,3] [1] (fun y=>[(7,.int .i64 y.2.2)]) (fun y=>[(0,A y.2.1)]) (fun y=>zdY l m y.1 y.2.1 y.2.2=some (r,σ2)) (fun y=>y.1) ((k,_,x)) (by rw [if_pos q1] at h; exact h) ⟨rfl,trivial⟩ ⟨rfl,trivial⟩ (fun y hI=>?_))))))))
 obtain ⟨k,σ1,z⟩:=y
 rcases k with _ | k
 ·simp [zdY] at hI
 dsimp only at hI
 refine TC.sub (env':=[(7,_),(2,_),(3,_)]) (L':=[(0,_),(1,_)]) ⟨rfl,rfl,rfl,trivial⟩ ⟨rfl,rfl,trivial⟩ (TC.block (sA (xL6 1 zad rfl rfl (xmi rfl (TL.callD [0] [0] (zcU hM hl) ⟨rfl,rfl,rfl,trivial⟩ ⟨rfl,trivial⟩ zc5 rfl rfl rfl rfl rfl trivial (xai rfl (dK (sA ?_))))))))
 refine xL6 1 zad rfl rfl (xmi rfl (xmi rfl (TL.callD [0] [0] (zoK hM hl h0) ⟨rfl,rfl,rfl,trivial⟩ ⟨rfl,trivial⟩ zmV rfl rfl rfl rfl rfl trivial (TL.cases rfl (fun q2=>?_) (fun q2=>?_)))))
 refine xat rfl (TL.done (TQ.then (TC.condT rfl (TC.region (xmi rfl (xai rfl (TL.done (TQ.inBlock ?_))))))))
 refine TQ.inBlock (TQ.roundK ((k,_,_)) ⟨(by rw [zdY] at hI; dsimp only at hI; rw [if_pos q2] at hI; exact hI),Nat.lt_succ_self _⟩ ⟨rfl,trivial⟩ ⟨rfl,trivial⟩ (kE2 rfl rfl trivial) (kL1 rfl trivial))
 refine xaf rfl (TL.done (TQ.then (TC.condF rfl (sA (xL6 1 zad rfl rfl (xmi rfl (xmi rfl (TL.callD [0] [0] (ziI hM hl h0) ⟨rfl,rfl,rfl,trivial⟩ ⟨rfl,trivial⟩ zmU rfl rfl rfl rfl rfl trivial ?_))))))))
 refine TL.cases rfl (fun q3=>?_) (fun q3=>?_)
 refine xat rfl (dT rfl (xmi rfl (xai rfl (dR (TQ.blockRet (TQ.blockRet (TQ.thenRet (TQ.blockRet ?_))))))))
 refine FQ.ret1 (v:=(.int _ _)) (Bs:=[A _]) [0] rfl rfl rfl ⟨rfl,trivial⟩ ?_
 rw [zdY] at hI; dsimp only at hI; rw [if_neg (by rw [q2]; decide),if_pos q3] at hI; cases hI; exact ⟨rfl,rfl⟩
 refine xaf rfl (TL.done (TQ.then (TC.condF rfl (TC.region (xL6 1 zad rfl rfl (xmi rfl (TL.callD [0] [0] (zcU hM hl) ⟨rfl,rfl,rfl,trivial⟩ ⟨rfl,trivial⟩ zc5 rfl rfl rfl rfl rfl trivial (xai rfl ?_))))))))
 refine TL.done (TQ.inBlock (TQ.inBlock (TQ.roundK ((k,_,_)) ⟨(by rw [zdY] at hI; dsimp only at hI; rw [if_neg (by rw [q2]; decide),if_neg (by rw [q3]; decide)] at hI; exact hI),Nat.lt_succ_self _⟩ ⟨rfl,trivial⟩ ⟨rfl,trivial⟩ (kE2 rfl rfl trivial) (kL1 rfl trivial))))
 refine xnf rfl (dT rfl (xai rfl (dRR ?_)))
 refine FQ.ret1 (v:=(.int _ _)) (Bs:=[A _]) [0] rfl rfl rfl ⟨rfl,trivial⟩ ?_
 rw [if_neg (by rw [q1]; decide)] at h; cases h; exact ⟨rfl,rfl⟩
theorem zkP {S:Type} [MemLike S] {mt:TypeId} {mv:Value} {A:S→Assn} (hM:MemI Tryz.prog mt mv A) {l:Lay} (hl:l.Ok) {p:Pen} {σ:S} {i u r:Int} {k:Nat} {σ2:S} (h:zht l p k σ i u=some (r,σ2)):FnD Tryz.prog 123 [za8 l mt mv p,.int .i64 i,.int .i64 u] [A σ] (.int .i64 r) [A σ2]:=by
 unfold zht at h
 dsimp only at h
 obtain ⟨⟨a,σa⟩,h1,h⟩:=Option.bind_eq_some_iff.1 h
 obtain ⟨⟨j,σb⟩,h2,h⟩:=Option.bind_eq_some_iff.1 h
 obtain ⟨⟨s,σc⟩,h3,h4⟩:=Option.bind_eq_some_iff.1 h
 dsimp only at h1 h2 h3 h4
 refine Fn.enter (Tryz.func123) rfl rfl (fun w0 R=>?_)
 refine sA (xB 1 rfl (fun bk1=>(xai rfl (dA (xf 0 zaq rfl (xf 0 zaT rfl (xL3 1 zaj rfl rfl (xmi rfl (xmi rfl ?_)))))))))
 refine TL.callD [] [] (zdl hl) ⟨rfl,rfl,rfl,trivial⟩ trivial zhl rfl rfl rfl rfl rfl trivial (xai rfl (dS (TC.draw [(0,true),(1,true),(2,true),(3,true),(4,true),(6,true),(7,true),(8,true),(5,false),(9,false),(10,false),(11,true),(12,true),(13,true),(14,true),(15,true)] [1] fc_m (by kernel_rfl) (xf 0 zaq rfl (xL6 1 zad rfl rfl (xf 0 zaq rfl (xL6 1 zad rfl rfl (xmi rfl ?_))))))))
 refine xf 0 zaq rfl (xL6 1 zad rfl rfl (xmi rfl (TL.callD [0] [0] (zeH hM hl h1) ⟨rfl,rfl,trivial⟩ ⟨rfl,trivial⟩ zgI rfl rfl rfl rfl rfl (kL1 rfl trivial) (TL.callD [0] [0] (zhV hM hl h2) ⟨rfl,rfl,trivial⟩ ⟨rfl,trivial⟩ zjW rfl rfl rfl rfl rfl (kL1 rfl trivial) (TL.callD [0] [0] (zcb hM hl h3) ⟨rfl,rfl,rfl,trivial⟩ ⟨rfl,trivial⟩ zdE rfl rfl rfl rfl rfl (kL1 rfl trivial) (xmu rfl (xei rfl rfl (xei rfl rfl ?_))))))))
 refine xai rfl (xai rfl (dA (xf 0 zaq rfl (xL6 1 zad rfl rfl (xmi rfl (xmi rfl (TL.callD [0] [0] (zdp hM hl h4) ⟨rfl,rfl,rfl,trivial⟩ ⟨rfl,trivial⟩ zfH rfl rfl rfl rfl rfl trivial (xai rfl ?_))))))))
 refine dR ?_
 refine FQ.ret1 (v:=(.int _ _)) (Bs:=[A _]) [0] rfl rfl rfl ⟨rfl,trivial⟩ ?_
 exact ⟨rfl,rfl⟩
theorem zlL {S:Type} [MemLike S] {mt:TypeId} {mv:Value} {A:S→Assn} (hM:MemI Tryz.prog mt mv A) {l:Lay} (hl:l.Ok) {p:Pen} {σ:S} {i u v:Int} {b:Bool} {k:Nat} {σ2:S} (h:same l k σ i u v=some (b,σ2)):FnD Tryz.prog 30 [za8 l mt mv p,.int .i64 i,.int .i64 u,.int .i64 v] [A σ] (.bool b) [A σ2]:=by
 unfold same at h
 obtain ⟨⟨a,σa⟩,h1,h⟩:=Option.bind_eq_some_iff.1 h
 obtain ⟨⟨c,σb⟩,h2,h⟩:=Option.bind_eq_some_iff.1 h
 dsimp only at h1 h2 h
 cases h
 refine Fn.enter (Tryz.func30) rfl rfl (fun w0 R=>?_)
 refine sA (xB 1 rfl (fun bk1=>(xaf rfl (dS (TC.draw [(0,true),(1,true),(2,true),(3,true),(4,true),(5,true),(6,true),(9,true),(10,true),(11,true),(12,true),(13,true),(14,true),(15,true),(7,false),(8,false),(16,false),(17,false),(18,true),(19,true)] [1] fc_m (by kernel_rfl) (xf 0 zaq rfl (xL6 1 zad rfl rfl (xf 0 zaq rfl (xf 0 zaT rfl ?_)))))))))
 refine xL3 1 zaj rfl rfl (xmi rfl (xmi rfl (xf 0 zaq rfl (xL6 1 zad rfl rfl (xf 0 zaq rfl (xf 0 zaT rfl (xL3 1 zaj rfl rfl (xmi rfl ?_))))))))
 refine xmi rfl (TL.callD [] [] (zdl hl) ⟨rfl,rfl,rfl,trivial⟩ trivial zhl rfl rfl rfl rfl rfl (kL1 rfl trivial) (TL.callD [0] [0] (zeH hM hl h1) ⟨rfl,rfl,trivial⟩ ⟨rfl,trivial⟩ zgI rfl rfl rfl rfl rfl (kL1 rfl trivial) (TL.callD [] [] (zdl hl) ⟨rfl,rfl,rfl,trivial⟩ trivial zhl rfl rfl rfl rfl rfl (kL1 rfl trivial) (TL.callD [0] [0] (zeH hM hl h2) ⟨rfl,rfl,trivial⟩ ⟨rfl,trivial⟩ zgI rfl rfl rfl rfl rfl (kL1 rfl trivial) (TL.eqlV rfl rfl rfl rfl (xab rfl (dR ?_)))))))
 refine FQ.ret1 (v:=(.bool _)) (Bs:=[A _]) [0] rfl rfl rfl ⟨rfl,trivial⟩ ?_
 exact ⟨rfl,rfl⟩
theorem zkL {S:Type} [MemLike S] {mt:TypeId} {mv:Value} {A:S→Assn} (hM:MemI Tryz.prog mt mv A) {l:Lay} (hl:l.Ok) {p:Pen} {σ:S} {i u r:Int} {k:Nat} {σ2:S} (h:count l k σ i u=some (r,σ2)):FnD Tryz.prog 76 [za8 l mt mv p,.int .i64 i,.int .i64 u] [A σ] (.int .i64 r) [A σ2]:=by
 unfold count at h
 obtain ⟨⟨a,σa⟩,h1,h⟩:=Option.bind_eq_some_iff.1 h
 dsimp only at h1 h
 cases h
 refine Fn.enter (Tryz.func76) rfl rfl (fun w0 R=>?_)
 refine sA (xB 1 rfl (fun bk1=>(xai rfl (dS (TC.draw [(0,true),(1,true),(2,true),(3,true),(4,true),(5,true),(6,true),(7,true),(8,true),(9,false),(10,false),(11,false),(12,true)] [1] fc_m (by kernel_rfl) (xf 0 zaq rfl (xL6 1 zad rfl rfl (xf 0 zaq rfl (xL6 1 zad rfl rfl ?_)))))))))
 refine xf 0 zaq rfl (xf 0 zaT rfl (xL3 1 zaj rfl rfl (xmi rfl (xmi rfl (TL.callD [] [] (zdl hl) ⟨rfl,rfl,rfl,trivial⟩ trivial zhl rfl rfl rfl rfl rfl (kL1 rfl trivial) (TL.callD [0] [0] (zeH hM hl h1) ⟨rfl,rfl,trivial⟩ ⟨rfl,trivial⟩ zgI rfl rfl rfl rfl rfl (kL1 rfl trivial) (TL.callD [0] [0] (znE hM hl) ⟨rfl,rfl,trivial⟩ ⟨rfl,trivial⟩ zp4 rfl rfl rfl rfl rfl (kL1 rfl trivial) (xai rfl ?_))))))))
 refine dR ?_
 refine FQ.ret1 (v:=(.int _ _)) (Bs:=[A _]) [0] rfl rfl rfl ⟨rfl,trivial⟩ ?_
 exact ⟨rfl,rfl⟩
theorem zkQ {mt:TypeId} {mv:Value} {l:Lay} (hl:l.Ok) {p:Pen} {i s:Int}:FnD Tryz.prog 80 [za8 l mt mv p,.int .i64 i,.int .i64 s] [] (.tuple #[.int .i64 (l.arc s i 0),.int .i64 (l.arc s i 1)]) []:=by
 refine Fn.enter (Tryz.func80) rfl rfl (fun w0 R=>?_)
 refine sA (xB 0 rfl (fun bk0=>(xai rfl (xai rfl (dS (TC.draw [(0,true),(1,true),(2,true),(3,true),(4,true),(6,true),(7,true),(8,true),(9,true),(10,true),(5,false),(11,false),(12,true),(13,true)] [0] fc_m (by kernel_rfl) (xf 0 zaq rfl (xf 0 zaT rfl (xL3 0 zaj rfl rfl ?_)))))))))
 refine xmi rfl (xmi rfl (xf 0 zaq rfl (xf 0 zaT rfl (xL3 0 zaj rfl rfl (xmi rfl (xmi rfl (TL.callD [] [] (znr hl) ⟨rfl,rfl,rfl,rfl,trivial⟩ trivial zjX rfl rfl rfl rfl rfl (kL1 rfl trivial) (TL.callD [] [] (znr hl) ⟨rfl,rfl,rfl,rfl,trivial⟩ trivial zjX rfl rfl rfl rfl rfl (kL1 rfl trivial) ?_))))))))
 refine xai rfl (xai rfl (dR ?_))
 refine FQ.ret2 (v:=(.int _ _)) (x:=(.int _ _)) (Bs:=[]) [] rfl rfl rfl rfl trivial ?_
 exact ⟨rfl,rfl⟩
theorem zmn {S:Type} [MemLike S] {mt:TypeId} {mv:Value} {A:S→Assn} (hM:MemI Tryz.prog mt mv A) {l:Lay} (hl:l.Ok) {p:Pen} {σ:S} {i s u v r:Int} {k:Nat} {σ2:S} (h:link l p k σ i s u v=some (r,σ2)):FnD Tryz.prog 78 [za8 l mt mv p,.int .i64 i,.int .i64 s,.int .i64 u,.int .i64 v] [A σ] (.int .i64 r) [A σ2]:=by
 unfold link at h
 obtain ⟨⟨a,σa⟩,h1,h⟩:=Option.bind_eq_some_iff.1 h
 obtain ⟨⟨x,σb⟩,h2,h⟩:=Option.bind_eq_some_iff.1 h
 obtain ⟨⟨b,σc⟩,h3,h⟩:=Option.bind_eq_some_iff.1 h
 obtain ⟨⟨y,σd⟩,h4,h5⟩:=Option.bind_eq_some_iff.1 h
 dsimp only at h1 h2 h3 h4 h5
 refine Fn.enter (Tryz.func78) rfl rfl (fun w0 R=>?_)
 refine sA (xB 1 rfl (fun bk1=>(xai rfl (dA (xL6 1 zbQ rfl rfl (xmi rfl (xmi rfl (TL.callD [] [] (zkQ hl) ⟨rfl,rfl,rfl,trivial⟩ trivial zo1 rfl rfl rfl rfl rfl trivial (xmu rfl ?_)))))))))
 refine xei rfl rfl (xei rfl rfl (xai rfl (xai rfl (dS (TC.draw [(0,true),(1,true),(2,true),(3,true),(4,true),(6,true),(5,false),(7,false),(8,true)] [1] fc_m (by kernel_rfl) (xf 0 zaq rfl (xL6 1 zad rfl rfl (xL6 1 zbQ rfl rfl ?_))))))))
 refine xmi rfl (xmi rfl (xmi rfl (TL.callD [0] [0] (zkP hM hl h1) ⟨rfl,rfl,rfl,trivial⟩ ⟨rfl,trivial⟩ zm1 rfl rfl rfl rfl rfl (kL1 rfl trivial) (TL.callD [0] [0] (zdp hM hl h2) ⟨rfl,rfl,rfl,trivial⟩ ⟨rfl,trivial⟩ zfH rfl rfl rfl rfl rfl (kL1 rfl trivial) (xai rfl (dS (TC.draw [(0,true),(1,true),(2,true),(3,true),(4,true),(5,true),(6,false),(7,false),(8,true)] [1] fc_m (by kernel_rfl) (xf 0 zaq rfl ?_))))))))
 refine xL6 1 zad rfl rfl (xmi rfl (xL6 1 zbQ rfl rfl (xmi rfl (xmi rfl (TL.callD [0] [0] (zkP hM hl h3) ⟨rfl,rfl,rfl,trivial⟩ ⟨rfl,trivial⟩ zm1 rfl rfl rfl rfl rfl (kL1 rfl trivial) (TL.callD [0] [0] (zdp hM hl h4) ⟨rfl,rfl,rfl,trivial⟩ ⟨rfl,trivial⟩ zfH rfl rfl rfl rfl rfl (kL1 rfl trivial) (xai rfl (dA ?_))))))))
 refine xf 0 zaq rfl (xL6 1 zad rfl rfl (xmi rfl (xmi rfl (TL.callD [0] [0] (zdp hM hl h5) ⟨rfl,rfl,rfl,trivial⟩ ⟨rfl,trivial⟩ zfH rfl rfl rfl rfl rfl trivial (xai rfl (dR ?_))))))
 refine FQ.ret1 (v:=(.int _ _)) (Bs:=[A _]) [0] rfl rfl rfl ⟨rfl,trivial⟩ ?_
 exact ⟨rfl,rfl⟩
theorem zrw {S:Type} [MemLike S] {mt:TypeId} {mv:Value} {A:S→Assn} (hM:MemI Tryz.prog mt mv A) {l:Lay} (hl:l.Ok) {p:Pen} {σ:S} {i s:Int} {r:Int×Int} {k:Nat} {σ2:S} (h:cut l p k σ i s=some (r,σ2)):FnD Tryz.prog 79 [za8 l mt mv p,.int .i64 i,.int .i64 s] [A σ] (.tuple #[.int .i64 r.1,.int .i64 r.2]) [A σ2]:=by
 unfold cut at h
 dsimp only at h
 obtain ⟨⟨i0,σa⟩,h1,h⟩:=Option.bind_eq_some_iff.1 h
 obtain ⟨⟨j0,σb⟩,h2,h⟩:=Option.bind_eq_some_iff.1 h
 obtain ⟨⟨rt,σc⟩,h3,h⟩:=Option.bind_eq_some_iff.1 h
 obtain ⟨⟨s1,σd⟩,h4,h⟩:=Option.bind_eq_some_iff.1 h
 obtain ⟨⟨s2,σe⟩,h5,h⟩:=Option.bind_eq_some_iff.1 h
 obtain ⟨⟨s3,σf⟩,h6,h⟩:=Option.bind_eq_some_iff.1 h
 obtain ⟨⟨s4,σg⟩,h7,h⟩:=Option.bind_eq_some_iff.1 h
 obtain ⟨⟨m,σh⟩,h8,h9⟩:=Option.bind_eq_some_iff.1 h
 dsimp only at h1 h2 h3 h4 h5 h6 h7 h8 h9
 cases h9
 refine Fn.enter (Tryz.func79) rfl rfl (fun w0 R=>?_)
 refine sA (xB 1 rfl (fun bk1=>(xai rfl (xai rfl (dA (xL6 1 zbQ rfl rfl (xmi rfl (xmi rfl (TL.callD [] [] (zkQ hl) ⟨rfl,rfl,rfl,trivial⟩ trivial zo1 rfl rfl rfl rfl rfl trivial ?_)))))))))
 refine xmu rfl (xei rfl rfl (xei rfl rfl (xai rfl (xai rfl (dS (TC.draw [(0,true),(1,true),(2,true),(4,true),(5,true),(6,true),(3,false),(7,false),(8,true),(9,true)] [1] fc_m (by kernel_rfl) (xf 0 zaq rfl (xL6 1 zad rfl rfl ?_))))))))
 refine xmi rfl (xf 0 zaq rfl (xL6 1 zad rfl rfl (xmi rfl (TL.callD [0] [0] (zhV hM hl h1) ⟨rfl,rfl,trivial⟩ ⟨rfl,trivial⟩ zjW rfl rfl rfl rfl rfl (kL1 rfl trivial) (TL.callD [0] [0] (zhV hM hl h2) ⟨rfl,rfl,trivial⟩ ⟨rfl,trivial⟩ zjW rfl rfl rfl rfl rfl (kL1 rfl trivial) (xai rfl (xai rfl (dB ?_))))))))
 refine xmi rfl (xmi rfl (TL.gtr rfl rfl rfl rfl (fun q1=>?_) (fun q1=>?_)))
 refine TL.done (TQ.then (TC.condT rfl (TC.region (xmi rfl (xmi rfl (xai rfl (xai rfl (dS ?_))))))))
 refine TC.draw [(0,true),(1,true),(2,true),(3,true),(4,true),(6,true),(5,false),(7,false),(8,true),(9,true),(10,true),(11,true),(12,true)] [1] fc_m (by kernel_rfl) (xf 0 zaq rfl (xL6 1 zad rfl rfl (xf 0 zaq rfl (xL6 1 zad rfl rfl (xmi rfl (xmi rfl (TL.callD [0] [0] (zeH hM hl h3) ⟨rfl,rfl,trivial⟩ ⟨rfl,trivial⟩ zgI rfl rfl rfl rfl rfl (kL1 rfl trivial) (TL.callD [0] [0] (zcb hM hl (by rw [if_pos q1] at h4; exact h4)) ⟨rfl,rfl,rfl,trivial⟩ ⟨rfl,trivial⟩ zdE rfl rfl rfl rfl rfl (kL1 rfl trivial) ?_))))))))
 refine xmu rfl (xei rfl rfl (xei rfl rfl (xai rfl (xai rfl (dA (xf 0 zaq rfl (xL6 1 zad rfl rfl (xmi rfl ?_))))))))
 refine TL.callD [0] [0] (zcb hM hl h5) ⟨rfl,rfl,rfl,trivial⟩ ⟨rfl,trivial⟩ zdE rfl rfl rfl rfl rfl trivial (xmu rfl (xei rfl rfl (xei rfl rfl (xai rfl (dA (xf 0 zaq rfl (xL6 1 zad rfl rfl (xmi rfl ?_))))))))
 refine xmi rfl (TL.callD [0] [0] (zcb hM hl (by rw [if_pos q1] at h6; exact h6)) ⟨rfl,rfl,rfl,trivial⟩ ⟨rfl,trivial⟩ zdE rfl rfl rfl rfl rfl trivial (xmu rfl (xei rfl rfl (xei rfl rfl (xai rfl (xai rfl (dA (xf 0 zaq rfl ?_))))))))
 refine xL6 1 zad rfl rfl (xmi rfl (TL.callD [0] [0] (zcb hM hl h7) ⟨rfl,rfl,rfl,trivial⟩ ⟨rfl,trivial⟩ zdE rfl rfl rfl rfl rfl trivial (xmu rfl (xei rfl rfl (xei rfl rfl (xai rfl (dA (xf 0 zaq rfl ?_))))))))
 refine xL6 1 zad rfl rfl (xmi rfl (TL.callD [0] [0] (zdi hM hl) ⟨rfl,rfl,trivial⟩ ⟨rfl,trivial⟩ zfV rfl rfl rfl rfl rfl trivial (dA (xf 0 zaq rfl (xL6 1 zad rfl rfl (xmi rfl (TL.callD [0] [0] (zdi hM hl) ⟨rfl,rfl,trivial⟩ ⟨rfl,trivial⟩ zfV rfl rfl rfl rfl rfl trivial (dA ?_))))))))
 refine xmi rfl (xf 0 zaq rfl (xL6 1 zad rfl rfl (xmi rfl (xmi rfl (TL.callD [0] [0] (zdp hM hl h8) ⟨rfl,rfl,rfl,trivial⟩ ⟨rfl,trivial⟩ zfH rfl rfl rfl rfl rfl trivial (xai rfl (xai rfl (dR ?_))))))))
 refine FQ.ret2 (v:=(.int _ _)) (x:=(.int _ _)) (Bs:=[A _]) [0] rfl rfl rfl rfl ⟨rfl,trivial⟩ ?_
 exact ⟨rfl,rfl⟩
 refine TL.done (TQ.then (TC.condF rfl (TC.skip (TQ.then (TC.seq (TC.draw [(0,true),(1,true),(2,true),(3,true),(4,true),(6,true),(5,false),(7,false),(8,true),(9,true),(10,true),(11,true),(12,true)] [1] fc_m (by kernel_rfl) (xf 0 zaq rfl (xL6 1 zad rfl rfl ?_))))))))
 refine xf 0 zaq rfl (xL6 1 zad rfl rfl (xmi rfl (xmi rfl (TL.callD [0] [0] (zeH hM hl h3) ⟨rfl,rfl,trivial⟩ ⟨rfl,trivial⟩ zgI rfl rfl rfl rfl rfl (kL1 rfl trivial) (TL.callD [0] [0] (zcb hM hl (by rw [if_neg q1] at h4; exact h4)) ⟨rfl,rfl,rfl,trivial⟩ ⟨rfl,trivial⟩ zdE rfl rfl rfl rfl rfl (kL1 rfl trivial) (xmu rfl (xei rfl rfl (xei rfl rfl ?_))))))))
 refine xai rfl (xai rfl (dA (xf 0 zaq rfl (xL6 1 zad rfl rfl (xmi rfl (TL.callD [0] [0] (zcb hM hl h5) ⟨rfl,rfl,rfl,trivial⟩ ⟨rfl,trivial⟩ zdE rfl rfl rfl rfl rfl trivial (xmu rfl (xei rfl rfl ?_))))))))
 refine xei rfl rfl (xai rfl (dA (xf 0 zaq rfl (xL6 1 zad rfl rfl (xmi rfl (xmi rfl (TL.callD [0] [0] (zcb hM hl (by rw [if_neg q1] at h6; exact h6)) ⟨rfl,rfl,rfl,trivial⟩ ⟨rfl,trivial⟩ zdE rfl rfl rfl rfl rfl trivial (xmu rfl ?_))))))))
 refine xei rfl rfl (xei rfl rfl (xai rfl (xai rfl (dA (xf 0 zaq rfl (xL6 1 zad rfl rfl (xmi rfl (TL.callD [0] [0] (zcb hM hl h7) ⟨rfl,rfl,rfl,trivial⟩ ⟨rfl,trivial⟩ zdE rfl rfl rfl rfl rfl trivial ?_))))))))
 refine xmu rfl (xei rfl rfl (xei rfl rfl (xai rfl (dA (xf 0 zaq rfl (xL6 1 zad rfl rfl (xmi rfl (TL.callD [0] [0] (zdi hM hl) ⟨rfl,rfl,trivial⟩ ⟨rfl,trivial⟩ zfV rfl rfl rfl rfl rfl trivial ?_))))))))
 refine dA (xf 0 zaq rfl (xL6 1 zad rfl rfl (xmi rfl (TL.callD [0] [0] (zdi hM hl) ⟨rfl,rfl,trivial⟩ ⟨rfl,trivial⟩ zfV rfl rfl rfl rfl rfl trivial (dA (xmi rfl (xf 0 zaq rfl (xL6 1 zad rfl rfl ?_))))))))
 refine xmi rfl (xmi rfl (TL.callD [0] [0] (zdp hM hl h8) ⟨rfl,rfl,rfl,trivial⟩ ⟨rfl,trivial⟩ zfH rfl rfl rfl rfl rfl trivial (xai rfl (xai rfl (dR ?_)))))
 refine FQ.ret2 (v:=(.int _ _)) (x:=(.int _ _)) (Bs:=[A _]) [0] rfl rfl rfl rfl ⟨rfl,trivial⟩ ?_
 exact ⟨rfl,rfl⟩
theorem zpc {b:Bool}:FnD Tryz.prog 128 [.bool b] [] (.int .u64 (bit b)) []:=by
 refine Fn.enter (Tryz.func128) rfl rfl (fun w0 R=>?_)
 refine sA (xai rfl (dB (xmb rfl (TL.cases rfl (fun q1=>?_) (fun q1=>?_)))))
 refine dT rfl (xai rfl (dRR ?_))
 refine FQ.ret1 (v:=(.int _ _)) (Bs:=[]) [] rfl rfl rfl trivial ?_
 cases b<;>first | exact ⟨rfl,rfl⟩ | (exfalso; simp at q1)
 refine dF rfl (xai rfl (dR ?_))
 refine FQ.ret1 (v:=(.int _ _)) (Bs:=[]) [] rfl rfl rfl trivial ?_
 cases b<;>first | exact ⟨rfl,rfl⟩ | (exfalso; simp at q1)
theorem zpK {S:Type} [MemLike S] {mt:TypeId} {mv:Value} {A:S→Assn} (hM:MemI Tryz.prog mt mv A) {l:Lay} (hl:l.Ok) {σ:S} {u v:Int}:FnD Tryz.prog 91 [zgS l mt mv,.int .i64 u,.int .i64 v] [A σ] (.tuple #[.int .i64 (find l σ u v).slot,.bool (find l σ u v).tree,.bool (find l σ u v).ok]) [A (zoc l σ u v)]:=by
 refine Fn.enter (Tryz.func91) rfl rfl (fun w0 R=>?_)
 refine sA (xB 1 rfl (fun bk1=>(xai rfl (xaf rfl (xaf rfl (dS (TC.draw [(0,true),(1,true),(2,true),(3,true),(4,true),(5,true),(7,true),(8,true),(6,false),(9,false),(10,true)] [1] fc_m (by kernel_rfl) (xf 3 zbo rfl (xlc 1 zb3 rfl rfl ?_)))))))))
 refine xf 0 zaE rfl (xL3 1 zaj rfl rfl (xmi rfl (xmi rfl (TL.ncI rfl rfl rfl (xmc rfl (TL.callD [] [] (zil hl) ⟨rfl,rfl,rfl,trivial⟩ trivial zif rfl rfl rfl rfl rfl (kL1 rfl trivial) (TL.mload 0 hM rfl rfl rfl rfl rfl (kL1 rfl trivial) (xai rfl ?_))))))))
 refine dB (xmi rfl (TL.eql rfl rfl rfl rfl (fun q1=>?_) (fun q1=>?_)))
 refine dT rfl (xai rfl (xaf rfl (xaf rfl (dRR ?_))))
 refine FQ.ret3 (v:=(.int _ _)) (x:=(.bool false)) (y:=(.bool false)) (Bs:=[A _]) [0] rfl rfl rfl rfl rfl ⟨rfl,trivial⟩ ?_
 first | exact ⟨(by unfold find; dsimp only; rw [if_pos q1]),rfl⟩ | exact ⟨(by unfold find; dsimp only; rw [if_neg q1]; rfl),rfl⟩
 refine dF rfl (xmi rfl (TL.shr _ rfl rfl (by decide) rfl rfl rfl (TL.conv _ rfl zbb zaI (rfl) rfl rfl (TL.sub _ rfl rfl (rfl) rfl rfl (xmi rfl (TL.and _ rfl rfl rfl rfl rfl (TL.eqlV rfl rfl rfl rfl (xai rfl ?_))))))))
 refine xab rfl (xat rfl (dR ?_))
 refine FQ.ret3 (v:=(.int _ _)) (x:=(.bool _)) (y:=(.bool true)) (Bs:=[A _]) [0] rfl rfl rfl rfl rfl ⟨rfl,trivial⟩ ?_
 first | exact ⟨(by unfold find; dsimp only; rw [if_pos q1]),rfl⟩ | exact ⟨(by unfold find; dsimp only; rw [if_neg q1]; rfl),rfl⟩
theorem zqb {S:Type} [MemLike S] {mt:TypeId} {mv:Value} {A:S→Assn} (hM:MemI Tryz.prog mt mv A) {l:Lay} (hl:l.Ok) {σ:S} {s u v i:Int} {t:Bool}:FnD Tryz.prog 87 [zgS l mt mv,.int .i64 s,.int .i64 u,.int .i64 v,.int .i64 i,.bool t] [A σ] (.tuple #[]) [A (eput l σ s u v i t)]:=by
 refine Fn.enter (Tryz.func87) rfl rfl (fun w0 R=>?_)
 refine sA (xB 1 rfl (fun bk1=>(dS (TC.draw [(0,true),(1,true),(2,true),(3,true),(4,true),(6,true),(7,true),(8,true),(9,true),(10,true),(11,true),(12,true),(13,true),(14,true),(15,true),(16,true),(5,false),(17,false)] [1] fc_m (by kernel_rfl) (xf 3 zbo rfl (xlc 1 zb3 rfl rfl (xf 0 zaE rfl (xL3 1 zaj rfl rfl (xmi rfl ?_)))))))))
 refine xmi rfl (xmi rfl (TL.min2 rfl rfl rfl rfl (TL.shl _ rfl rfl (by decide) rfl rfl rfl (xmi rfl (xmi rfl (TL.max2 rfl rfl rfl rfl (TL.or _ rfl rfl rfl rfl rfl (TL.conv _ rfl zdz zaF (rfl) rfl rfl ?_))))))))
 refine TL.ncI rfl rfl rfl (xmc rfl (TL.callD [] [] (zm6 hl) ⟨rfl,rfl,trivial⟩ trivial zmZ rfl rfl rfl rfl rfl (kL1 rfl trivial) (TL.mstore 0 hM rfl rfl rfl (by first | exact zeX _ | exact zcV _ _ | exact MemLike.rng _ _ | decide | assumption) rfl rfl rfl (kL1 rfl trivial) (dS (TC.draw [(0,true),(1,true),(2,true),(3,true),(4,true),(6,true),(7,true),(8,true),(9,true),(5,false),(10,false)] [1] fc_m (by kernel_rfl) (xf 3 zbo rfl (xlc 1 zb3 rfl rfl (xf 0 zaE rfl ?_))))))))
 refine xL3 1 zaj rfl rfl (xmi rfl (xmi rfl (TL.conv _ rfl zdz zaF (rfl) rfl rfl (TL.ncI rfl rfl rfl (xmc rfl (TL.callD [] [] (zhU hl) ⟨rfl,rfl,trivial⟩ trivial zmJ rfl rfl rfl rfl rfl (kL1 rfl trivial) (TL.mstore 0 hM rfl rfl rfl (by first | exact zeX _ | exact zcV _ _ | exact MemLike.rng _ _ | decide | assumption) rfl rfl rfl (kL1 rfl trivial) (TL.done ?_))))))))
 refine TQ.then (TC.draw [(0,true),(1,true),(2,true),(3,true),(4,true),(5,true),(7,true),(8,true),(9,true),(10,true),(11,true),(14,true),(15,true),(6,false),(12,false),(13,true),(16,false)] [1] fc_m (by kernel_rfl) (xf 3 zbo rfl (xlc 1 zb3 rfl rfl (xf 0 zaE rfl (xL3 1 zaj rfl rfl (xmi rfl (xmi rfl (xmi rfl ?_))))))))
 refine TL.add _ rfl rfl (rfl) rfl rfl (TL.conv _ rfl zdz zaF (rfl) rfl rfl (TL.shl _ rfl rfl (by decide) rfl rfl rfl (xmb rfl (TL.ncI rfl rfl rfl (xmc rfl (TL.callD [] [] (zil hl) ⟨rfl,rfl,rfl,trivial⟩ trivial zif rfl rfl rfl rfl rfl (kL1 rfl trivial) (TL.callD [] [] zpc ⟨rfl,trivial⟩ trivial zm0 rfl rfl rfl rfl rfl (kL1 rfl trivial) (TL.or _ rfl rfl rfl rfl rfl ?_))))))))
 refine TL.mstore 0 hM rfl rfl rfl (by first | exact zeX _ | exact zcV _ _ | exact MemLike.rng _ _ | decide | assumption) rfl rfl rfl (kL1 rfl trivial) (TL.done ?_)
 refine FQ.end0 (Bs:=[A _]) [0] rfl rfl ⟨rfl,trivial⟩ ?_
 exact ⟨rfl,rfl⟩
theorem zhp {S:Type} [MemLike S] {mt:TypeId} {mv:Value} {A:S→Assn} (hM:MemI Tryz.prog mt mv A) {l:Lay} (hl:l.Ok) {σ:S} {u v:Int}:FnD Tryz.prog 59 [zgS l mt mv,.int .i64 u,.int .i64 v] [A σ] (.tuple #[]) [A (zcI l σ u v)]:=by
 refine Fn.enter (Tryz.func59) rfl rfl (fun w0 R=>?_)
 refine sA (xB 1 rfl (fun bk1=>(TL.done (TQ.then (TC.draw [(0,true),(1,true),(2,true),(3,true),(4,true),(5,true),(7,true),(8,true),(6,false),(9,false)] [1] fc_m (by kernel_rfl) (xf 3 zbo rfl (xlc 1 zb3 rfl rfl (xf 0 zaE rfl (xL3 1 zaj rfl rfl ?_)))))))))
 refine xmi rfl (xmi rfl (TL.ncI rfl rfl rfl (xmc rfl (TL.callD [] [] (zil hl) ⟨rfl,rfl,rfl,trivial⟩ trivial zif rfl rfl rfl rfl rfl (kL1 rfl trivial) (TL.mstore 0 hM rfl rfl rfl (by first | exact zeX _ | exact zcV _ _ | exact MemLike.rng _ _ | decide | assumption) rfl rfl rfl (kL1 rfl trivial) (TL.done ?_))))))
 refine FQ.end0 (Bs:=[A _]) [0] rfl rfl ⟨rfl,trivial⟩ ?_
 exact ⟨rfl,rfl⟩
theorem zkE {S:Type} [MemLike S] {mt:TypeId} {mv:Value} {A:S→Assn} (hM:MemI Tryz.prog mt mv A) {l:Lay} (hl:l.Ok) {σ:S} {s:Int}:FnD Tryz.prog 90 [zgS l mt mv,.int .i64 s] [A σ] (.tuple #[.int .i64 (zle l σ s),.int .i64 (zld l σ s)]) [A (zij l σ s)]:=by
 refine Fn.enter (Tryz.func90) rfl rfl (fun w0 R=>?_)
 refine sA (xB 1 rfl (fun bk1=>(xai rfl (xai rfl (dS (TC.draw [(0,true),(1,true),(2,true),(3,true),(4,true),(6,true),(7,true),(5,false),(8,false),(9,true),(10,true)] [1] fc_m (by kernel_rfl) (xf 3 zbo rfl (xlc 1 zb3 rfl rfl (xf 0 zaE rfl ?_)))))))))
 refine xL3 1 zaj rfl rfl (xmi rfl (TL.ncI rfl rfl rfl (xmc rfl (TL.callD [] [] (zm6 hl) ⟨rfl,rfl,trivial⟩ trivial zmZ rfl rfl rfl rfl rfl (kL1 rfl trivial) (TL.mload 0 hM rfl rfl rfl rfl rfl (kL1 rfl trivial) (TL.conv _ rfl zbb zaI (rfl) rfl rfl (xai rfl (dA ?_))))))))
 refine xmi rfl (TL.shr _ rfl rfl (by decide) rfl rfl rfl (xmi rfl (TL.and _ rfl rfl rfl rfl rfl (xai rfl (xai rfl (dR ?_))))))
 refine FQ.ret2 (v:=(.int _ _)) (x:=(.int _ _)) (Bs:=[A _]) [0] rfl rfl rfl rfl ⟨rfl,trivial⟩ ?_
 exact ⟨rfl,rfl⟩
theorem zdk {S:Type} [MemLike S] {mt:TypeId} {mv:Value} {A:S→Assn} (hM:MemI Tryz.prog mt mv A) {l:Lay} (hl:l.Ok) {σ:S} {s:Int}:FnD Tryz.prog 47 [zgS l mt mv,.int .i64 s] [A σ] (edgV (eget l σ s)) [A (zfq l σ s)]:=by
 refine Fn.enter (Tryz.func47) rfl rfl (fun w0 R=>?_)
 refine sA (xB 1 rfl (fun bk1=>(TL.alloc 2 (cs:=#[.int .i64 0,.int .i64 0,.int .i64 0,.bool false]) zfS rfl rfl rfl (fun _=>trivial) (fun bk2=>(dA (xL4 1 za6 rfl rfl (xmi rfl (TL.callD [0] [0] (zkE hM hl) ⟨rfl,rfl,trivial⟩ ⟨rfl,trivial⟩ zoX rfl rfl rfl rfl rfl trivial (xmu rfl (xei rfl rfl ?_))))))))))
 refine xei rfl rfl (xai rfl (xai rfl (dA (xL4 1 za6 rfl rfl (xmi rfl (xmi rfl (TL.callD [0] [0] (zpK hM hl) ⟨rfl,rfl,rfl,trivial⟩ ⟨rfl,trivial⟩ zq8 rfl rfl rfl rfl rfl trivial (xmu rfl ?_))))))))
 refine xei rfl rfl (TL.ext (.bool _) rfl rfl rfl rfl (TL.ext (.bool _) rfl rfl rfl rfl (xai rfl (xab rfl (xab rfl (dS (TC.draw [(0,true),(1,true),(2,true),(3,true),(4,true),(5,true),(6,true),(8,true),(9,true),(12,true),(7,false),(10,false),(11,true),(13,true),(14,false)] [1] fc_m (by kernel_rfl) (xmi rfl ?_))))))))
 refine xmi rfl (xf 3 zbo rfl (xlc 1 zb3 rfl rfl (xf 0 zaE rfl (xL3 1 zaj rfl rfl (xmi rfl (TL.ncI rfl rfl rfl (xmc rfl (xmb rfl ?_))))))))
 refine TL.callD [] [] (zhU hl) ⟨rfl,rfl,trivial⟩ trivial zmJ rfl rfl rfl rfl rfl (kL1 rfl trivial) (TL.mload 0 hM rfl rfl rfl rfl rfl (kL1 rfl trivial) (TL.conv _ rfl zbb zaI (rfl) rfl rfl (TL.bld [.int .i64 0,.int .i64 0,.int .i64 0,.bool false] [(.int _ _),(.int _ _),(.int _ _),(.bool _)] [_,_,_,_] zfS zqY ⟨rfl,rfl,rfl,rfl,trivial⟩ ⟨rfl,rfl⟩ rfl rfl (TL.stW 2 4 [_,_,_,_] rfl rfl rfl rfl rfl rfl zde rfl rfl (kL1 rfl trivial) (dR ?_)))))
 refine FQ.retG (rs:=[.cell 4 98]) [(.agg _)] (Bs:=[A _]) [0] rfl ⟨⟨_,_,_,_,_,2,rfl,rfl,.inr ⟨4,[_,_,_,_],zde,rfl,rfl⟩⟩,trivial⟩ rfl rfl ⟨rfl,trivial⟩ ?_
 exact ⟨rfl,rfl⟩
theorem zog {S:Type} [MemLike S] {mt:TypeId} {mv:Value} {A:S→Assn} (hM:MemI Tryz.prog mt mv A) {l:Lay} (hl:l.Ok) {σ:S} {s:Int} {t:Bool}:FnD Tryz.prog 84 [zgS l mt mv,.int .i64 s,.bool t] [A σ] (.tuple #[]) [A (zih l σ s t)]:=by
 refine Fn.enter (Tryz.func84) rfl rfl (fun w0 R=>?_)
 refine sA (xB 1 rfl (fun bk1=>(dA (xL4 1 za6 rfl rfl (xmi rfl (TL.callD [0] [0] (zkE hM hl) ⟨rfl,rfl,trivial⟩ ⟨rfl,trivial⟩ zoX rfl rfl rfl rfl rfl trivial (xmu rfl (xei rfl rfl (xei rfl rfl ?_)))))))))
 refine xai rfl (xai rfl (TL.done (TQ.then (TC.draw [(0,true),(1,true),(2,true),(3,true),(4,true),(5,true),(7,true),(8,true),(9,true),(10,true),(11,true),(14,true),(15,true),(6,false),(12,false),(13,true),(16,false)] [1] fc_m (by kernel_rfl) (xf 3 zbo rfl (xlc 1 zb3 rfl rfl (xf 0 zaE rfl (xL3 1 zaj rfl rfl ?_))))))))
 refine xmi rfl (xmi rfl (xmi rfl (TL.add _ rfl rfl (rfl) rfl rfl (TL.conv _ rfl zdz zaF (rfl) rfl rfl (TL.shl _ rfl rfl (by decide) rfl rfl rfl (xmb rfl (TL.ncI rfl rfl rfl (xmc rfl ?_))))))))
 refine TL.callD [] [] (zil hl) ⟨rfl,rfl,rfl,trivial⟩ trivial zif rfl rfl rfl rfl rfl (kL1 rfl trivial) (TL.callD [] [] zpc ⟨rfl,trivial⟩ trivial zm0 rfl rfl rfl rfl rfl (kL1 rfl trivial) (TL.or _ rfl rfl rfl rfl rfl (TL.mstore 0 hM rfl rfl rfl (by first | exact zeX _ | exact zcV _ _ | exact MemLike.rng _ _ | decide | assumption) rfl rfl rfl (kL1 rfl trivial) (TL.done ?_))))
 refine FQ.end0 (Bs:=[A _]) [0] rfl rfl ⟨rfl,trivial⟩ ?_
 exact ⟨rfl,rfl⟩
theorem zkH {S:Type} [MemLike S] {mt:TypeId} {mv:Value} {A:S→Assn} (hM:MemI Tryz.prog mt mv A) {l:Lay} (hl:l.Ok) {σ:S} {s i:Int}:FnD Tryz.prog 31 [zgS l mt mv,.int .i64 s,.int .i64 i] [A σ] (.tuple #[]) [A (zgR l σ s i)]:=by
 refine Fn.enter (Tryz.func31) rfl rfl (fun w0 R=>?_)
 refine sA (xB 1 rfl (fun bk1=>(TL.done (TQ.then (TC.draw [(0,true),(1,true),(2,true),(3,true),(4,true),(6,true),(7,true),(8,true),(9,true),(5,false),(10,false)] [1] fc_m (by kernel_rfl) (xf 3 zbo rfl (xlc 1 zb3 rfl rfl (xf 0 zaE rfl (xL3 1 zaj rfl rfl ?_)))))))))
 refine xmi rfl (xmi rfl (TL.conv _ rfl zdz zaF (rfl) rfl rfl (TL.ncI rfl rfl rfl (xmc rfl (TL.callD [] [] (zhU hl) ⟨rfl,rfl,trivial⟩ trivial zmJ rfl rfl rfl rfl rfl (kL1 rfl trivial) (TL.mstore 0 hM rfl rfl rfl (by first | exact zeX _ | exact zcV _ _ | exact MemLike.rng _ _ | decide | assumption) rfl rfl rfl (kL1 rfl trivial) (TL.done ?_)))))))
 refine FQ.end0 (Bs:=[A _]) [0] rfl rfl ⟨rfl,trivial⟩ ?_
 exact ⟨rfl,rfl⟩
theorem zgY {S:Type} [MemLike S] {mt:TypeId} {mv:Value} {A:S→Assn} (hM:MemI Tryz.prog mt mv A) {l:Lay} (hl:l.Ok) {p:Pen} {σ:S} {c:Int}:FnD Tryz.prog 105 [adjV l mt mv p,.int .i64 c] [A σ] (.int .i64 (aget σ c)) [A (MemLike.ld σ c)]:=by
 refine Fn.enter (Tryz.func105) rfl rfl (fun w0 R=>?_)
 refine sA (xB 1 rfl (fun bk1=>(xai rfl (dA (xf 6 zaw rfl (xf 3 zbo rfl (xlc 1 zb3 rfl rfl (xmi rfl (TL.mload 0 hM rfl rfl rfl rfl rfl trivial ?_)))))))))
 refine TL.conv _ rfl zbb zaI (rfl) rfl rfl (xai rfl (dR ?_))
 refine FQ.ret1 (v:=(.int _ _)) (Bs:=[A _]) [0] rfl rfl rfl ⟨rfl,trivial⟩ ?_
 exact ⟨rfl,rfl⟩
theorem zdG {S:Type} [MemLike S] {mt:TypeId} {mv:Value} {A:S→Assn} (hM:MemI Tryz.prog mt mv A) {l:Lay} (hl:l.Ok) {p:Pen} {σ:S} {c v:Int}:FnD Tryz.prog 136 [adjV l mt mv p,.int .i64 c,.int .i64 v] [A σ] (.tuple #[]) [A (MemLike.st σ c (IntKind.u64.wrap v))]:=by
 refine Fn.enter (Tryz.func136) rfl rfl (fun w0 R=>?_)
 refine sA (xB 1 rfl (fun bk1=>(dG (xf 6 zaw rfl (xf 3 zbo rfl (xlc 1 zb3 rfl rfl (xmi rfl (xmi rfl (TL.conv _ rfl zdz zaF (rfl) rfl rfl ?_)))))))))
 refine TL.mstore 0 hM rfl rfl rfl (by first | exact zeX _ | exact zcV _ _ | exact MemLike.rng _ _ | decide | assumption) rfl rfl rfl trivial (TL.done ?_)
 refine FQ.end0 (Bs:=[A _]) [0] rfl rfl ⟨rfl,trivial⟩ ?_
 exact ⟨rfl,rfl⟩
theorem zhE {s d:Int}:FnD Tryz.prog 100 [.int .i64 s,.int .i64 d] [] (.int .i64 (side s d)) []:=by
 refine Fn.enter (Tryz.func100) rfl rfl (fun w0 R=>?_)
 refine sA (xai rfl (dA (xmi rfl (TL.mul _ rfl rfl (rfl) rfl rfl (xmi rfl (TL.add _ rfl rfl (rfl) rfl rfl (TL.add _ rfl rfl (rfl) rfl rfl (xai rfl ?_))))))))
 refine dR ?_
 refine FQ.ret1 (v:=(.int _ _)) (Bs:=[]) [] rfl rfl rfl trivial ?_
 exact ⟨rfl,rfl⟩
theorem zis {mt:TypeId} {mv:Value} {l:Lay} (hl:l.Ok) {p:Pen} {x:Int}:FnD Tryz.prog 135 [adjV l mt mv p,.int .i64 x] [] (.int .i64 (zbe l x)) []:=by
 refine Fn.enter (Tryz.func135) rfl rfl (fun w0 R=>?_)
 refine sA (xB 0 rfl (fun bk0=>(xai rfl (dA (xf 6 zaw rfl (xf 0 zaE rfl (xL3 0 zaj rfl rfl (xmi rfl (TL.sub _ rfl rfl (rfl) rfl rfl ?_)))))))))
 refine TL.quo _ rfl rfl (by omega) (quo2 _) rfl rfl (xmi rfl (TL.sub _ rfl rfl (rfl) rfl rfl (TL.rem _ rfl rfl (by omega) (rfl) rfl rfl (TL.callD [] [] (zpA hl) ⟨rfl,rfl,rfl,trivial⟩ trivial zpX rfl rfl rfl rfl rfl trivial (xai rfl (dR ?_))))))
 refine FQ.ret1 (v:=(.int _ _)) (Bs:=[]) [] rfl rfl rfl trivial ?_
 exact ⟨rfl,rfl⟩
theorem zfu {mt:TypeId} {mv:Value} {l:Lay} (hl:l.Ok) {p:Pen} {x:Int}:FnD Tryz.prog 134 [adjV l mt mv p,.int .i64 x] [] (.int .i64 (zaX l x)) []:=by
 refine Fn.enter (Tryz.func134) rfl rfl (fun w0 R=>?_)
 refine sA (xB 0 rfl (fun bk0=>(xai rfl (dA (xf 6 zaw rfl (xf 0 zaE rfl (xL3 0 zaj rfl rfl (xmi rfl (TL.sub _ rfl rfl (rfl) rfl rfl ?_)))))))))
 refine TL.quo _ rfl rfl (by omega) (quo2 _) rfl rfl (xmi rfl (TL.sub _ rfl rfl (rfl) rfl rfl (TL.rem _ rfl rfl (by omega) (rfl) rfl rfl (TL.callD [] [] (zps hl) ⟨rfl,rfl,rfl,trivial⟩ trivial zpY rfl rfl rfl rfl rfl trivial (xai rfl (dR ?_))))))
 refine FQ.ret1 (v:=(.int _ _)) (Bs:=[]) [] rfl rfl rfl trivial ?_
 exact ⟨rfl,rfl⟩
theorem zeq {S:Type} [MemLike S] {mt:TypeId} {mv:Value} {A:S→Assn} (hM:MemI Tryz.prog mt mv A) {l:Lay} (hl:l.Ok) {p:Pen} {σ:S} {v i:Int} {k:Nat} {σ2:S} (h:zit l k σ v i=some σ2):FnD Tryz.prog 137 [adjV l mt mv p,.int .i64 v,.int .i64 i] [A σ] (.tuple #[]) [A σ2]:=by
 unfold zit at h
 dsimp only at h
 refine Fn.enter (Tryz.func137) rfl rfl (fun w0 R=>?_)
 refine sA (xB 1 rfl (fun bk1=>(dA (xf 6 zaw rfl (xf 0 zaE rfl (xL3 1 zaj rfl rfl (xmi rfl (xmi rfl (TL.callD [] [] (zdl hl) ⟨rfl,rfl,rfl,trivial⟩ trivial zhl rfl rfl rfl rfl rfl trivial ?_)))))))))
 refine xai rfl (dS (TC.draw [(0,true),(1,true),(2,true),(3,true),(4,true),(5,true),(6,false),(7,false),(8,true),(9,true)] [1] fc_m (by kernel_rfl) (xL10 1 zat rfl rfl (xf 6 zaw rfl (xf 0 zaE rfl (xL3 1 zaj rfl rfl (xmi rfl (xmi rfl ?_))))))))
 refine TL.callD [] [] (zhW hl) ⟨rfl,rfl,rfl,trivial⟩ trivial zie rfl rfl rfl rfl rfl (kL1 rfl trivial) (TL.callD [0] [0] (zgY hM hl) ⟨rfl,rfl,trivial⟩ ⟨rfl,trivial⟩ zgP rfl rfl rfl rfl rfl (kL1 rfl trivial) (TL.neqV rfl rfl rfl rfl (xab rfl (dA (xmb rfl (xf 0 zbi rfl (xf 0 zaq rfl (xL6 1 zad rfl rfl ?_))))))))
 refine xmi rfl (TL.callD [0] [0] (ziI hM hl (by decide)) ⟨rfl,rfl,rfl,trivial⟩ ⟨rfl,trivial⟩ zmU rfl rfl rfl rfl rfl trivial (TL.neqB rfl rfl zg3 rfl rfl (TL.cases rfl (fun q1=>?_) (fun q1=>?_))))
 refine TL.done (TQ.then (TC.condT rfl (TC.region (xf 0 zbi rfl (xf 0 zaq rfl (xL6 1 zad rfl rfl (xmi rfl (xmb rfl ?_))))))))
 refine TL.callD [0] [0] (zmi hM hl (by decide) (by rw [if_pos (by simpa using q1)] at h; exact h)) ⟨rfl,rfl,rfl,rfl,trivial⟩ ⟨rfl,trivial⟩ zm2 rfl rfl rfl rfl rfl trivial (TL.done ?_)
 refine FQ.end0 (Bs:=[A _]) [0] rfl rfl ⟨rfl,trivial⟩ ?_
 exact ⟨rfl,rfl⟩
 refine TL.done (TQ.then (TC.condF rfl (TC.skip ?_)))
 refine FQ.end0 (Bs:=[A _]) [0] rfl rfl ⟨rfl,trivial⟩ ?_
 rw [if_neg (fun hc=>by revert q1 hc; cases zhf l (MemLike.ld σ (l.head v i)) (l.vertex i v) 0<;>simp<;>omega)] at h; cases h; exact ⟨rfl,rfl⟩
theorem zlU {S:Type} [MemLike S] {mt:TypeId} {mv:Value} {A:S→Assn} (hM:MemI Tryz.prog mt mv A) {l:Lay} (hl:l.Ok) {p:Pen} {σ:S} {x v i:Int} {k:Nat} {σ2:S} (h:push l k σ x v i=some σ2):FnD Tryz.prog 130 [adjV l mt mv p,.int .i64 x,.int .i64 v,.int .i64 i] [A σ] (.tuple #[]) [A σ2]:=by
 unfold push at h
 dsimp only at h
 refine Fn.enter (Tryz.func130) rfl rfl (fun w0 R=>?_)
 refine sA (xB 1 rfl (fun bk1=>(dA (xf 6 zaw rfl (xf 0 zaE rfl (xL3 1 zaj rfl rfl (xmi rfl (xmi rfl (TL.callD [] [] (zhW hl) ⟨rfl,rfl,rfl,trivial⟩ trivial zie rfl rfl rfl rfl rfl trivial ?_)))))))))
 refine xai rfl (dA (xL10 1 zat rfl rfl (xmi rfl (TL.callD [0] [0] (zgY hM hl) ⟨rfl,rfl,trivial⟩ ⟨rfl,trivial⟩ zgP rfl rfl rfl rfl rfl trivial (xai rfl (dS (TC.draw [(0,true),(1,true),(2,true),(4,true),(3,false),(5,false)] [1] fc_m (by kernel_rfl) (xL10 1 zat rfl rfl ?_))))))))
 refine xL10 1 zat rfl rfl (xmi rfl (xmi rfl (TL.callD [] [] (zis hl) ⟨rfl,rfl,trivial⟩ trivial zjV rfl rfl rfl rfl rfl (kL1 rfl trivial) (TL.callD [0] [0] (zdG hM hl) ⟨rfl,rfl,rfl,trivial⟩ ⟨rfl,trivial⟩ zdD rfl rfl rfl rfl rfl (kL1 rfl trivial) (dS (TC.draw [(0,true),(1,true),(2,true),(3,false),(4,false)] [1] fc_m (by kernel_rfl) (xL10 1 zat rfl rfl (xL10 1 zat rfl rfl ?_))))))))
 refine xmi rfl (TL.callD [] [] (zfu hl) ⟨rfl,rfl,trivial⟩ trivial zgL rfl rfl rfl rfl rfl (kL1 rfl trivial) (TL.callD [0] [0] (zdG hM hl) ⟨rfl,rfl,rfl,trivial⟩ ⟨rfl,trivial⟩ zdD rfl rfl rfl rfl rfl (kL1 rfl trivial) (dB (xmi rfl (TL.neq rfl rfl rfl rfl (fun q1=>?_) (fun q1=>?_))))))
 refine TL.done (TQ.then (TC.condT rfl (TC.draw [(0,true),(1,true),(2,true),(4,true),(3,false),(5,false)] [1] fc_m (by kernel_rfl) (xL10 1 zat rfl rfl (xL10 1 zat rfl rfl (xmi rfl (xmi rfl (TL.callD [] [] (zfu hl) ⟨rfl,rfl,trivial⟩ trivial zgL rfl rfl rfl rfl rfl (kL1 rfl trivial) ?_))))))))
 refine TL.callD [0] [0] (zdG hM hl) ⟨rfl,rfl,rfl,trivial⟩ ⟨rfl,trivial⟩ zdD rfl rfl rfl rfl rfl (kL1 rfl trivial) (dA (xL10 1 zat rfl rfl (xmi rfl (xmi rfl (TL.callD [0] [0] (zdG hM hl) ⟨rfl,rfl,rfl,trivial⟩ ⟨rfl,trivial⟩ zdD rfl rfl rfl rfl rfl trivial (dG (xL10 1 zat rfl rfl (xmi rfl ?_))))))))
 refine xmi rfl (TL.callD [0] [0] (zeq hM hl (by rw [if_pos q1] at h; exact h)) ⟨rfl,rfl,rfl,trivial⟩ ⟨rfl,trivial⟩ zfF rfl rfl rfl rfl rfl trivial (TL.done ?_))
 refine FQ.end0 (Bs:=[A _]) [0] rfl rfl ⟨rfl,trivial⟩ ?_
 exact ⟨rfl,rfl⟩
 refine dF rfl (xL10 1 zat rfl rfl (xmi rfl (xmi rfl (TL.callD [0] [0] (zdG hM hl) ⟨rfl,rfl,rfl,trivial⟩ ⟨rfl,trivial⟩ zdD rfl rfl rfl rfl rfl trivial (dG (xL10 1 zat rfl rfl (xmi rfl (xmi rfl ?_))))))))
 refine TL.callD [0] [0] (zeq hM hl (by rw [if_neg q1] at h; exact h)) ⟨rfl,rfl,rfl,trivial⟩ ⟨rfl,trivial⟩ zfF rfl rfl rfl rfl rfl trivial (TL.done ?_)
 refine FQ.end0 (Bs:=[A _]) [0] rfl rfl ⟨rfl,trivial⟩ ?_
 exact ⟨rfl,rfl⟩
theorem zlX {S:Type} [MemLike S] {mt:TypeId} {mv:Value} {A:S→Assn} (hM:MemI Tryz.prog mt mv A) {l:Lay} (hl:l.Ok) {p:Pen} {σ:S} {x v i:Int} {k:Nat} {σ2:S} (h:pull l k σ x v i=some σ2):FnD Tryz.prog 99 [adjV l mt mv p,.int .i64 x,.int .i64 v,.int .i64 i] [A σ] (.tuple #[]) [A σ2]:=by
 unfold pull at h
 dsimp only at h
 refine Fn.enter (Tryz.func99) rfl rfl (fun w0 R=>?_)
 refine sA (xB 1 rfl (fun bk1=>(dS (TC.draw [(0,true),(1,true),(2,true),(5,true),(6,true),(7,true),(3,false),(4,false),(8,false),(9,false),(10,true),(11,true)] [1] fc_m (by kernel_rfl) (xL10 1 zat rfl rfl (xL10 1 zat rfl rfl (xmi rfl (xL10 1 zat rfl rfl (xL10 1 zat rfl rfl ?_)))))))))
 refine xmi rfl (TL.callD [] [] (zfu hl) ⟨rfl,rfl,trivial⟩ trivial zgL rfl rfl rfl rfl rfl (kL1 rfl trivial) (TL.callD [0] [0] (zgY hM hl) ⟨rfl,rfl,trivial⟩ ⟨rfl,trivial⟩ zgP rfl rfl rfl rfl rfl (kL1 rfl trivial) (TL.callD [] [] (zis hl) ⟨rfl,rfl,trivial⟩ trivial zjV rfl rfl rfl rfl rfl (kL1 rfl trivial) (TL.callD [0] [0] (zgY hM hl) ⟨rfl,rfl,trivial⟩ ⟨rfl,trivial⟩ zgP rfl rfl rfl rfl rfl (kL1 rfl trivial) (xai rfl (xai rfl (dB (xmi rfl ?_))))))))
 refine TL.eql rfl rfl rfl rfl (fun q1=>?_) (fun q1=>?_)
 refine TL.done (TQ.then (TC.condT rfl (TC.draw [(0,true),(1,true),(2,true),(3,true),(4,true),(5,true),(7,true),(6,false),(8,false)] [1] fc_m (by kernel_rfl) (xL10 1 zat rfl rfl (xf 6 zaw rfl (xf 0 zaE rfl (xL3 1 zaj rfl rfl (xmi rfl ?_))))))))
 refine xmi rfl (xmi rfl (TL.callD [] [] (zhW hl) ⟨rfl,rfl,rfl,trivial⟩ trivial zie rfl rfl rfl rfl rfl (kL1 rfl trivial) (TL.callD [0] [0] (zdG hM hl) ⟨rfl,rfl,rfl,trivial⟩ ⟨rfl,trivial⟩ zdD rfl rfl rfl rfl rfl (kL1 rfl trivial) (dB (xmi rfl (TL.neq rfl rfl rfl rfl (fun q2=>?_) (fun q2=>?_)))))))
 refine TL.done (TQ.then (TC.condT rfl (TC.draw [(0,true),(1,true),(2,true),(4,true),(3,false),(5,false)] [1] fc_m (by kernel_rfl) (xL10 1 zat rfl rfl (xL10 1 zat rfl rfl (xmi rfl (xmi rfl (TL.callD [] [] (zfu hl) ⟨rfl,rfl,trivial⟩ trivial zgL rfl rfl rfl rfl rfl (kL1 rfl trivial) ?_))))))))
 refine TL.callD [0] [0] (zdG hM hl) ⟨rfl,rfl,rfl,trivial⟩ ⟨rfl,trivial⟩ zdD rfl rfl rfl rfl rfl (kL1 rfl trivial) (dG (xL10 1 zat rfl rfl (xmi rfl (xmi rfl (TL.callD [0] [0] (zeq hM hl (by rw [if_pos q1,if_pos q2] at h; exact h)) ⟨rfl,rfl,rfl,trivial⟩ ⟨rfl,trivial⟩ zfF rfl rfl rfl rfl rfl trivial (TL.done ?_))))))
 refine FQ.end0 (Bs:=[A _]) [0] rfl rfl ⟨rfl,trivial⟩ ?_
 exact ⟨rfl,rfl⟩
 refine TL.done (TQ.then (TC.condF rfl (TC.skip (TQ.then (TC.region (xL10 1 zat rfl rfl (xmi rfl (xmi rfl ?_))))))))
 refine TL.callD [0] [0] (zeq hM hl (by rw [if_pos q1,if_neg q2] at h; exact h)) ⟨rfl,rfl,rfl,trivial⟩ ⟨rfl,trivial⟩ zfF rfl rfl rfl rfl rfl trivial (TL.done ?_)
 refine FQ.end0 (Bs:=[A _]) [0] rfl rfl ⟨rfl,trivial⟩ ?_
 exact ⟨rfl,rfl⟩
 refine TL.done (TQ.then (TC.condF rfl (TC.draw [(0,true),(1,true),(2,true),(4,true),(3,false),(5,false)] [1] fc_m (by kernel_rfl) (xL10 1 zat rfl rfl (xL10 1 zat rfl rfl (xmi rfl (xmi rfl (TL.callD [] [] (zis hl) ⟨rfl,rfl,trivial⟩ trivial zjV rfl rfl rfl rfl rfl (kL1 rfl trivial) ?_))))))))
 refine TL.callD [0] [0] (zdG hM hl) ⟨rfl,rfl,rfl,trivial⟩ ⟨rfl,trivial⟩ zdD rfl rfl rfl rfl rfl (kL1 rfl trivial) (dB (xmi rfl (TL.neq rfl rfl rfl rfl (fun q2=>?_) (fun q2=>?_))))
 refine TL.done (TQ.then (TC.condT rfl (TC.draw [(0,true),(1,true),(2,true),(4,true),(3,false),(5,false)] [1] fc_m (by kernel_rfl) (xL10 1 zat rfl rfl (xL10 1 zat rfl rfl (xmi rfl (xmi rfl (TL.callD [] [] (zfu hl) ⟨rfl,rfl,trivial⟩ trivial zgL rfl rfl rfl rfl rfl (kL1 rfl trivial) ?_))))))))
 refine TL.callD [0] [0] (zdG hM hl) ⟨rfl,rfl,rfl,trivial⟩ ⟨rfl,trivial⟩ zdD rfl rfl rfl rfl rfl (kL1 rfl trivial) (dG (xL10 1 zat rfl rfl (xmi rfl (xmi rfl (TL.callD [0] [0] (zeq hM hl (by rw [if_neg q1,if_pos q2] at h; exact h)) ⟨rfl,rfl,rfl,trivial⟩ ⟨rfl,trivial⟩ zfF rfl rfl rfl rfl rfl trivial (TL.done ?_))))))
 refine FQ.end0 (Bs:=[A _]) [0] rfl rfl ⟨rfl,trivial⟩ ?_
 exact ⟨rfl,rfl⟩
 refine TL.done (TQ.then (TC.condF rfl (TC.skip (TQ.then (TC.region (xL10 1 zat rfl rfl (xmi rfl (xmi rfl ?_))))))))
 refine TL.callD [0] [0] (zeq hM hl (by rw [if_neg q1,if_neg q2] at h; exact h)) ⟨rfl,rfl,rfl,trivial⟩ ⟨rfl,trivial⟩ zfF rfl rfl rfl rfl rfl trivial (TL.done ?_)
 refine FQ.end0 (Bs:=[A _]) [0] rfl rfl ⟨rfl,trivial⟩ ?_
 exact ⟨rfl,rfl⟩
theorem zi8 {S:Type} [MemLike S] {mt:TypeId} {mv:Value} {A:S→Assn} (hM:MemI Tryz.prog mt mv A) {l:Lay} (hl:l.Ok) {p:Pen} {σ:S} {s:Int} {k:Nat} {σ2:S} (h:add l k σ s=some σ2):FnD Tryz.prog 88 [adjV l mt mv p,.int .i64 s] [A σ] (.tuple #[]) [A σ2]:=by
 unfold add at h
 dsimp only at h
 obtain ⟨σ1,h1,h2⟩:=Option.bind_eq_some_iff.1 h
 refine Fn.enter (Tryz.func88) rfl rfl (fun w0 R=>?_)
 refine sA (xB 1 rfl (fun bk1=>(dA (xf 6 zaw rfl (xL4 1 za6 rfl rfl (xmi rfl (TL.callD [0] [0] (zdk hM hl) ⟨rfl,rfl,trivial⟩ ⟨rfl,trivial⟩ zeB rfl rfl rfl rfl rfl trivial (TL.alloc 2 (cs:=#[.int .i64 0,.int .i64 0,.int .i64 0,.bool false]) zfS rfl rfl rfl (fun _=>trivial) (fun bk2=>(TL.stW 2 4 [_,_,_,_] rfl rfl rfl rfl rfl rfl zde rfl rfl trivial ?_))))))))))
 refine dS (TC.draw [(0,true),(1,true),(3,true),(4,true),(5,true),(6,true),(2,false),(7,false)] [1,2] fc_m (by kernel_rfl) (xL10 1 zat rfl rfl (xmi rfl (xf 0 zb5 rfl (xli 2 zaa rfl rfl (xf 2 zbm rfl (xli 2 zaa rfl rfl (TL.callD [] [] zhE ⟨rfl,rfl,trivial⟩ trivial zig rfl rfl rfl rfl rfl (kL2 rfl rfl trivial) ?_))))))))
 refine TL.callD [0] [0] (zlU hM hl h1) ⟨rfl,rfl,rfl,rfl,trivial⟩ ⟨rfl,trivial⟩ zmY rfl rfl rfl rfl rfl (kL2 rfl rfl trivial) (TL.done (TQ.then (TC.draw [(0,true),(1,true),(3,true),(4,true),(5,true),(6,true),(2,false),(7,false)] [1,2] fc_m (by kernel_rfl) (xL10 1 zat rfl rfl (xmi rfl (xf 1 zb4 rfl (xli 2 zaa rfl rfl (xf 2 zbm rfl ?_))))))))
 refine xli 2 zaa rfl rfl (TL.callD [] [] zhE ⟨rfl,rfl,trivial⟩ trivial zig rfl rfl rfl rfl rfl (kL2 rfl rfl trivial) (TL.callD [0] [0] (zlU hM hl h2) ⟨rfl,rfl,rfl,rfl,trivial⟩ ⟨rfl,trivial⟩ zmY rfl rfl rfl rfl rfl (kL2 rfl rfl trivial) (TL.done ?_)))
 refine FQ.end0 (Bs:=[A _]) [0] rfl rfl ⟨rfl,trivial⟩ ?_
 exact ⟨rfl,rfl⟩
theorem zgX {S:Type} [MemLike S] {mt:TypeId} {mv:Value} {A:S→Assn} (hM:MemI Tryz.prog mt mv A) {l:Lay} (hl:l.Ok) {p:Pen} {σ:S} {s:Int} {k:Nat} {σ2:S} (h:remove l k σ s=some σ2):FnD Tryz.prog 58 [adjV l mt mv p,.int .i64 s] [A σ] (.tuple #[]) [A σ2]:=by
 unfold remove at h
 dsimp only at h
 obtain ⟨σ1,h1,h2⟩:=Option.bind_eq_some_iff.1 h
 refine Fn.enter (Tryz.func58) rfl rfl (fun w0 R=>?_)
 refine sA (xB 1 rfl (fun bk1=>(dA (xf 6 zaw rfl (xL4 1 za6 rfl rfl (xmi rfl (TL.callD [0] [0] (zdk hM hl) ⟨rfl,rfl,trivial⟩ ⟨rfl,trivial⟩ zeB rfl rfl rfl rfl rfl trivial (TL.alloc 2 (cs:=#[.int .i64 0,.int .i64 0,.int .i64 0,.bool false]) zfS rfl rfl rfl (fun _=>trivial) (fun bk2=>(TL.stW 2 4 [_,_,_,_] rfl rfl rfl rfl rfl rfl zde rfl rfl trivial ?_))))))))))
 refine dS (TC.draw [(0,true),(1,true),(3,true),(4,true),(5,true),(6,true),(2,false),(7,false)] [1,2] fc_m (by kernel_rfl) (xL10 1 zat rfl rfl (xmi rfl (xf 0 zb5 rfl (xli 2 zaa rfl rfl (xf 2 zbm rfl (xli 2 zaa rfl rfl (TL.callD [] [] zhE ⟨rfl,rfl,trivial⟩ trivial zig rfl rfl rfl rfl rfl (kL2 rfl rfl trivial) ?_))))))))
 refine TL.callD [0] [0] (zlX hM hl h1) ⟨rfl,rfl,rfl,rfl,trivial⟩ ⟨rfl,trivial⟩ zoU rfl rfl rfl rfl rfl (kL2 rfl rfl trivial) (TL.done (TQ.then (TC.draw [(0,true),(1,true),(3,true),(4,true),(5,true),(6,true),(2,false),(7,false)] [1,2] fc_m (by kernel_rfl) (xL10 1 zat rfl rfl (xmi rfl (xf 1 zb4 rfl (xli 2 zaa rfl rfl (xf 2 zbm rfl ?_))))))))
 refine xli 2 zaa rfl rfl (TL.callD [] [] zhE ⟨rfl,rfl,trivial⟩ trivial zig rfl rfl rfl rfl rfl (kL2 rfl rfl trivial) (TL.callD [0] [0] (zlX hM hl h2) ⟨rfl,rfl,rfl,rfl,trivial⟩ ⟨rfl,trivial⟩ zoU rfl rfl rfl rfl rfl (kL2 rfl rfl trivial) (TL.done ?_)))
 refine FQ.end0 (Bs:=[A _]) [0] rfl rfl ⟨rfl,trivial⟩ ?_
 exact ⟨rfl,rfl⟩
theorem znv {S:Type} [MemLike S] {mt:TypeId} {mv:Value} {A:S→Assn} (hM:MemI Tryz.prog mt mv A) {l:Lay} (hl:l.Ok) {p:Pen} {σ:S} {v i:Int}:FnD Tryz.prog 64 [adjV l mt mv p,.int .i64 v,.int .i64 i] [A σ] (.tuple #[.int .i64 (zfw l σ v i).1,.bool (zfw l σ v i).2]) [A (zj2 l σ v i)]:=by
 refine Fn.enter (Tryz.func64) rfl rfl (fun w0 R=>?_)
 refine sA (xB 1 rfl (fun bk1=>(xai rfl (xaf rfl (dS (TC.draw [(0,true),(1,true),(2,true),(3,true),(4,true),(5,true),(6,false),(7,false),(8,true)] [1] fc_m (by kernel_rfl) (xL10 1 zat rfl rfl (xf 6 zaw rfl (xf 0 zaE rfl ?_)))))))))
 refine xL3 1 zaj rfl rfl (xmi rfl (xmi rfl (TL.callD [] [] (zhW hl) ⟨rfl,rfl,rfl,trivial⟩ trivial zie rfl rfl rfl rfl rfl (kL1 rfl trivial) (TL.callD [0] [0] (zgY hM hl) ⟨rfl,rfl,trivial⟩ ⟨rfl,trivial⟩ zgP rfl rfl rfl rfl rfl (kL1 rfl trivial) (xai rfl (dB (xmi rfl (TL.eql rfl rfl rfl rfl (fun q1=>?_) (fun q1=>?_)))))))))
 refine dT rfl (xai rfl (xaf rfl (dRR ?_)))
 refine FQ.ret2 (v:=(.int _ _)) (x:=(.bool false)) (Bs:=[A _]) [0] rfl rfl rfl rfl ⟨rfl,trivial⟩ ?_
 first | exact ⟨(by unfold zfw; dsimp only; rw [if_pos q1]),rfl⟩ | exact ⟨(by unfold zfw; dsimp only; rw [if_neg q1]),rfl⟩
 refine dF rfl (xmi rfl (TL.sub _ rfl rfl (rfl) rfl rfl (TL.quo _ rfl rfl (by omega) (quo2 _) rfl rfl (xai rfl (xat rfl (dR ?_))))))
 refine FQ.ret2 (v:=(.int _ _)) (x:=(.bool true)) (Bs:=[A _]) [0] rfl rfl rfl rfl ⟨rfl,trivial⟩ ?_
 first | exact ⟨(by unfold zfw; dsimp only; rw [if_pos q1]),rfl⟩ | exact ⟨(by unfold zfw; dsimp only; rw [if_neg q1]),rfl⟩
theorem zhS {S:Type} [MemLike S] {mt:TypeId} {mv:Value} {A:S→Assn} (hM:MemI Tryz.prog mt mv A) {l:Lay} (hl:l.Ok) {p:Pen} {σ:S} {s i:Int} {on:Bool} {k:Nat} {σ2:S} (h:lmark l k σ s i on=some σ2):FnD Tryz.prog 77 [adjV l mt mv p,.int .i64 s,.int .i64 i,.bool on] [A σ] (.tuple #[]) [A σ2]:=by
 unfold lmark at h
 refine Fn.enter (Tryz.func77) rfl rfl (fun w0 R=>?_)
 refine sA (xB 1 rfl (fun bk1=>(TL.done (TQ.then (TC.draw [(0,true),(1,true),(2,true),(3,true),(4,true),(5,true),(6,true),(7,true),(8,true),(9,true),(11,true),(10,false),(12,false)] [1] fc_m (by kernel_rfl) (xf 0 zas rfl (xf 0 zbi rfl (xf 0 zaq rfl (xL6 1 zad rfl rfl ?_)))))))))
 refine xf 0 zas rfl (xf 6 zaw rfl (xf 0 zaE rfl (xL3 1 zaj rfl rfl (xmi rfl (xmi rfl (xmb rfl (TL.callD [] [] (znr hl) ⟨rfl,rfl,rfl,rfl,trivial⟩ trivial zjX rfl rfl rfl rfl rfl (kL1 rfl trivial) (TL.callD [0] [0] (zmi hM hl (by decide) h) ⟨rfl,rfl,rfl,rfl,trivial⟩ ⟨rfl,trivial⟩ zm2 rfl rfl rfl rfl rfl (kL1 rfl trivial) ?_))))))))
 refine TL.done ?_
 refine FQ.end0 (Bs:=[A _]) [0] rfl rfl ⟨rfl,trivial⟩ ?_
 exact ⟨rfl,rfl⟩
theorem zkf {S:Type} [MemLike S] {mt:TypeId} {mv:Value} {A:S→Assn} (hM:MemI Tryz.prog mt mv A) {l:Lay} (hl:l.Ok) {p:Pen} {σ:S} {s:Int} {k:Nat} {σ2:S} (h:plant l p k σ s=some σ2):FnD Tryz.prog 32 [adjV l mt mv p,.int .i64 s] [A σ] (.tuple #[]) [A σ2]:=by
 unfold plant at h
 dsimp only at h
 obtain ⟨σ1,h1,h2⟩:=Option.bind_eq_some_iff.1 h
 refine Fn.enter (Tryz.func32) rfl rfl (fun w0 R=>?_)
 refine sA (xB 1 rfl (fun bk1=>(dA (xf 0 zas rfl (xf 6 zaw rfl (xL4 1 za6 rfl rfl (xmi rfl (TL.callD [0] [0] (zdk hM hl) ⟨rfl,rfl,trivial⟩ ⟨rfl,trivial⟩ zeB rfl rfl rfl rfl rfl trivial (TL.alloc 2 (cs:=#[.int .i64 0,.int .i64 0,.int .i64 0,.bool false]) zfS rfl rfl rfl (fun _=>trivial) (fun bk2=>?_))))))))))
 refine TL.stW 2 4 [_,_,_,_] rfl rfl rfl rfl rfl rfl zde rfl rfl trivial (dA (xf 0 zas rfl (xf 6 zaw rfl (xL4 1 za6 rfl rfl (xmi rfl (TL.callD [0] [0] (zog hM hl) ⟨rfl,rfl,rfl,trivial⟩ ⟨rfl,trivial⟩ zrb rfl rfl rfl rfl rfl trivial (dB (xf 2 zbm rfl ?_))))))))
 refine xli 2 zaa rfl rfl (TL.add _ rfl rfl (rfl) rfl rfl (xmi rfl (dK (TC.loopK (X:=Nat×S×Int) [1,2,4,18] [1,2] (fun y=>[(19,.int .i64 y.2.2)]) (fun y=>[(0,A y.2.1)]) (fun y=>zey l p s (eget l σ s).u (eget l σ s).v y.1 k y.2.1 y.2.2 (IntKind.i64.wrap ((eget l σ s).level+1))=some σ1) (fun y=>y.1) ((k,_,0)) h1 ⟨rfl,trivial⟩ ⟨rfl,trivial⟩ (fun y hI=>?_)))))
 obtain ⟨j,σ3,z⟩:=y
 rcases j with _ | j
 ·simp [zey] at hI
 dsimp only at hI
 refine TC.sub (env':=[(19,_),(1,_),(2,_),(4,_),(18,_)]) (L':=[(0,_),(1,_),(2,_)]) ⟨rfl,rfl,rfl,rfl,rfl,trivial⟩ ⟨rfl,rfl,rfl,trivial⟩ (sA (TL.lss rfl rfl rfl rfl (fun q1=>?_) (fun q1=>?_)))
 refine dS (TC.condT rfl (TC.skip (TQ.then (TC.seq (TC.block (sA (xmi rfl (xai rfl ?_))))))))
 refine dG (xf 0 zas rfl (xf 0 zbi rfl (xL6 1 zbQ rfl rfl (xmi rfl (xmi rfl (xf 0 zb5 rfl (xli 2 zaa rfl rfl (xf 1 zb4 rfl ?_))))))))
 refine xli 2 zaa rfl rfl ?_
 rw [zey,if_pos q1] at hI
 obtain ⟨⟨r,σ4⟩,h3,h4⟩:=Option.bind_eq_some_iff.1 hI
 refine TL.callD [0] [0] (zmn hM hl h3) ⟨rfl,rfl,rfl,rfl,rfl,trivial⟩ ⟨rfl,trivial⟩ zo2 rfl rfl rfl rfl rfl trivial (dI (TL.add _ rfl rfl (rfl) rfl rfl (xmi rfl (TL.done (TQ.roundK ((j,_,_)) ⟨h4,Nat.lt_succ_self _⟩ ⟨rfl,trivial⟩ ⟨rfl,trivial⟩ (kE4 rfl rfl rfl rfl trivial) (kL2 rfl rfl trivial))))))
 refine dS (TC.condF rfl (TC.exit (TQ.thenExit (TQ.thenExit (TQ.blockHere (TQ.then (TC.region (xL10 1 zbc rfl rfl ?_))))))))
 refine xmi rfl (xf 2 zbm rfl (xli 2 zaa rfl rfl ?_))
 rw [zey,if_neg q1] at hI
 cases hI
 refine TL.callD [0] [0] (zhS hM hl h2) ⟨rfl,rfl,rfl,rfl,trivial⟩ ⟨rfl,trivial⟩ zmK rfl rfl rfl rfl rfl trivial (TL.done ?_)
 refine FQ.end0 (Bs:=[A _]) [0] rfl rfl ⟨rfl,trivial⟩ ?_
 exact ⟨rfl,rfl⟩
theorem zpM {S:Type} [MemLike S] {mt:TypeId} {mv:Value} {A:S→Assn} (hM:MemI Tryz.prog mt mv A) {l:Lay} (hl:l.Ok) {p:Pen} {σ:S} {s:Int} {k:Nat} {σ2:S} (h:fell l p k σ s=some σ2):FnD Tryz.prog 28 [adjV l mt mv p,.int .i64 s] [A σ] (.tuple #[]) [A σ2]:=by
 unfold fell at h
 refine Fn.enter (Tryz.func28) rfl rfl (fun w0 R=>?_)
 refine sA (xB 1 rfl (fun bk1=>(dA (xf 0 zas rfl (xf 6 zaw rfl (xL4 1 za6 rfl rfl (xmi rfl (TL.callD [0] [0] (zdk hM hl) ⟨rfl,rfl,trivial⟩ ⟨rfl,trivial⟩ zeB rfl rfl rfl rfl rfl trivial (TL.fv 2 3 (.int _ _) rfl zfU zaa rfl rfl rfl ?_)))))))))
 refine TL.add _ rfl rfl (rfl) rfl rfl (xmi rfl (dK (TC.loopK (X:=Nat×S×Int) [1,2,11] [1] (fun y=>[(12,.int .i64 y.2.2)]) (fun y=>[(0,A y.2.1)]) (fun y=>zh1 l p s y.1 k y.2.1 y.2.2 (IntKind.i64.wrap ((eget l σ s).level+1))=some σ2) (fun y=>y.1) ((k,_,0)) h ⟨rfl,trivial⟩ ⟨rfl,trivial⟩ (fun y hI=>?_))))
 obtain ⟨j,σ3,z⟩:=y
 rcases j with _ | j
 ·simp [zh1] at hI
 dsimp only at hI
 refine TC.sub (env':=[(12,_),(1,_),(2,_),(11,_)]) (L':=[(0,_),(1,_)]) ⟨rfl,rfl,rfl,rfl,trivial⟩ ⟨rfl,rfl,trivial⟩ (sA (TL.lss rfl rfl rfl rfl (fun q1=>?_) (fun q1=>?_)))
 refine dS (TC.condT rfl (TC.skip (TQ.then (TC.seq (TC.block (sA (xmi rfl (xai rfl ?_))))))))
 refine dG (xf 0 zas rfl (xf 0 zbi rfl (xL6 1 zbQ rfl rfl (xmi rfl (xmi rfl ?_)))))
 rw [zh1,if_pos q1] at hI
 obtain ⟨⟨r,σ4⟩,h3,h4⟩:=Option.bind_eq_some_iff.1 hI
 refine TL.callD [0] [0] (zrw hM hl h3) ⟨rfl,rfl,rfl,trivial⟩ ⟨rfl,trivial⟩ zrc rfl rfl rfl rfl rfl trivial (dI (TL.add _ rfl rfl (rfl) rfl rfl (xmi rfl (TL.done (TQ.roundK ((j,_,_)) ⟨h4,Nat.lt_succ_self _⟩ ⟨rfl,trivial⟩ ⟨rfl,trivial⟩ (kE3 rfl rfl rfl trivial) (kL1 rfl trivial))))))
 refine dS (TC.condF rfl (TC.exit (TQ.thenExit (TQ.thenExit (TQ.blockHere ?_)))))
 refine FQ.end0 (Bs:=[A _]) [0] rfl rfl ⟨rfl,trivial⟩ ?_
 rw [zh1,if_neg q1] at hI; cases hI; exact ⟨rfl,rfl⟩
theorem zlt {S:Type} [MemLike S] {mt:TypeId} {mv:Value} {A:S→Assn} (hM:MemI Tryz.prog mt mv A) {l:Lay} (hl:l.Ok) {p:Pen} {σ:S} {s:Int} {k:Nat} {σ2:S} (h:treeUp l p k σ s=some σ2):FnD Tryz.prog 27 [adjV l mt mv p,.int .i64 s] [A σ] (.tuple #[]) [A σ2]:=by
 unfold treeUp at h
 dsimp only at h
 obtain ⟨σ1,h1,h⟩:=Option.bind_eq_some_iff.1 h
 obtain ⟨⟨r,σ3⟩,h2,h3⟩:=Option.bind_eq_some_iff.1 h
 dsimp only at h3
 refine Fn.enter (Tryz.func27) rfl rfl (fun w0 R=>?_)
 refine sA (xB 1 rfl (fun bk1=>(dA (xf 0 zas rfl (xf 6 zaw rfl (xL4 1 za6 rfl rfl (xmi rfl (TL.callD [0] [0] (zdk hM hl) ⟨rfl,rfl,trivial⟩ ⟨rfl,trivial⟩ zeB rfl rfl rfl rfl rfl trivial (TL.alloc 2 (cs:=#[.int .i64 0,.int .i64 0,.int .i64 0,.bool false]) zfS rfl rfl rfl (fun _=>trivial) (fun bk2=>?_))))))))))
 refine TL.stW 2 4 [_,_,_,_] rfl rfl rfl rfl rfl rfl zde rfl rfl trivial (dA (xL10 1 zbc rfl rfl (xmi rfl (xf 2 zbm rfl (xli 2 zaa rfl rfl (TL.callD [0] [0] (zhS hM hl h1) ⟨rfl,rfl,rfl,rfl,trivial⟩ ⟨rfl,trivial⟩ zmK rfl rfl rfl rfl rfl trivial (dA (xf 0 zas rfl ?_))))))))
 refine xf 6 zaw rfl (xL4 1 za6 rfl rfl (xmi rfl (xf 2 zbm rfl (xli 2 zaa rfl rfl (TL.add _ rfl rfl (rfl) rfl rfl (TL.callD [0] [0] (zkH hM hl) ⟨rfl,rfl,rfl,trivial⟩ ⟨rfl,trivial⟩ zo9 rfl rfl rfl rfl rfl trivial (dA (xf 0 zas rfl ?_))))))))
 refine xf 0 zbi rfl (xL6 1 zbQ rfl rfl (xf 2 zbm rfl (xli 2 zaa rfl rfl (TL.add _ rfl rfl (rfl) rfl rfl (xmi rfl (xf 0 zb5 rfl (xli 2 zaa rfl rfl (xf 1 zb4 rfl ?_))))))))
 refine xli 2 zaa rfl rfl (TL.callD [0] [0] (zmn hM hl h2) ⟨rfl,rfl,rfl,rfl,rfl,trivial⟩ ⟨rfl,trivial⟩ zo2 rfl rfl rfl rfl rfl trivial (dG (xL10 1 zbc rfl rfl (xmi rfl (xf 2 zbm rfl (xli 2 zaa rfl rfl (TL.add _ rfl rfl (rfl) rfl rfl (TL.callD [0] [0] (zhS hM hl h3) ⟨rfl,rfl,rfl,rfl,trivial⟩ ⟨rfl,trivial⟩ zmK rfl rfl rfl rfl rfl trivial ?_))))))))
 refine TL.done ?_
 refine FQ.end0 (Bs:=[A _]) [0] rfl rfl ⟨rfl,trivial⟩ ?_
 exact ⟨rfl,rfl⟩
theorem znT {S:Type} [MemLike S] {mt:TypeId} {mv:Value} {A:S→Assn} (hM:MemI Tryz.prog mt mv A) {l:Lay} (hl:l.Ok) {p:Pen} {σ:S} {s:Int} {k:Nat} {σ2:S} (h:plain l k σ s=some σ2):FnD Tryz.prog 60 [adjV l mt mv p,.int .i64 s] [A σ] (.tuple #[]) [A σ2]:=by
 unfold plain at h
 dsimp only at h
 obtain ⟨σ1,h1,h2⟩:=Option.bind_eq_some_iff.1 h
 refine Fn.enter (Tryz.func60) rfl rfl (fun w0 R=>?_)
 refine sA (xB 1 rfl (fun bk1=>(dA (xf 0 zas rfl (xf 6 zaw rfl (xL4 1 za6 rfl rfl (xmi rfl (TL.callD [0] [0] (zdk hM hl) ⟨rfl,rfl,trivial⟩ ⟨rfl,trivial⟩ zeB rfl rfl rfl rfl rfl trivial (TL.fv 2 3 (.int _ _) rfl zfU zaa rfl rfl rfl ?_)))))))))
 refine xai rfl (dA (xf 0 zas rfl (xL10 1 zat rfl rfl (xmi rfl (TL.callD [0] [0] (zgX hM hl h1) ⟨rfl,rfl,trivial⟩ ⟨rfl,trivial⟩ zmL rfl rfl rfl rfl rfl trivial (dA (xf 0 zas rfl (xf 6 zaw rfl ?_))))))))
 refine xL4 1 za6 rfl rfl (xmi rfl (xmi rfl (TL.add _ rfl rfl (rfl) rfl rfl (TL.callD [0] [0] (zkH hM hl) ⟨rfl,rfl,rfl,trivial⟩ ⟨rfl,trivial⟩ zo9 rfl rfl rfl rfl rfl trivial (dG (xf 0 zas rfl (xL10 1 zat rfl rfl (xmi rfl ?_))))))))
 refine TL.callD [0] [0] (zi8 hM hl h2) ⟨rfl,rfl,trivial⟩ ⟨rfl,trivial⟩ zoY rfl rfl rfl rfl rfl trivial (TL.done ?_)
 refine FQ.end0 (Bs:=[A _]) [0] rfl rfl ⟨rfl,trivial⟩ ?_
 exact ⟨rfl,rfl⟩
theorem zfe {S:Type} [MemLike S] {mt:TypeId} {mv:Value} {A:S→Assn} (hM:MemI Tryz.prog mt mv A) {l:Lay} (hl:l.Ok) {p:Pen} {σ:S} {i v m r:Int} {k:Nat} {σ2:S} (h0:0≤m) (h:lfirst l k σ i v m=some (r,σ2)):FnD Tryz.prog 62 [adjV l mt mv p,.int .i64 i,.int .i64 v,.int .i64 m] [A σ] (.int .i64 r) [A σ2]:=by
 unfold lfirst at h
 obtain ⟨⟨a,σ1⟩,h1,h2⟩:=Option.bind_eq_some_iff.1 h
 refine Fn.enter (Tryz.func62) rfl rfl (fun w0 R=>?_)
 refine sA (xB 1 rfl (fun bk1=>(xai rfl (dS (TC.draw [(0,true),(1,true),(2,true),(3,true),(4,true),(5,true),(6,true),(7,true),(8,true),(9,true),(10,true),(11,true),(12,true),(13,true),(16,true),(14,false),(15,false),(17,false),(18,true)] [1] fc_m (by kernel_rfl) (xf 0 zas rfl (xf 0 zbi rfl (xf 0 zaq rfl (xL6 1 zad rfl rfl ?_)))))))))
 refine xf 0 zas rfl (xf 0 zbi rfl (xf 0 zaq rfl (xL6 1 zad rfl rfl (xf 0 zas rfl (xf 6 zaw rfl (xf 0 zaE rfl (xL3 1 zaj rfl rfl (xmi rfl ?_))))))))
 refine xmi rfl (xmi rfl (TL.callD [] [] (zdl hl) ⟨rfl,rfl,rfl,trivial⟩ trivial zhl rfl rfl rfl rfl rfl (kL1 rfl trivial) (TL.callD [0] [0] (zeH hM hl h1) ⟨rfl,rfl,trivial⟩ ⟨rfl,trivial⟩ zgI rfl rfl rfl rfl rfl (kL1 rfl trivial) (TL.callD [0] [0] (zob hM hl h0 h2) ⟨rfl,rfl,rfl,trivial⟩ ⟨rfl,trivial⟩ zp9 rfl rfl rfl rfl rfl (kL1 rfl trivial) (xai rfl (dR ?_))))))
 refine FQ.ret1 (v:=(.int _ _)) (Bs:=[A _]) [0] rfl rfl rfl ⟨rfl,trivial⟩ ?_
 exact ⟨rfl,rfl⟩
theorem znF {S:Type} [MemLike S] {mt:TypeId} {mv:Value} {A:S→Assn} (hM:MemI Tryz.prog mt mv A) {l:Lay} (hl:l.Ok) {p:Pen} {σ:S} {i v:Int} {k:Nat} {σ2:S} (h:trees l p k σ i v=some σ2):FnD Tryz.prog 33 [adjV l mt mv p,.int .i64 i,.int .i64 v] [A σ] (.tuple #[]) [A σ2]:=by
 unfold trees at h
 obtain ⟨⟨a,σ1⟩,h1,h2⟩:=Option.bind_eq_some_iff.1 h
 dsimp only at h2
 refine Fn.enter (Tryz.func33) rfl rfl (fun w0 R=>?_)
 refine sA (xB 1 rfl (fun bk1=>(dA (xL10 1 zbc rfl rfl (xmi rfl (xmi rfl (TL.callD [0] [0] (zfe hM hl (by decide) h1) ⟨rfl,rfl,rfl,rfl,trivial⟩ ⟨rfl,trivial⟩ zkw rfl rfl rfl rfl rfl trivial (xai rfl (dK ?_)))))))))
 refine TC.loopK (X:=Nat×S×Int) [1,2,3] [1] (fun y=>[(6,.int .i64 y.2.2)]) (fun y=>[(0,A y.2.1)]) (fun y=>zev l p i v y.1 k y.2.1 y.2.2=some σ2) (fun y=>y.1) ((k,_,_)) h2 ⟨rfl,trivial⟩ ⟨rfl,trivial⟩ (fun y hI=>?_)
 obtain ⟨j,σ3,z⟩:=y
 rcases j with _ | j
 ·simp [zev] at hI
 dsimp only at hI
 refine TC.sub (env':=[(6,_),(1,_),(2,_),(3,_)]) (L':=[(0,_),(1,_)]) ⟨rfl,rfl,rfl,rfl,trivial⟩ ⟨rfl,rfl,trivial⟩ (sB (xmi rfl (TL.neq rfl rfl rfl rfl (fun q1=>?_) (fun q1=>?_))))
 refine TL.done (TQ.then (TC.condT rfl (TC.skip (TQ.then (TC.seq (TC.block (sA (xf 0 zas rfl ?_))))))))
 refine xf 6 zaw rfl (xf 0 zaE rfl (xL3 1 zaj rfl rfl (xmi rfl (TL.callD [] [] (zhO hl) ⟨rfl,rfl,trivial⟩ trivial zkv rfl rfl rfl rfl rfl trivial (xmu rfl (TL.ext (.agg _) rfl rfl rfl rfl (TL.ext (.bool _) rfl rfl rfl rfl (TL.alloc 2 (cs:=#[.bool false,.int .i64 0,.int .i64 0,.int .i64 0,.int .i64 0]) zd0 rfl rfl rfl (fun _=>trivial) (fun bk2=>?_)))))))))
 refine TL.stW 2 5 [_,_,_,_,_] rfl rfl rfl rfl rfl rfl zbU rfl rfl trivial (xab rfl (dG (xL10 1 zbc rfl rfl (xf 3 zjN rfl (xli 2 zaa rfl rfl ?_)))))
 rw [zev,if_pos q1] at hI
 obtain ⟨σ4,h3,hI⟩:=Option.bind_eq_some_iff.1 hI
 obtain ⟨⟨r,σ5⟩,h5,h6⟩:=Option.bind_eq_some_iff.1 hI
 refine TL.callD [0] [0] (zlt hM hl h3) ⟨rfl,rfl,trivial⟩ ⟨rfl,trivial⟩ zrr rfl rfl rfl rfl rfl trivial (dI (xL10 1 zbc rfl rfl (xmi rfl (xmi rfl (TL.callD [0] [0] (zfe hM hl (by decide) h5) ⟨rfl,rfl,rfl,rfl,trivial⟩ ⟨rfl,trivial⟩ zkw rfl rfl rfl rfl rfl trivial (xai rfl (TL.done (TQ.roundK ((j,_,_)) ⟨h6,Nat.lt_succ_self _⟩ ⟨rfl,trivial⟩ ⟨rfl,trivial⟩ (kE3 rfl rfl rfl trivial) (kL1 rfl trivial)))))))))
 refine TL.done (TQ.then (TC.condF rfl (TC.exit (TQ.thenExit (TQ.thenExit (TQ.blockHere ?_))))))
 refine FQ.end0 (Bs:=[A _]) [0] rfl rfl ⟨rfl,trivial⟩ ?_
 rw [zev,if_neg q1] at hI; cases hI; exact ⟨rfl,rfl⟩
theorem zpm {S:Type} [MemLike S] {mt:TypeId} {mv:Value} {A:S→Assn} (hM:MemI Tryz.prog mt mv A) {l:Lay} (hl:l.Ok) {p:Pen} {σ:S} {i v:Int} {r:Int×Bool} {k:Nat} {σ2:S} (h:seek l k σ i v=some (r,σ2)):FnD Tryz.prog 20 [adjV l mt mv p,.int .i64 i,.int .i64 v] [A σ] (.tuple #[.int .i64 r.1,.bool r.2]) [A σ2]:=by
 unfold seek at h
 obtain ⟨⟨a,σ1⟩,h1,h2⟩:=Option.bind_eq_some_iff.1 h
 dsimp only at h2
 refine Fn.enter (Tryz.func20) rfl rfl (fun w0 R=>?_)
 refine sA (xB 1 rfl (fun bk1=>(xai rfl (xaf rfl (dB (xL10 1 zbc rfl rfl (xmi rfl (xmi rfl (TL.callD [0] [0] (zfe hM hl (by decide) h1) ⟨rfl,rfl,rfl,rfl,trivial⟩ ⟨rfl,trivial⟩ zkw rfl rfl rfl rfl rfl trivial ?_)))))))))
 refine xai rfl (dK (TC.loopK (X:=Nat×S×Int) [1,2,3] [1] (fun y=>[(8,.int .i64 y.2.2),(6,.int .i64 0),(7,.bool false)]) (fun y=>[(0,A y.2.1)]) (fun y=>zf0 l i v y.1 k y.2.1 y.2.2=some (r,σ2)) (fun y=>y.1) ((k,_,_)) h2 ⟨rfl,rfl,rfl,trivial⟩ ⟨rfl,trivial⟩ (fun y hI=>?_)))
 obtain ⟨j,σ3,z⟩:=y
 rcases j with _ | j
 ·simp [zf0] at hI
 dsimp only at hI
 refine TC.sub (env':=[(8,_),(6,_),(7,_),(1,_),(2,_),(3,_)]) (L':=[(0,_),(1,_)]) ⟨rfl,rfl,rfl,rfl,rfl,rfl,trivial⟩ ⟨rfl,rfl,trivial⟩ (sB (xmi rfl (TL.neq rfl rfl rfl rfl (fun q1=>?_) (fun q1=>?_))))
 refine TL.done (TQ.then (TC.condT rfl (TC.skip (TQ.then (TC.seq (TC.block (sA (xf 0 zas rfl ?_))))))))
 refine xf 6 zaw rfl (xf 0 zaE rfl (xL3 1 zaj rfl rfl (xmi rfl (TL.callD [] [] (zhO hl) ⟨rfl,rfl,trivial⟩ trivial zkv rfl rfl rfl rfl rfl trivial (xmu rfl (TL.ext (.agg _) rfl rfl rfl rfl (TL.ext (.bool _) rfl rfl rfl rfl (TL.alloc 2 (cs:=#[.bool false,.int .i64 0,.int .i64 0,.int .i64 0,.int .i64 0]) zd0 rfl rfl rfl (fun _=>trivial) (fun bk2=>?_)))))))))
 refine TL.stW 2 5 [_,_,_,_,_] rfl rfl rfl rfl rfl rfl zbU rfl rfl trivial (xab rfl (dA (xf 0 zas rfl (xL10 1 zat rfl rfl (xf 2 zjO rfl (xli 2 zaa rfl rfl (xmi rfl (TL.callD [0] [0] (znv hM hl) ⟨rfl,rfl,rfl,trivial⟩ ⟨rfl,trivial⟩ zrk rfl rfl rfl rfl rfl trivial ?_))))))))
 refine xmu rfl (xei rfl rfl (TL.ext (.bool _) rfl rfl rfl rfl (xai rfl (xab rfl (dB (xf 0 zas rfl (xf 6 zaw rfl (xL4 1 za6 rfl rfl ?_))))))))
 refine xmi rfl (TL.callD [0] [0] (zdk hM hl) ⟨rfl,rfl,trivial⟩ ⟨rfl,trivial⟩ zeB rfl rfl rfl rfl rfl trivial (TL.alloc 3 (cs:=#[.int .i64 0,.int .i64 0,.int .i64 0,.bool false]) zfS rfl rfl rfl (fun _=>trivial) (fun bk3=>(TL.stW 3 4 [_,_,_,_] rfl rfl rfl rfl rfl rfl zde rfl rfl trivial (dA (xf 0 zas rfl (xf 0 zbi rfl (xL6 1 zbQ rfl rfl (xmi rfl ?_)))))))))
 refine xf 0 zb5 rfl (xli 3 zaa rfl rfl (xf 1 zb4 rfl (xli 3 zaa rfl rfl ?_)))
 rw [zf0,if_pos q1] at hI
 dsimp only at hI
 obtain ⟨⟨b,σ4⟩,h3,hI⟩:=Option.bind_eq_some_iff.1 hI
 dsimp only at hI
 refine TL.callD [0] [0] (zlL hM hl h3) ⟨rfl,rfl,rfl,rfl,trivial⟩ ⟨rfl,trivial⟩ zpa rfl rfl rfl rfl rfl trivial (TL.cases rfl (fun q2=>?_) (fun q2=>?_))
 refine xnt rfl (TL.done (TQ.then (TC.condF rfl (TC.skip (TQ.then (TC.region (xL10 1 zbc rfl rfl (xmi rfl ?_))))))))
 rw [if_pos (by simpa using q2)] at hI
 obtain ⟨σ5,h4,hI⟩:=Option.bind_eq_some_iff.1 hI
 obtain ⟨⟨r2,σ6⟩,h5,h6⟩:=Option.bind_eq_some_iff.1 hI
 refine TL.callD [0] [0] (znT hM hl h4) ⟨rfl,rfl,trivial⟩ ⟨rfl,trivial⟩ zrm rfl rfl rfl rfl rfl trivial (dI (xL10 1 zbc rfl rfl (xmi rfl (xmi rfl (TL.callD [0] [0] (zfe hM hl (by decide) h5) ⟨rfl,rfl,rfl,rfl,trivial⟩ ⟨rfl,trivial⟩ zkw rfl rfl rfl rfl rfl trivial (xai rfl (TL.done (TQ.roundK ((j,_,_)) ⟨h6,Nat.lt_succ_self _⟩ ⟨rfl,rfl,rfl,trivial⟩ ⟨rfl,trivial⟩ (kE3 rfl rfl rfl trivial) (kL1 rfl trivial)))))))))
 refine xnf rfl (dT rfl (xmi rfl (xai rfl (xat rfl (dRR (TQ.blockRet (TQ.thenRet (TQ.thenRet ?_))))))))
 refine TQ.blockRet (TQ.thenRet ?_)
 refine FQ.ret2 (v:=(.int _ _)) (x:=(.bool true)) (Bs:=[A _]) [0] rfl rfl rfl rfl ⟨rfl,trivial⟩ ?_
 rw [if_neg (by simpa using q2)] at hI; cases hI; exact ⟨rfl,rfl⟩
 refine dE rfl (sA (xai rfl (xaf rfl (dR ?_))))
 refine FQ.ret2 (v:=(.int _ _)) (x:=(.bool false)) (Bs:=[A _]) [0] rfl rfl rfl rfl ⟨rfl,trivial⟩ ?_
 rw [zf0,if_neg q1] at hI; cases hI; exact ⟨rfl,rfl⟩
theorem zkW {S:Type} [MemLike S] {mt:TypeId} {mv:Value} {A:S→Assn} (hM:MemI Tryz.prog mt mv A) {l:Lay} (hl:l.Ok) {p:Pen} {σ:S} {i u v r:Int} {k:Nat} {σ2:S} (h:smaller l k σ i u v=some (r,σ2)):FnD Tryz.prog 26 [adjV l mt mv p,.int .i64 i,.int .i64 u,.int .i64 v] [A σ] (.int .i64 r) [A σ2]:=by
 unfold smaller at h
 obtain ⟨⟨a,σ1⟩,h1,h⟩:=Option.bind_eq_some_iff.1 h
 obtain ⟨⟨b,σ3⟩,h2,h⟩:=Option.bind_eq_some_iff.1 h
 dsimp only at h2 h
 cases h
 refine Fn.enter (Tryz.func26) rfl rfl (fun w0 R=>?_)
 refine sA (xB 1 rfl (fun bk1=>(xai rfl (dS (TC.seq (TC.draw [(0,true),(1,true),(2,true),(3,true),(4,true),(6,true),(7,true),(8,true),(9,true),(10,true),(5,false),(11,false),(12,true)] [1] fc_m (by kernel_rfl) (xf 0 zas rfl (xf 0 zbi rfl (xL6 1 zbQ rfl rfl ?_)))))))))
 refine xmi rfl (xmi rfl (xf 0 zas rfl (xf 0 zbi rfl (xL6 1 zbQ rfl rfl (xmi rfl (xmi rfl (TL.callD [0] [0] (zkL hM hl h1) ⟨rfl,rfl,rfl,trivial⟩ ⟨rfl,trivial⟩ zo3 rfl rfl rfl rfl rfl (kL1 rfl trivial) (TL.callD [0] [0] (zkL hM hl h2) ⟨rfl,rfl,rfl,trivial⟩ ⟨rfl,trivial⟩ zo3 rfl rfl rfl rfl rfl (kL1 rfl trivial) ?_))))))))
 refine TL.lss rfl rfl rfl rfl (fun q1=>?_) (fun q1=>?_)
 refine dT rfl (xmi rfl (xai rfl (dRR ?_)))
 refine FQ.ret1 (v:=(.int _ _)) (Bs:=[A _]) [0] rfl rfl rfl ⟨rfl,trivial⟩ ?_
 first | exact ⟨iE (by rw [if_pos q1]),rfl⟩ | exact ⟨iE (by rw [if_neg q1]),rfl⟩
 refine dF rfl (xmi rfl (xai rfl (dR ?_)))
 refine FQ.ret1 (v:=(.int _ _)) (Bs:=[A _]) [0] rfl rfl rfl ⟨rfl,trivial⟩ ?_
 first | exact ⟨iE (by rw [if_pos q1]),rfl⟩ | exact ⟨iE (by rw [if_neg q1]),rfl⟩
theorem zkn {mt:TypeId} {mv:Value} {l:Lay} {p:Pen}:FnD Tryz.prog 86 [layV l,.iface mt mv,.agg #[.int .i64 p.thread,.int .i64 p.tag]] [] (adjV l mt mv p) []:=by
 refine Fn.enter (Tryz.func86) rfl rfl (fun w0 R=>?_)
 refine sA (xB 0 rfl (fun bk0=>(xB 1 rfl (fun bk1=>(TL.alloc 2 (cs:=#[.int .i64 0,.int .i64 0,.int .i64 0,.nilIface,.int .i64 0,.int .i64 0,.int .i64 0,.int .i64 0,.int .i64 0,.nilIface]) zoP rfl rfl rfl (fun _=>trivial) (fun bk2=>(dA (xL3 0 zaj rfl rfl (xmc rfl (xL2 1 zkC rfl rfl (TL.bld [.int .i64 0,.int .i64 0,.int .i64 0,.nilIface,.int .i64 0,.int .i64 0] [(.agg _),(.iface _ _),(.agg _)] [_,_,_,_,_,_] ziW zmG ⟨rfl,rfl,rfl,trivial⟩ ⟨rfl,rfl⟩ rfl rfl ?_)))))))))))
 refine TL.bld [.int .i64 0,.int .i64 0,.int .i64 0,.nilIface,.int .i64 0,.int .i64 0] [(.agg _)] [_,_,_,_,_,_] zoR zq5 ⟨rfl,trivial⟩ ⟨rfl,rfl⟩ rfl rfl (TL.alloc 3 (cs:=#[.int .i64 0,.int .i64 0,.int .i64 0,.nilIface,.int .i64 0,.int .i64 0]) zoR rfl rfl rfl (fun _=>trivial) (fun bk3=>(TL.stW 3 6 [_,_,_,_,_,_] rfl rfl rfl rfl rfl rfl zbQ rfl rfl trivial (dA (xL6 3 zbQ rfl rfl (xL3 0 zaj rfl rfl (xmc rfl (TL.bld [.int .i64 0,.int .i64 0,.int .i64 0,.nilIface] [(.agg _),(.iface _ _)] [_,_,_,_] zqV zq4 ⟨rfl,rfl,trivial⟩ ⟨rfl,rfl⟩ rfl rfl ?_))))))))
 refine TL.bld [.int .i64 0,.int .i64 0,.int .i64 0,.nilIface,.int .i64 0,.int .i64 0,.int .i64 0,.int .i64 0,.int .i64 0,.nilIface] [(.agg _),(.agg _)] [_,_,_,_,_,_,_,_,_,_] zqU zq3 ⟨rfl,rfl,trivial⟩ ⟨rfl,rfl⟩ rfl rfl (TL.bld [.int .i64 0,.int .i64 0,.int .i64 0,.nilIface,.int .i64 0,.int .i64 0,.int .i64 0,.int .i64 0,.int .i64 0,.nilIface] [(.agg _)] [_,_,_,_,_,_,_,_,_,_] zqT zq2 ⟨rfl,trivial⟩ ⟨rfl,rfl⟩ rfl rfl (TL.bld [.int .i64 0,.int .i64 0,.int .i64 0,.nilIface,.int .i64 0,.int .i64 0,.int .i64 0,.int .i64 0,.int .i64 0,.nilIface] [(.agg _)] [_,_,_,_,_,_,_,_,_,_] zoP zqZ ⟨rfl,trivial⟩ ⟨rfl,rfl⟩ rfl rfl ?_))
 refine TL.stW 2 10 [_,_,_,_,_,_,_,_,_,_] rfl rfl rfl rfl rfl rfl za5 rfl rfl trivial (dR ?_)
 refine FQ.retG (rs:=[.cell 6 88]) [(.agg _)] (Bs:=[]) [] rfl ⟨⟨_,_,_,_,_,2,rfl,rfl,.inr ⟨10,[_,_,_,_,_,_,_,_,_,_],za5,rfl,rfl⟩⟩,trivial⟩ rfl rfl trivial ?_
 exact ⟨rfl,rfl⟩
theorem zdX {S:Type} [MemLike S] {mt:TypeId} {mv:Value} {A:S→Assn} (hM:MemI Tryz.prog mt mv A) {l:Lay} (hl:l.Ok) {p:Pen} {σ:S} {u v:Int} {b:Bool} {k:Nat} {σ2:S} (h:same l k σ 0 u v=some (b,σ2)):FnD Tryz.prog 40 [adjV l mt mv p,.int .i64 u,.int .i64 v] [A σ] (.bool b) [A σ2]:=by
 refine Fn.enter (Tryz.func40) rfl rfl (fun w0 R=>?_)
 refine sA (xB 1 rfl (fun bk1=>(xaf rfl (dA (xf 0 zaR rfl (xf 0 zas rfl (xf 0 zbi rfl (xL6 1 zbQ rfl rfl (xmi rfl ?_)))))))))
 refine xmi rfl (TL.callD [0] [0] (zlL hM hl h) ⟨rfl,rfl,rfl,rfl,trivial⟩ ⟨rfl,trivial⟩ zpa rfl rfl rfl rfl rfl trivial (xab rfl (dR ?_)))
 refine FQ.ret1 (v:=(.bool _)) (Bs:=[A _]) [0] rfl rfl rfl ⟨rfl,trivial⟩ ?_
 exact ⟨rfl,rfl⟩
theorem zei {S:Type} [MemLike S] {mt:TypeId} {mv:Value} {A:S→Assn} (hM:MemI Tryz.prog mt mv A) {l:Lay} (hl:l.Ok) {p:Pen} {σ:S} {s u v:Int} {b:Bool} {k:Nat} {σ2:S} (h:zcq l p k σ s u v=some (b,σ2)):FnD Tryz.prog 45 [adjV l mt mv p,.int .i64 s,.int .i64 u,.int .i64 v] [A σ] (.bool b) [A σ2]:=by
 unfold zcq at h
 obtain ⟨⟨j,σ1⟩,h1,h⟩:=Option.bind_eq_some_iff.1 h
 dsimp only at h
 refine Fn.enter (Tryz.func45) rfl rfl (fun w0 R=>?_)
 refine sA (xB 1 rfl (fun bk1=>(xaf rfl (dA (xL10 1 za5 rfl rfl (xmi rfl (xmi rfl (TL.callD [0] [0] (zdX hM hl h1) ⟨rfl,rfl,rfl,trivial⟩ ⟨rfl,trivial⟩ zi1 rfl rfl rfl rfl rfl trivial (xab rfl ?_)))))))))
 refine dA (xf 0 zaR rfl (xf 0 zas rfl (xf 6 zaw rfl (xL4 1 za6 rfl rfl (xmi rfl (xmi rfl (xmi rfl (TL.callD [0] [0] (zqb hM hl) ⟨rfl,rfl,rfl,rfl,rfl,rfl,trivial⟩ ⟨rfl,trivial⟩ zra rfl rfl rfl rfl rfl trivial ?_))))))))
 refine dB (xmb rfl (TL.cases rfl (fun q1=>?_) (fun q1=>?_)))
 refine TL.done (TQ.then (TC.condT rfl (TC.region (xf 0 zaR rfl (xf 0 zas rfl (xL10 1 zat rfl rfl (xmi rfl ?_)))))))
 rw [if_pos (by simpa using q1)] at h
 obtain ⟨σ3,h2,h3⟩:=Option.bind_eq_some_iff.1 h
 cases h3
 refine TL.callD [0] [0] (zi8 hM hl h2) ⟨rfl,rfl,trivial⟩ ⟨rfl,trivial⟩ zoY rfl rfl rfl rfl rfl trivial (dA (xmb rfl (TL.not _ _ rfl rfl rfl rfl (xab rfl (dR ?_)))))
 refine FQ.ret1 (v:=(.bool _)) (Bs:=[A _]) [0] rfl rfl rfl ⟨rfl,trivial⟩ ?_
 first | exact ⟨by rw [q1]; rfl,rfl⟩ | exact ⟨by simp [*],rfl⟩
 refine TL.done (TQ.then (TC.condF rfl (TC.region (xf 0 zaR rfl (xL10 1 zbc rfl rfl (xmi rfl ?_))))))
 rw [if_neg (by simpa using q1)] at h
 obtain ⟨σ3,h2,h3⟩:=Option.bind_eq_some_iff.1 h
 cases h3
 refine TL.callD [0] [0] (zkf hM hl h2) ⟨rfl,rfl,trivial⟩ ⟨rfl,trivial⟩ zo8 rfl rfl rfl rfl rfl trivial (dA (xmb rfl (TL.not _ _ rfl rfl rfl rfl (xab rfl (dR ?_)))))
 refine FQ.ret1 (v:=(.bool _)) (Bs:=[A _]) [0] rfl rfl rfl ⟨rfl,trivial⟩ ?_
 first | exact ⟨by rw [q1]; rfl,rfl⟩ | exact ⟨by simp [*],rfl⟩
theorem zkZ {S:Type} [MemLike S] {mt:TypeId} {mv:Value} {A:S→Assn} (hM:MemI Tryz.prog mt mv A) {l:Lay} (hl:l.Ok) {p:Pen} {σ:S} {i u v:Int} {r:Int×Bool} {k:Nat} {σ2:S} (h:replace l p k σ i u v=some (r,σ2)):FnD Tryz.prog 89 [adjV l mt mv p,.int .i64 i,.int .i64 u,.int .i64 v] [A σ] (.tuple #[.int .i64 r.1,.bool r.2]) [A σ2]:=by
 unfold replace at h
 refine Fn.enter (Tryz.func89) rfl rfl (fun w0 R=>?_)
 refine sA (xB 1 rfl (fun bk1=>(xai rfl (xaf rfl (dB (xmi rfl (TL.add _ rfl rfl (rfl) rfl rfl (xf 0 zaR rfl (xf 0 zas rfl ?_)))))))))
 refine xf 6 zaw rfl (xf 0 zaE rfl (xL3 1 zaj rfl rfl (TL.callD [] [] (zbT hl) ⟨rfl,trivial⟩ trivial zeC rfl rfl rfl rfl rfl trivial (TL.geq rfl rfl rfl rfl (fun q1=>?_) (fun q1=>?_)))))
 refine dT rfl (xai rfl (xaf rfl (dRR ?_)))
 refine FQ.ret2 (v:=(.int _ _)) (x:=(.bool false)) (Bs:=[A _]) [0] rfl rfl rfl rfl ⟨rfl,trivial⟩ ?_
 first | (rw [if_pos (by omega)] at h; cases h; exact ⟨rfl,rfl⟩) | exact ⟨by dsimp only at q2; rw [q2],rfl⟩ | (rw [if_neg (by simpa using q2)] at h; cases h; exact ⟨by simp_all,rfl⟩)
 refine dF rfl (xf 0 zaR rfl (xL10 1 zbc rfl rfl (xmi rfl (xmi rfl (xmi rfl ?_)))))
 rw [if_neg (by omega)] at h
 obtain ⟨⟨w,σ3⟩,h1,h⟩:=Option.bind_eq_some_iff.1 h
 obtain ⟨σ4,h2,h⟩:=Option.bind_eq_some_iff.1 h
 obtain ⟨⟨⟨b,ok⟩,σ5⟩,h3,h⟩:=Option.bind_eq_some_iff.1 h
 dsimp only at h2 h3 h
 refine TL.callD [0] [0] (zkW hM hl h1) ⟨rfl,rfl,rfl,rfl,trivial⟩ ⟨rfl,trivial⟩ zrs rfl rfl rfl rfl rfl trivial (xai rfl (dA (xf 0 zaR rfl (xL10 1 zbc rfl rfl (xmi rfl (xmi rfl (TL.callD [0] [0] (znF hM hl h2) ⟨rfl,rfl,rfl,trivial⟩ ⟨rfl,trivial⟩ zrp rfl rfl rfl rfl rfl trivial (dB ?_))))))))
 refine xf 0 zaR rfl (xL10 1 zbc rfl rfl (xmi rfl (xmi rfl (TL.callD [0] [0] (zpm hM hl h3) ⟨rfl,rfl,rfl,trivial⟩ ⟨rfl,trivial⟩ zru rfl rfl rfl rfl rfl trivial (xmu rfl (xei rfl rfl (TL.ext (.bool _) rfl rfl rfl rfl (xai rfl ?_))))))))
 refine xab rfl (dA (xmb rfl (TL.cases rfl (fun q2=>?_) (fun q2=>?_))))
 refine dT rfl (xf 0 zaR rfl (xf 0 zas rfl (xL10 1 zat rfl rfl (xmi rfl ?_))))
 rw [if_pos (by simpa using q2)] at h
 obtain ⟨σ6,h4,h⟩:=Option.bind_eq_some_iff.1 h
 obtain ⟨σ7,h5,h6⟩:=Option.bind_eq_some_iff.1 h
 cases h6
 refine TL.callD [0] [0] (zgX hM hl h4) ⟨rfl,rfl,trivial⟩ ⟨rfl,trivial⟩ zmL rfl rfl rfl rfl rfl trivial (dG (xf 0 zaR rfl (xL10 1 zbc rfl rfl (xmi rfl (TL.callD [0] [0] (zkf hM hl h5) ⟨rfl,rfl,trivial⟩ ⟨rfl,trivial⟩ zo8 rfl rfl rfl rfl rfl trivial (dA (xmi rfl (xmb rfl ?_))))))))
 refine xai rfl (xab rfl (dR ?_))
 refine FQ.ret2 (v:=(.int _ _)) (x:=(.bool _)) (Bs:=[A _]) [0] rfl rfl rfl rfl ⟨rfl,trivial⟩ ?_
 first | (rw [if_pos (by omega)] at h; cases h; exact ⟨rfl,rfl⟩) | exact ⟨by dsimp only at q2; rw [q2],rfl⟩ | (rw [if_neg (by simpa using q2)] at h; cases h; exact ⟨by simp_all,rfl⟩)
 refine dF rfl (xmi rfl (xmb rfl (xai rfl (xab rfl (dR ?_)))))
 refine FQ.ret2 (v:=(.int _ _)) (x:=(.bool _)) (Bs:=[A _]) [0] rfl rfl rfl rfl ⟨rfl,trivial⟩ ?_
 first | (rw [if_pos (by omega)] at h; cases h; exact ⟨rfl,rfl⟩) | exact ⟨by dsimp only at q2; rw [q2],rfl⟩ | (rw [if_neg (by simpa using q2)] at h; cases h; exact ⟨by simp_all,rfl⟩)
theorem zej {S:Type} [MemLike S] {mt:TypeId} {mv:Value} {A:S→Assn} (hM:MemI Tryz.prog mt mv A) {l:Lay} (hl:l.Ok) {p:Pen} {σ:S} {s b:Int} {t o:Bool} {k:Nat} {σ2:S} (h:zcr l p k σ s=some ((t,b,o),σ2)):FnD Tryz.prog 46 [adjV l mt mv p,.int .i64 s] [A σ] (.tuple #[.bool t,.int .i64 b,.bool o]) [A σ2]:=by
 unfold zcr at h
 dsimp only at h
 refine Fn.enter (Tryz.func46) rfl rfl (fun w0 R=>?_)
 refine sA (xB 1 rfl (fun bk1=>(xaf rfl (xai rfl (xaf rfl (dA (xf 0 zaR rfl (xf 0 zas rfl (xf 6 zaw rfl ?_)))))))))
 refine xL4 1 za6 rfl rfl (xmi rfl (TL.callD [0] [0] (zdk hM hl) ⟨rfl,rfl,trivial⟩ ⟨rfl,trivial⟩ zeB rfl rfl rfl rfl rfl trivial (TL.alloc 2 (cs:=#[.int .i64 0,.int .i64 0,.int .i64 0,.bool false]) zfS rfl rfl rfl (fun _=>trivial) (fun bk2=>(TL.stW 2 4 [_,_,_,_] rfl rfl rfl rfl rfl rfl zde rfl rfl trivial (dB (xf 3 zk9 rfl (xlb 2 zfj rfl rfl (TL.not _ _ rfl rfl rfl rfl ?_)))))))))
 refine TL.done (TQ.then (TC.cond rfl (fun q1=>?_) (fun q1=>?_)))
 refine sA (xf 0 zaR rfl (xf 0 zas rfl (xL10 1 zat rfl rfl (xmi rfl ?_))))
 rw [if_neg (by simpa using q1)] at h
 obtain ⟨σ3,h1,h2⟩:=Option.bind_eq_some_iff.1 h
 cases h2
 refine TL.callD [0] [0] (zgX hM hl h1) ⟨rfl,rfl,trivial⟩ ⟨rfl,trivial⟩ zmL rfl rfl rfl rfl rfl trivial (dA (xf 0 zaR rfl (xf 0 zas rfl (xf 6 zaw rfl (xL4 1 za6 rfl rfl (xf 0 zb5 rfl (xli 2 zaa rfl rfl (xf 1 zb4 rfl ?_))))))))
 refine xli 2 zaa rfl rfl (TL.callD [0] [0] (zhp hM hl) ⟨rfl,rfl,rfl,trivial⟩ ⟨rfl,trivial⟩ zo5 rfl rfl rfl rfl rfl trivial (dA (xaf rfl (xai rfl (xaf rfl (dRR ?_))))))
 refine FQ.ret3 (v:=(.bool false)) (x:=(.int _ _)) (y:=(.bool false)) (Bs:=[A _]) [0] rfl rfl rfl rfl rfl ⟨rfl,trivial⟩ ?_
 exact ⟨rfl,rfl⟩
 refine TC.skip (TQ.then (sA (xf 0 zaR rfl (xL10 1 zbc rfl rfl (xmi rfl ?_)))))
 rw [if_pos (by simpa using q1)] at h
 obtain ⟨σ3,h1,h⟩:=Option.bind_eq_some_iff.1 h
 obtain ⟨⟨⟨b2,o2⟩,σ4⟩,h2,h3⟩:=Option.bind_eq_some_iff.1 h
 dsimp only at h2 h3
 cases h3
 refine TL.callD [0] [0] (zpM hM hl h1) ⟨rfl,rfl,trivial⟩ ⟨rfl,trivial⟩ zrq rfl rfl rfl rfl rfl trivial (dA (xf 0 zaR rfl (xf 0 zas rfl (xf 6 zaw rfl (xL4 1 za6 rfl rfl (xf 0 zb5 rfl (xli 2 zaa rfl rfl (xf 1 zb4 rfl ?_))))))))
 refine xli 2 zaa rfl rfl (TL.callD [0] [0] (zhp hM hl) ⟨rfl,rfl,rfl,trivial⟩ ⟨rfl,trivial⟩ zo5 rfl rfl rfl rfl rfl trivial (dB (xf 2 zbm rfl (xli 2 zaa rfl rfl (xai rfl (dK (TC.loopK (X:=Nat×S×Int×Int×Bool) [2,4,7] [1,2] (fun y=>[(8,.int .i64 y.2.2.1),(5,.int .i64 y.2.2.2.1),(6,.bool y.2.2.2.2)]) (fun y=>[(0,A y.2.1)]) (fun y=>zcL l p (eget l σ s).u (eget l σ s).v y.1 k y.2.1 y.2.2.1 (y.2.2.2.1,y.2.2.2.2)=some ((b,o),σ2)) (fun y=>y.1) ((k,_,_,0,false)) h2 ⟨rfl,rfl,rfl,trivial⟩ ⟨rfl,trivial⟩ (fun y hI=>?_))))))))
 obtain ⟨j,σ5,z,b4,o4⟩:=y
 rcases j with _ | j
 ·simp [zcL] at hI
 dsimp only at hI
 refine TC.sub (env':=[(8,_),(5,_),(6,_),(2,_),(4,_),(7,_)]) (L':=[(0,_),(1,_),(2,_)]) ⟨rfl,rfl,rfl,rfl,rfl,rfl,trivial⟩ ⟨rfl,rfl,rfl,trivial⟩ (sB (xmi rfl (TL.geq rfl rfl rfl rfl (fun q2=>?_) (fun q2=>?_))))
 refine TL.done (TQ.then (TC.condT rfl (TC.skip (TQ.then (TC.seq (TC.block (sA (xL10 1 za5 rfl rfl ?_))))))))
 refine xmi rfl (xf 0 zb5 rfl (xli 2 zaa rfl rfl (xf 1 zb4 rfl (xli 2 zaa rfl rfl ?_))))
 rw [zcL,if_pos q2] at hI
 obtain ⟨⟨⟨b3,o3⟩,σ6⟩,h4,hI⟩:=Option.bind_eq_some_iff.1 hI
 dsimp only at h4 hI
 refine TL.callD [0] [0] (zkZ hM hl h4) ⟨rfl,rfl,rfl,rfl,trivial⟩ ⟨rfl,trivial⟩ zq9 rfl rfl rfl rfl rfl trivial (xmu rfl (xei rfl rfl (TL.ext (.bool _) rfl rfl rfl rfl (xai rfl (xab rfl (dA (xmb rfl (TL.cases rfl (fun q3=>?_) (fun q3=>?_)))))))))
 refine TL.done (TQ.then (TC.condT rfl (TC.exit (TQ.blockOut rfl (TQ.thenExit (TQ.thenExit (TQ.blockHere (TQ.then ?_))))))))
 refine sA (xmi rfl (xmb rfl (xat rfl (xai rfl (xab rfl (dR ?_))))))
 refine FQ.ret3 (v:=(.bool true)) (x:=(.int _ _)) (y:=(.bool _)) (Bs:=[A _]) [0] rfl rfl rfl rfl rfl ⟨rfl,trivial⟩ ?_
 rw [if_pos (by simpa using q3)] at hI; cases hI; exact ⟨rfl,rfl⟩
 refine TL.done (TQ.then (TC.condF rfl (TC.skip (TQ.inBlock (TQ.then (TC.region (xmi rfl (TL.sub _ rfl rfl (rfl) rfl rfl ?_))))))))
 refine xai rfl (TL.done (TQ.roundK ((j,_,_,_,_)) ⟨(by rw [if_neg (by simpa using q3)] at hI; exact hI),Nat.lt_succ_self _⟩ ⟨rfl,rfl,rfl,trivial⟩ ⟨rfl,trivial⟩ (kE3 rfl rfl rfl trivial) (kL2 rfl rfl trivial)))
 refine dE rfl (sA (xmi rfl (xmb rfl (xat rfl (xai rfl (xab rfl (dR ?_)))))))
 refine FQ.ret3 (v:=(.bool true)) (x:=(.int _ _)) (y:=(.bool _)) (Bs:=[A _]) [0] rfl rfl rfl rfl rfl ⟨rfl,trivial⟩ ?_
 rw [zcL,if_neg q2] at hI; cases hI; exact ⟨rfl,rfl⟩
theorem at_Li {ab mb N:Nat} {c:Cnt} {i:Int} (h0:0≤i) (h1:i<N):Go.Eng.Fn Tryz.prog 94 [.pointer (some ⟨ab,0,none⟩),.int .i64 i,.pointer (some ⟨ab,1,none⟩)] [arO ab mb (N) 149 c] (fun v Bs=>v=.pointer (some ⟨mb,0+i.toNat * 1,none⟩)∧∃ c2,Bs=[arO ab mb (N) 149 c2]):=by
 refine Fn.enter (Tryz.func94) rfl rfl (fun w0 R=>?_)
 refine sA (TL.asg (.pointer none) rfl rfl rfl (dB (xmi rfl (TL.lssF rfl rfl (by omega) rfl rfl (xmf rfl (xmi rfl (xmp rfl (xN0 rfl ?_))))))))
 refine xf 0 zbJ rfl (xls 0 zbB rfl rfl (xz zax rfl (TL.geqF rfl rfl (by omega) rfl rfl (xpF rfl (dF rfl (xmp rfl (xN0 rfl (xli 0 zaa rfl rfl ?_))))))))
 refine TL.add _ rfl rfl (rfl) rfl rfl (xN0 rfl (TL.st 0 #[_,_,_,_,_,_] (.int _ _) rfl rfl rfl rfl rfl rfl zaa rfl rfl trivial (dA (xmp rfl (xN0 rfl (xf 0 zbJ rfl (xls 0 zbB rfl rfl (xmi rfl ?_))))))))
 refine TL.ia _ rfl rfl zax (by omega) (by omega) rfl rfl rfl (xap rfl (dR ?_))
 refine FQ.ret1 (v:=(.pointer (some ⟨_,_,none⟩))) (Bs:=[_]) [0] rfl rfl rfl ⟨rfl,trivial⟩ ?_
 exact ⟨rfl,⟨IntKind.i64.wrap (c.c1+1),c.c2,c.c3,c.c4,c.c5⟩,rfl⟩
theorem at_Lo {ab mb N:Nat} {c:Cnt} {i:Int} (h:¬(0≤i∧i<N)):FnD Tryz.prog 94 [.pointer (some ⟨ab,0,none⟩),.int .i64 i,.pointer (some ⟨ab,1,none⟩)] [arO ab mb (N) 149 c] (.pointer none) [arO ab mb (N) 149 c]:=by
 refine Fn.enter (Tryz.func94) rfl rfl (fun w0 R=>?_)
 refine sA (TL.asg (.pointer none) rfl rfl rfl (dB (xmi rfl (TL.lss rfl rfl rfl rfl (fun q1=>?_) (fun q1=>?_)))))
 refine xmt rfl (xo rfl (xo rfl (xo rfl (xo rfl (xo rfl (xo rfl (xo rfl (xpT rfl ?_))))))))
 refine dT rfl (TL.asg (.pointer none) rfl rfl rfl (dRR ?_))
 refine FQ.ret1 (v:=(.pointer none)) (Bs:=[_]) [0] rfl rfl rfl ⟨rfl,trivial⟩ ?_
 first | exact ⟨rfl,rfl⟩ | (exfalso; omega)
 refine xmf rfl (xmi rfl (xmp rfl (xN0 rfl (xf 0 zbJ rfl (xls 0 zbB rfl rfl (xz zax rfl (TL.geq rfl rfl rfl rfl (fun q2=>?_) (fun q2=>?_))))))))
 refine xpH rfl (dT rfl (TL.asg (.pointer none) rfl rfl rfl (dRR ?_)))
 refine FQ.ret1 (v:=(.pointer none)) (Bs:=[_]) [0] rfl rfl rfl ⟨rfl,trivial⟩ ?_
 first | exact ⟨rfl,rfl⟩ | (exfalso; omega)
 refine xpF rfl (dF rfl (xmp rfl (xN0 rfl (xli 0 zaa rfl rfl (TL.add _ rfl rfl (rfl) rfl rfl (xN0 rfl (TL.st 0 #[_,_,_,_,_,_] (.int _ _) rfl rfl rfl rfl rfl rfl zaa rfl rfl trivial (dA ?_))))))))
 refine xmp rfl (xN0 rfl (xf 0 zbJ rfl (xls 0 zbB rfl rfl (xmi rfl (TL.ia _ rfl rfl zax (by omega) (by omega) rfl rfl rfl (xap rfl (dR ?_)))))))
 refine FQ.ret1 (v:=(.pointer (some ⟨_,_,none⟩))) (Bs:=[_]) [0] rfl rfl rfl ⟨rfl,trivial⟩ ?_
 first | exact ⟨rfl,rfl⟩ | (exfalso; omega)
theorem at_Si {ab mb N:Nat} {c:Cnt} {i:Int} (h0:0≤i) (h1:i<N):Go.Eng.Fn Tryz.prog 94 [.pointer (some ⟨ab,0,none⟩),.int .i64 i,.pointer (some ⟨ab,2,none⟩)] [arO ab mb (N) 149 c] (fun v Bs=>v=.pointer (some ⟨mb,0+i.toNat * 1,none⟩)∧∃ c2,Bs=[arO ab mb (N) 149 c2]):=by
 refine Fn.enter (Tryz.func94) rfl rfl (fun w0 R=>?_)
 refine sA (TL.asg (.pointer none) rfl rfl rfl (dB (xmi rfl (TL.lssF rfl rfl (by omega) rfl rfl (xmf rfl (xmi rfl (xmp rfl (xN0 rfl ?_))))))))
 refine xf 0 zbJ rfl (xls 0 zbB rfl rfl (xz zax rfl (TL.geqF rfl rfl (by omega) rfl rfl (xpF rfl (dF rfl (xmp rfl (xN0 rfl (xli 0 zaa rfl rfl ?_))))))))
 refine TL.add _ rfl rfl (rfl) rfl rfl (xN0 rfl (TL.st 0 #[_,_,_,_,_,_] (.int _ _) rfl rfl rfl rfl rfl rfl zaa rfl rfl trivial (dA (xmp rfl (xN0 rfl (xf 0 zbJ rfl (xls 0 zbB rfl rfl (xmi rfl ?_))))))))
 refine TL.ia _ rfl rfl zax (by omega) (by omega) rfl rfl rfl (xap rfl (dR ?_))
 refine FQ.ret1 (v:=(.pointer (some ⟨_,_,none⟩))) (Bs:=[_]) [0] rfl rfl rfl ⟨rfl,trivial⟩ ?_
 exact ⟨rfl,⟨c.c1,IntKind.i64.wrap (c.c2+1),c.c3,c.c4,c.c5⟩,rfl⟩
theorem at_So {ab mb N:Nat} {c:Cnt} {i:Int} (h:¬(0≤i∧i<N)):FnD Tryz.prog 94 [.pointer (some ⟨ab,0,none⟩),.int .i64 i,.pointer (some ⟨ab,2,none⟩)] [arO ab mb (N) 149 c] (.pointer none) [arO ab mb (N) 149 c]:=by
 refine Fn.enter (Tryz.func94) rfl rfl (fun w0 R=>?_)
 refine sA (TL.asg (.pointer none) rfl rfl rfl (dB (xmi rfl (TL.lss rfl rfl rfl rfl (fun q1=>?_) (fun q1=>?_)))))
 refine xmt rfl (xo rfl (xo rfl (xo rfl (xo rfl (xo rfl (xo rfl (xo rfl (xpT rfl ?_))))))))
 refine dT rfl (TL.asg (.pointer none) rfl rfl rfl (dRR ?_))
 refine FQ.ret1 (v:=(.pointer none)) (Bs:=[_]) [0] rfl rfl rfl ⟨rfl,trivial⟩ ?_
 first | exact ⟨rfl,rfl⟩ | (exfalso; omega)
 refine xmf rfl (xmi rfl (xmp rfl (xN0 rfl (xf 0 zbJ rfl (xls 0 zbB rfl rfl (xz zax rfl (TL.geq rfl rfl rfl rfl (fun q2=>?_) (fun q2=>?_))))))))
 refine xpH rfl (dT rfl (TL.asg (.pointer none) rfl rfl rfl (dRR ?_)))
 refine FQ.ret1 (v:=(.pointer none)) (Bs:=[_]) [0] rfl rfl rfl ⟨rfl,trivial⟩ ?_
 first | exact ⟨rfl,rfl⟩ | (exfalso; omega)
 refine xpF rfl (dF rfl (xmp rfl (xN0 rfl (xli 0 zaa rfl rfl (TL.add _ rfl rfl (rfl) rfl rfl (xN0 rfl (TL.st 0 #[_,_,_,_,_,_] (.int _ _) rfl rfl rfl rfl rfl rfl zaa rfl rfl trivial (dA ?_))))))))
 refine xmp rfl (xN0 rfl (xf 0 zbJ rfl (xls 0 zbB rfl rfl (xmi rfl (TL.ia _ rfl rfl zax (by omega) (by omega) rfl rfl rfl (xap rfl (dR ?_)))))))
 refine FQ.ret1 (v:=(.pointer (some ⟨_,_,none⟩))) (Bs:=[_]) [0] rfl rfl rfl ⟨rfl,trivial⟩ ?_
 first | exact ⟨rfl,rfl⟩ | (exfalso; omega)
theorem zqq {ab mb:Nat} {σ:Array UInt64} {c:Cnt} {i:Int} (h0:0≤i) (h1:i<σ.size):Go.Eng.Fn Tryz.prog 65 [.pointer (some ⟨ab,0,none⟩),.int .i64 i] [arO ab mb (σ.size) 149 c,pt mb (.cells (encM (σ)) 110)] (fun v Bs=>v=.tuple #[.int .u64 (MemLike.get σ i),.int .i64 0]∧∃ c2,Bs=[arO ab mb (σ.size) 149 c2,pt mb (.cells (encM (σ)) 110)]):=by
 refine Fn.enter (Tryz.func65) rfl rfl (fun w0 R=>?_)
 refine sA (xai rfl (xai rfl (dA (xmp rfl (xmi rfl (xmp rfl (xN0 rfl (xf 1 zdC rfl ?_))))))))
 refine xf 0 zgG rfl (TL.call [0] [0] (at_Li h0 h1) ⟨rfl,rfl,rfl,trivial⟩ ⟨rfl,trivial⟩ zkt rfl rfl rfl rfl ?_)
 rintro v Bs ⟨rfl,c2,rfl⟩
 refine ⟨rfl,trivial,?_⟩
 refine xap rfl (dB (xmp rfl (TL.nilP false rfl rfl zh4 rfl rfl rfl (dF rfl (xmp rfl (xN0 rfl (TL.ldM 1 rfl rfl (by omega) (by omega) zeM rfl rfl (xai rfl ?_))))))))
 refine xai rfl (dR ?_)
 refine FQ.ret2 (v:=(.int _ _)) (x:=(.int _ _)) (Bs:=[_,_]) [0,1] rfl rfl rfl rfl ⟨rfl,rfl,trivial⟩ ?_
 exact ⟨rfl,_,rfl⟩
theorem zqp {ab mb:Nat} {σ:Array UInt64} {c:Cnt} {i:Int} (h:¬(0≤i∧i<σ.size)):Go.Eng.Fn Tryz.prog 65 [.pointer (some ⟨ab,0,none⟩),.int .i64 i] [arO ab mb (σ.size) 149 c,pt mb (.cells (encM (σ)) 110)] (fun v Bs=>v=.tuple #[.int .u64 (MemLike.get σ i),.int .i64 20]∧∃ c2,Bs=[arO ab mb (σ.size) 149 c2,pt mb (.cells (encM (σ)) 110)]):=by
 refine Fn.enter (Tryz.func65) rfl rfl (fun w0 R=>?_)
 refine sA (xai rfl (xai rfl (dA (xmp rfl (xmi rfl (xmp rfl (xN0 rfl (xf 1 zdC rfl ?_))))))))
 refine xf 0 zgG rfl (TL.callD [0] [0] (at_Lo h) ⟨rfl,rfl,rfl,trivial⟩ ⟨rfl,trivial⟩ zkt rfl rfl rfl rfl rfl trivial (TL.asg (.pointer none) rfl rfl rfl (dB (TL.mv (.pointer none) rfl rfl rfl (TL.nilP true rfl rfl zh4 rfl rfl rfl (dT rfl (xai rfl (xai rfl ?_))))))))
 refine dRR ?_
 refine FQ.ret2 (v:=(.int _ _)) (x:=(.int _ _)) (Bs:=[_,_]) [0,1] rfl rfl rfl rfl ⟨rfl,rfl,trivial⟩ ?_
 exact ⟨by rw [zi9,if_neg h],_,rfl⟩
theorem zoB {ab mb:Nat} {σ:Array UInt64} {c:Cnt} {i:Int} (h0:0≤i) (h1:i<σ.size) {y:Int} (hv:0≤y∧y<18446744073709551616):Go.Eng.Fn Tryz.prog 54 [.pointer (some ⟨ab,0,none⟩),.int .i64 i,.int .u64 y] [arO ab mb (σ.size) 149 c,pt mb (.cells (encM (σ)) 110)] (fun v Bs=>v=.int .i64 0∧∃ c2,Bs=[arO ab mb (σ.size) 149 c2,pt mb (.cells (encM (MemLike.st σ i y)) 110)]):=by
 refine Fn.enter (Tryz.func54) rfl rfl (fun w0 R=>?_)
 refine sA (xai rfl (dA (xmp rfl (xmi rfl (xmp rfl (xN0 rfl (xf 1 zdC rfl (xf 1 zgF rfl ?_))))))))
 refine TL.call [0] [0] (at_Si h0 h1) ⟨rfl,rfl,rfl,trivial⟩ ⟨rfl,trivial⟩ zkt rfl rfl rfl rfl ?_
 rintro v Bs ⟨rfl,c2,rfl⟩
 refine ⟨rfl,trivial,?_⟩
 refine xap rfl (dB (xmp rfl (TL.nilP false rfl rfl zh4 rfl rfl rfl (dF rfl (xmp rfl (xmi rfl (xN0 rfl (TL.stM 1 rfl rfl rfl (by omega) (by omega) (by omega) zeM rfl rfl trivial ?_))))))))
 refine dA (xai rfl (dR ?_))
 refine FQ.ret1 (v:=(.int _ _)) (Bs:=[_,_]) [0,1] rfl rfl rfl ⟨rfl,rfl,trivial⟩ ?_
 exact ⟨rfl,_,rfl⟩
theorem zoA {ab mb:Nat} {σ:Array UInt64} {c:Cnt} {i:Int} (h:¬(0≤i∧i<σ.size)) {y:Int} (hv:0≤y∧y<18446744073709551616):Go.Eng.Fn Tryz.prog 54 [.pointer (some ⟨ab,0,none⟩),.int .i64 i,.int .u64 y] [arO ab mb (σ.size) 149 c,pt mb (.cells (encM (σ)) 110)] (fun v Bs=>v=.int .i64 20∧∃ c2,Bs=[arO ab mb (σ.size) 149 c2,pt mb (.cells (encM (MemLike.st σ i y)) 110)]):=by
 have hst:(MemLike.st σ i y:Array UInt64)=σ:=by rw [zou,if_neg h]
 refine Fn.enter (Tryz.func54) rfl rfl (fun w0 R=>?_)
 refine sA (xai rfl (dA (xmp rfl (xmi rfl (xmp rfl (xN0 rfl (xf 1 zdC rfl (xf 1 zgF rfl ?_))))))))
 refine TL.callD [0] [0] (at_So h) ⟨rfl,rfl,rfl,trivial⟩ ⟨rfl,trivial⟩ zkt rfl rfl rfl rfl rfl trivial (TL.asg (.pointer none) rfl rfl rfl (dB (TL.mv (.pointer none) rfl rfl rfl (TL.nilP true rfl rfl zh4 rfl rfl rfl (dT rfl (xai rfl (dRR ?_)))))))
 refine FQ.ret1 (v:=(.int _ _)) (Bs:=[_,_]) [0,1] rfl rfl rfl ⟨rfl,rfl,trivial⟩ ?_
 exact ⟨rfl,_,by rw [hst]⟩
theorem zkR {ab mb:Nat} {σ:Array UInt64} {i:Int}:FnD Tryz.prog 65 [.pointer (some ⟨ab,0,none⟩),.int .i64 i] [zaC ab mb 149 110 (σ)] (.tuple #[.int .u64 (MemLike.get σ i),.int .i64 (if 0≤i∧i<σ.size then 0 else 20)]) [zaC ab mb 149 110 (σ)]:=by
 by_cases h:0≤i∧i<σ.size
 ·rw [if_pos h]; exact Fn.arena rfl fun c=>zqq h.1 h.2
 ·rw [if_neg h]; exact Fn.arena rfl fun c=>zqp h
theorem zgW {ab mb:Nat} {σ:Array UInt64} {i v:Int} (hv:0≤v∧v<18446744073709551616):FnD Tryz.prog 54 [.pointer (some ⟨ab,0,none⟩),.int .i64 i,.int .u64 v] [zaC ab mb 149 110 (σ)] (.int .i64 (if 0≤i∧i<σ.size then 0 else 20)) [zaC ab mb 149 110 (MemLike.st σ i v)]:=by
 by_cases h:0≤i∧i<σ.size
 ·rw [if_pos h]; exact Fn.arena (zeW _ _ _) fun c=>zoB h.1 h.2 hv
 ·rw [if_neg h]; exact Fn.arena (zeW _ _ _) fun c=>zoA h hv
theorem znS {ab mb:Nat} {σ:Array UInt64} {i:Int}:FnD Tryz.prog 185 [.agg #[.pointer (some ⟨ab,0,none⟩)],.int .i64 i] [zaC ab mb 149 110 (σ)] (.int .u64 (MemLike.get σ i)) [zaC ab mb 149 110 (σ)]:=by
 refine Fn.enter (Tryz.func185) rfl rfl (fun w0 R=>?_)
 refine sA (xB 1 rfl (fun bk1=>(xai rfl (dA (xf 0 zgH rfl (xlp 1 zmD rfl rfl (xmi rfl (TL.callD [0] [0] zkR ⟨rfl,rfl,trivial⟩ ⟨rfl,trivial⟩ zo4 rfl rfl rfl rfl rfl trivial (xmu rfl ?_)))))))))
 refine xei rfl rfl (xei rfl rfl (xai rfl (xai rfl (dA (xmi rfl (xai rfl (dR ?_)))))))
 refine FQ.ret1 (v:=(.int _ _)) (Bs:=[zaC ab mb 149 110 (σ)]) [0] rfl rfl rfl ⟨rfl,trivial⟩ ?_
 exact ⟨rfl,rfl⟩
theorem zl0 {ab mb:Nat} {σ:Array UInt64} {i:Int} {y:Int} (hv:0≤y∧y<18446744073709551616):FnD Tryz.prog 186 [.agg #[.pointer (some ⟨ab,0,none⟩)],.int .i64 i,.int .u64 y] [zaC ab mb 149 110 (σ)] (.tuple #[]) [zaC ab mb 149 110 (MemLike.st σ i y)]:=by
 refine Fn.enter (Tryz.func186) rfl rfl (fun w0 R=>?_)
 refine sA (xB 1 rfl (fun bk1=>(dG (xf 0 zgH rfl (xlp 1 zmD rfl rfl (xmi rfl (xmi rfl (TL.callD [0] [0] (zgW hv) ⟨rfl,rfl,rfl,trivial⟩ ⟨rfl,trivial⟩ zmM rfl rfl rfl rfl rfl trivial (TL.done ?_)))))))))
 refine FQ.end0 (Bs:=[_]) [0] rfl rfl ⟨rfl,trivial⟩ ?_
 exact ⟨rfl,rfl⟩
theorem zcl {ab mb:Nat}:MemI (S:=Array UInt64) Tryz.prog 107 (.agg #[.pointer (some ⟨ab,0,none⟩)]) (zaC ab mb 149 110) :=
 ⟨⟨185,_,zkh (by kernel_rfl) (by kernel_rfl),fun _ _=>znS⟩,⟨186,_,zkh (by kernel_rfl) (by kernel_rfl),fun _ _ _ hv=>zl0 hv⟩⟩
theorem zqn {N:Nat} (hN:N≤16384):Go.Eng.Fn Tryz.prog 50 [.int .i64 ((N:Nat):Int)] [] (fun v Bs=>∃ ab mb,v=.tuple #[.pointer (some ⟨ab,0,none⟩),.int .i64 0]∧Bs=[zaC ab mb 149 110 (Array.replicate N 0)]):=by
 refine Fn.enter (Tryz.func50) rfl rfl (fun w0 R=>?_)
 refine sA (TL.asg (.pointer none) rfl rfl rfl (xai rfl (dB (xmi rfl (TL.lssF rfl rfl (by omega) rfl rfl (xmf rfl (xmi rfl (TL.gtrF rfl rfl (by omega) rfl rfl ?_))))))))
 refine xpF rfl (dF rfl (xmi rfl (TL.mkS 0 rfl rfl zdc zh3 rfl (by omega) rfl rfl (fun bk0=>⟨trivial,?_⟩))))
 refine TL.bld [.slice none 0 0,.int .i64 0,.int .i64 0,.int .i64 0,.int .i64 0,.int .i64 0] [(.slice _ _ _)] [_,_,_,_,_,_] zpN zpR ⟨rfl,trivial⟩ ⟨rfl,rfl⟩ rfl rfl (xB 1 rfl (fun bk1=>(xap rfl (xai rfl (dR (TQ.conseq 0 (B:=pt _ (.cells (encM (Array.replicate N 0)) 110)) rfl (fun h hh=>by rw [←zoj]; exact hh) (TQ.arena 1 0 (N:=N) (c:=⟨0,0,0,0,0⟩) (by simp) rfl rfl (by decide) ?_)))))))
 refine FQ.ret2 (v:=(.pointer (some ⟨_,_,none⟩))) (x:=(.int _ _)) (Bs:=[_]) [1] rfl rfl rfl rfl ⟨rfl,trivial⟩ ?_
 exact ⟨_,_,rfl,rfl⟩
theorem zf4 {ab:Nat}:FnD Tryz.prog 52 [.pointer (some ⟨ab,0,none⟩)] [] (.agg #[.pointer (some ⟨ab,0,none⟩)]) []:=by
 refine Fn.enter (Tryz.func52) rfl rfl (fun w0 R=>?_)
 refine sA (TL.alloc 0 (cs:=#[.pointer none]) zmC rfl rfl rfl (fun _=>trivial) (fun bk0=>(dA (xmp rfl (TL.bld [.pointer none] [(.pointer (some ⟨_,_,none⟩))] [_] zmC zpS ⟨rfl,trivial⟩ ⟨rfl,rfl⟩ rfl rfl (TL.stW 0 1 [_] rfl rfl rfl rfl rfl rfl zi4 rfl rfl trivial (dR ?_)))))))
 refine FQ.retG (rs:=[.cell 2 107]) [(.agg _)] (Bs:=[]) [] rfl ⟨⟨_,_,_,_,_,0,rfl,rfl,.inr ⟨1,[_],zi4,rfl,rfl⟩⟩,trivial⟩ rfl rfl trivial ?_
 exact ⟨rfl,rfl⟩
theorem zff {a:Option Addr} {b off n c:Nat} {A:Assn} {f:Nat→Int} (ha:0<n→a=some ⟨b,off,none⟩) (hA:zaW A encI 1 b off n f) (hn:n≤1000) {x:Int}:FnD Tryz.prog 109 [.slice a n c,.int .i64 x] [A] (.bool (hasN f x n)) [A]:=by
 refine Fn.enter (Tryz.func109) rfl rfl (fun w0 R=>?_)
 refine sA (xaf rfl (dB (xai rfl (dK (TC.loopK (X:=Nat) [0,1] [0] (fun i=>[(5,.int .i64 ((i:Nat):Int))]) (fun i=>[]) (fun i=>i≤n∧∀ j,j<i→f j≠x) (fun i=>n - i) (0) ⟨Nat.zero_le _,fun j hj=>absurd hj (Nat.not_lt_zero _)⟩ ⟨rfl,trivial⟩ trivial (fun i hI=>?_))))))
 obtain ⟨hi,hno⟩:=hI
 refine TC.sub (env':=[(5,_),(0,_),(1,_)]) (L':=[(0,_)]) ⟨rfl,rfl,rfl,trivial⟩ ⟨rfl,trivial⟩ (sB (xmi rfl (xms rfl (xz zae rfl (TL.lss rfl rfl rfl rfl (fun q1=>?_) (fun q1=>?_))))))
 refine TL.done (TQ.then (TC.condT rfl (TC.skip (TQ.then (TC.seq (TC.block (sA (xms rfl ?_))))))))
 refine xmi rfl (TL.iaO rfl ha rfl zae (by omega) rfl rfl (TL.ldRS 0 (.int _ _) rfl rfl hA (by omega) (rfl) zaa rfl rfl (xmi rfl (TL.eql rfl rfl rfl rfl (fun q2=>?_) (fun q2=>?_)))))
 refine dT rfl (xat rfl (dR (TQ.blockRet (TQ.thenRet (TQ.thenRet (TQ.blockRet (TQ.thenRet ?_)))))))
 refine FQ.ret1 (v:=(.bool true)) (Bs:=[A]) [0] rfl rfl rfl ⟨rfl,trivial⟩ ?_
 first | exact ⟨zko (i:=i) (by omega) (by assumption),rfl⟩ | exact ⟨zkp (by omega) hi hno,rfl⟩
 refine TL.done (TQ.then (TC.condF rfl (TC.skip (TQ.inBlock (TQ.then (TC.region (xmi rfl (TL.add (((i+1:Nat):Int)) rfl rfl (wrN (by omega)) rfl rfl ?_))))))))
 refine xai rfl (TL.done (TQ.roundK (i+1) ⟨⟨by omega,fun j hj=>by by_cases he:j=i; subst he; assumption; exact hno j (by omega)⟩,by omega⟩ ⟨rfl,trivial⟩ trivial (kE2 rfl rfl trivial) (kL1 rfl trivial)))
 refine dE rfl (sA (xaf rfl (dR ?_)))
 refine FQ.ret1 (v:=(.bool false)) (Bs:=[A]) [0] rfl rfl rfl ⟨rfl,trivial⟩ ?_
 first | exact ⟨zko (i:=i) (by omega) (by assumption),rfl⟩ | exact ⟨zkp (by omega) hi hno,rfl⟩
theorem zeg {a:Option Addr} {b off n c:Nat} {A:Assn} {f:Nat→Int} (ha:0<n→a=some ⟨b,off,none⟩) (hA:zaW A encI 1 b off n f) (hn:n≤1000) {x:Int}:FnD Tryz.prog 111 [.slice a n c,.int .i64 x] [A] (.bool (hasN f x n)) [A]:=by
 refine Fn.enter (Tryz.func111) rfl rfl (fun w0 R=>?_)
 refine sA (xaf rfl (dB (xai rfl (dK (TC.loopK (X:=Nat) [0,1] [0] (fun i=>[(5,.int .i64 ((i:Nat):Int))]) (fun i=>[]) (fun i=>i≤n∧∀ j,j<i→f j≠x) (fun i=>n - i) (0) ⟨Nat.zero_le _,fun j hj=>absurd hj (Nat.not_lt_zero _)⟩ ⟨rfl,trivial⟩ trivial (fun i hI=>?_))))))
 obtain ⟨hi,hno⟩:=hI
 refine TC.sub (env':=[(5,_),(0,_),(1,_)]) (L':=[(0,_)]) ⟨rfl,rfl,rfl,trivial⟩ ⟨rfl,trivial⟩ (sB (xmi rfl (xms rfl (xz zae rfl (TL.lss rfl rfl rfl rfl (fun q1=>?_) (fun q1=>?_))))))
 refine TL.done (TQ.then (TC.condT rfl (TC.skip (TQ.then (TC.seq (TC.block (sA (xms rfl ?_))))))))
 refine xmi rfl (TL.iaO rfl ha rfl zae (by omega) rfl rfl (TL.ldRS 0 (.int _ _) rfl rfl hA (by omega) (rfl) zaa rfl rfl (xmi rfl (TL.eql rfl rfl rfl rfl (fun q2=>?_) (fun q2=>?_)))))
 refine dT rfl (xat rfl (dR (TQ.blockRet (TQ.thenRet (TQ.thenRet (TQ.blockRet (TQ.thenRet ?_)))))))
 refine FQ.ret1 (v:=(.bool true)) (Bs:=[A]) [0] rfl rfl rfl ⟨rfl,trivial⟩ ?_
 first | exact ⟨zko (i:=i) (by omega) (by assumption),rfl⟩ | exact ⟨zkp (by omega) hi hno,rfl⟩
 refine TL.done (TQ.then (TC.condF rfl (TC.skip (TQ.inBlock (TQ.then (TC.region (xmi rfl (TL.add (((i+1:Nat):Int)) rfl rfl (wrN (by omega)) rfl rfl ?_))))))))
 refine xai rfl (TL.done (TQ.roundK (i+1) ⟨⟨by omega,fun j hj=>by by_cases he:j=i; subst he; assumption; exact hno j (by omega)⟩,by omega⟩ ⟨rfl,trivial⟩ trivial (kE2 rfl rfl trivial) (kL1 rfl trivial)))
 refine dE rfl (sA (xaf rfl (dR ?_)))
 refine FQ.ret1 (v:=(.bool false)) (Bs:=[A]) [0] rfl rfl rfl ⟨rfl,trivial⟩ ?_
 first | exact ⟨zko (i:=i) (by omega) (by assumption),rfl⟩ | exact ⟨zkp (by omega) hi hno,rfl⟩
set_option maxHeartbeats 4000000 in
theorem zeh {a:Option Addr} {b off n c:Nat} {A:Assn} {f:Nat→Int×Int} (ha:0<n→a=some ⟨b,off,none⟩) (hA:zaW A encP 2 b off n f) (hn:n≤400) {u v:Int}:FnD Tryz.prog 69 [.slice a n c,.int .i64 u,.int .i64 v] [A] (.bool (zcY f n u v)) [A]:=by
 refine Fn.enter (Tryz.func69) rfl rfl (fun w0 R=>?_)
 refine sA (xaf rfl (dA (xmi rfl (TL.bsN 1 [_] ([.int .i64 u]) zae zeL ⟨rfl,trivial⟩ rfl (lit1 rfl) rfl rfl (fun bk1=>⟨trivial,?_⟩)))))
 refine xas rfl (dS (TC.seq (TC.conseq 1 (B:=ownA encI 1 3 (.slice (some ⟨bk1,0,none⟩) 1 1) #[u]) rfl (zpv (enc:=encI) (x:=u) rfl) (TC.region (xai rfl (dK (TC.loopK (X:=Nat×Value×Array Int) [0,2,6] [0] (fun ⟨i,w,s⟩=>[(8,.int .i64 ((i:Nat):Int)),(7,w)]) (fun ⟨i,w,s⟩=>[(1,ownA encI 1 3 w s)]) (fun ⟨i,w,s⟩=>JI f n u i s) (fun ⟨i,w,s⟩=>2 * n+1 - i) ((0,_,#[u])) JI.start ⟨rfl,rfl,trivial⟩ ⟨rfl,trivial⟩ (fun y hI=>?_))))))))
 obtain ⟨i,w,s⟩:=y
 have hJ:JI f n u i s:=hI
 refine TC.sub (env':=[(8,_),(7,_),(0,_),(2,_),(6,_)]) (L':=[(1,_),(0,_)]) ⟨rfl,rfl,rfl,rfl,rfl,trivial⟩ ⟨rfl,rfl,trivial⟩ (TC.seq (TC.seq (TC.ownW 1 rfl (fun a9 g9 c9 hv9 hc9 ha9=>?_))))
 cases hv9
 refine TC.region (xmi rfl (xmv rfl (xz zae rfl (TL.lss rfl rfl rfl rfl (fun q1=>?_) (fun q1=>?_)))))
 refine TL.done (TQ.then (TC.condT rfl (TC.skip (TQ.then (TC.seq (TC.block (sA (xai rfl ?_))))))))
 refine dK ?_
 obtain ⟨x0,hx0⟩:∃ x0,s[i]! =x0:=⟨_,rfl⟩
 refine TC.loopK (X:=Nat×Value×Array Int) [0,2,6,8] [0] (fun ⟨k,w,s⟩=>[(9,.int .i64 ((k:Nat):Int)),(7,w)]) (fun ⟨k,w,s⟩=>[(1,ownA encI 1 3 w s)]) (fun ⟨k,w,s⟩=>k≤n∧JK f n u i x0 k s) (fun ⟨k,w,s⟩=>n - k) ((0,_,s)) ⟨Nat.zero_le _,hx0▸JK.begin hJ (by omega)⟩ ⟨rfl,rfl,trivial⟩ ⟨rfl,trivial⟩ (fun y hI=>?_)
 obtain ⟨k,w,s⟩:=y
 obtain ⟨hkn,hK⟩:=hI
 replace hkn:k≤n:=hkn
 replace hK:JK f n u i x0 k s:=hK
 refine TC.sub (env':=[(9,_),(7,_),(0,_),(2,_),(6,_),(8,_)]) (L':=[(1,_),(0,_)]) ⟨rfl,rfl,rfl,rfl,rfl,rfl,trivial⟩ ⟨rfl,rfl,trivial⟩ (sB (xmi rfl (xms rfl (xz zaY rfl (TL.lss rfl rfl rfl rfl (fun q2=>?_) (fun q2=>?_))))))
 refine TL.done (TQ.then (TC.condT rfl (TC.skip (TQ.then (TC.seq (TC.block (TC.seq (TC.draw [(0,true),(1,true),(2,true),(3,true),(4,true),(5,true),(6,true),(7,true),(8,true),(9,true),(10,true),(11,true)] [0] fc_m (by kernel_rfl) ?_))))))))
 refine xms rfl (xmi rfl (TL.iaO rfl ha rfl zaY (by omega) rfl rfl (TL.iaA (_+0) rfl rfl zaQ (by decide) (by decide) rfl rfl rfl (TL.ldRF 0 (.int _ _) rfl rfl hA (by omega) (zgQ _).1 rfl zaa rfl rfl (xms rfl (xmi rfl (TL.iaO rfl ha rfl zaY (by omega) rfl rfl (TL.iaA (_+1) rfl rfl zaQ (by decide) (by decide) rfl rfl rfl ?_))))))))
 refine TL.ldRF 0 (.int _ _) rfl rfl hA (by omega) (zgQ _).1 rfl zaa rfl rfl (xai rfl (xai rfl (dB (xmi rfl (TL.lss rfl rfl rfl rfl (fun q3=>?_) (fun q3=>?_))))))
 refine TL.done (TQ.then (TC.condT rfl (TC.exit (TQ.thenExit (TQ.blockHere (TQ.then (TC.region (xmi rfl ?_))))))))
 refine TL.add (((k+1:Nat):Int)) rfl rfl (wrN (by omega)) rfl rfl (xai rfl (TL.done (TQ.roundK ((k+1,_,_)) ⟨⟨(show k+1≤n by omega),(by first | exact hK.skip (by assumption) | exact hK.next (fun e=>by first | exact hm1 e | exact zaZ.2 (.inl (hm1 e))) (fun e=>by first | exact zbd.1 (by assumption) | exact zaZ.2 (.inr rfl) | exact absurd e (by rw [←hK.hx]; assumption)))⟩,(show n - (k+1)<n - k by omega)⟩ ⟨rfl,rfl,trivial⟩ ⟨rfl,trivial⟩ (kE4 rfl rfl rfl rfl trivial) (kL1 rfl trivial))))
 refine TL.done (TQ.then (TC.condF rfl (TC.skip (TQ.then (TC.seq (TC.seq (TC.ownW 1 rfl (fun a9 g9 c9 hv9 hc9 ha9=>?_))))))))
 cases hv9
 refine TC.region (xmi rfl (xmv rfl (xmi rfl (TL.iaO rfl ha9 rfl zae (by first | exact hK.lt | omega) rfl rfl (TL.ldRS 1 (.int _ _) rfl rfl (zab ha9) (by first | exact hK.lt | omega) (rfl) zaa rfl rfl (TL.eql rfl rfl rfl rfl (fun q4=>?_) (fun q4=>?_)))))))
 refine xmt rfl (xmv rfl (xmi rfl (TL.callD [1] [1] (zff ha9 (zab ha9) (by first | (have:=hK.ji.size; omega) | (have:=hJ.size; omega))) ⟨rfl,rfl,trivial⟩ ⟨rfl,trivial⟩ zgN rfl rfl rfl rfl rfl trivial (TL.cases rfl (fun q5=>?_) (fun q5=>?_)))))
 refine xnt rfl (xpG rfl (TL.done (TQ.then (TC.condF rfl (TC.skip (TQ.then (TC.seq ?_)))))))
 first | have hm1:=hK.mA (zbd.1 (by assumption)) | have hm1:=hK.mB | have hm1:=hK.mC (by assumption)
 refine TC.ownW 1 rfl (fun a9 g9 c9 hv9 hc9 ha9=>?_)
 cases hv9
 refine TC.region (xmi rfl (xmv rfl (xmi rfl (TL.iaO rfl ha9 rfl zae (by first | exact hK.lt | omega) rfl rfl (TL.ldRS 1 (.int _ _) rfl rfl (zab ha9) (by first | exact hK.lt | omega) (rfl) zaa rfl rfl (TL.eql rfl rfl rfl rfl (fun q6=>?_) (fun q6=>?_)))))))
 refine xmt rfl (xmv rfl (xmi rfl (TL.callD [1] [1] (zff ha9 (zab ha9) (by first | (have:=hK.ji.size; omega) | (have:=hJ.size; omega))) ⟨rfl,rfl,trivial⟩ ⟨rfl,trivial⟩ zgN rfl rfl rfl rfl rfl trivial (TL.cases rfl (fun q7=>?_) (fun q7=>?_)))))
 refine xnt rfl (xpG rfl (TL.done (TQ.then (TC.condF rfl (TC.skip (TQ.inBlock (TQ.then (TC.region ?_))))))))
 refine xmi rfl (TL.add (((k+1:Nat):Int)) rfl rfl (wrN (by omega)) rfl rfl (xai rfl (TL.done (TQ.roundK ((k+1,_,_)) ⟨⟨(show k+1≤n by omega),(by first | exact hK.skip (by assumption) | exact hK.next (fun e=>by first | exact hm1 e | exact zaZ.2 (.inl (hm1 e))) (fun e=>by first | exact zbd.1 (by assumption) | exact zaZ.2 (.inr rfl) | exact absurd e (by rw [←hK.hx]; assumption)))⟩,(show n - (k+1)<n - k by omega)⟩ ⟨rfl,rfl,trivial⟩ ⟨rfl,trivial⟩ (kE4 rfl rfl rfl rfl trivial) (kL1 rfl trivial)))))
 refine xnf rfl (xpT rfl (TL.done (TQ.then (TC.condT rfl (TC.region (xmv rfl (xmi rfl (TL.bsN 2 [_] (encI (f k).1) zae zeL ⟨rfl,trivial⟩ rfl (lit1 rfl) rfl rfl (fun bk2=>⟨trivial,?_⟩)))))))))
 refine TL.appS 1 2 (d2:=#[(f k).1]) rfl (rfl) rfl (fun _=>rfl) rfl rfl (row1 rfl) zci (by decide) za2 (by have:=hK.ji.size; simp at this ⊢; omega) rfl rfl (fun v3=>⟨trivial,?_⟩)
 replace hK:=hK.push (by omega) (by omega) (.inr ⟨by rw [←hK.hx]; assumption,rfl⟩) (fun hm=>absurd (zbd.2 hm) (by rw [Bool.not_eq_true]; assumption))
 refine xav rfl (dI (xmi rfl (TL.add (((k+1:Nat):Int)) rfl rfl (wrN (by omega)) rfl rfl (xai rfl (TL.done (TQ.roundK ((k+1,_,_)) ⟨⟨(show k+1≤n by omega),(by first | exact hK.skip (by assumption) | exact hK.next (fun e=>by first | exact hm1 e | exact zaZ.2 (.inl (hm1 e))) (fun e=>by first | exact zbd.1 (by assumption) | exact zaZ.2 (.inr rfl) | exact absurd e (by rw [←hK.hx]; assumption)))⟩,(show n - (k+1)<n - k by omega)⟩ ⟨rfl,rfl,trivial⟩ ⟨rfl,trivial⟩ (kE4 rfl rfl rfl rfl trivial) (kL1 rfl trivial)))))))
 refine xmf rfl (xo rfl (xo rfl (xo rfl (xo rfl (xpF rfl (TL.done (TQ.then (TC.condF rfl ?_))))))))
 refine TC.skip (TQ.inBlock (TQ.then (TC.region (xmi rfl (TL.add (((k+1:Nat):Int)) rfl rfl (wrN (by omega)) rfl rfl (xai rfl (TL.done (TQ.roundK ((k+1,_,_)) ⟨⟨(show k+1≤n by omega),(by first | exact hK.skip (by assumption) | exact hK.next (fun e=>by first | exact hm1 e | exact zaZ.2 (.inl (hm1 e))) (fun e=>by first | exact zbd.1 (by assumption) | exact zaZ.2 (.inr rfl) | exact absurd e (by rw [←hK.hx]; assumption)))⟩,(show n - (k+1)<n - k by omega)⟩ ⟨rfl,rfl,trivial⟩ ⟨rfl,trivial⟩ (kE4 rfl rfl rfl rfl trivial) (kL1 rfl trivial)))))))))
 refine xnf rfl (xpT rfl (TL.done (TQ.then (TC.condT rfl (TC.region (xmv rfl (xmi rfl (TL.bsN 4 [_] (encI (f k).2) zae zeL ⟨rfl,trivial⟩ rfl (lit1 rfl) rfl rfl (fun bk4=>⟨trivial,?_⟩)))))))))
 refine TL.appS 1 4 (d2:=#[(f k).2]) rfl (rfl) rfl (fun _=>rfl) rfl rfl (row1 rfl) zci (by decide) za2 (by have:=hK.ji.size; simp at this ⊢; omega) rfl rfl (fun v5=>⟨trivial,?_⟩)
 replace hK:=hK.push (by omega) (by omega) (.inl ⟨by rw [←hK.hx]; assumption,rfl⟩) (fun hm=>absurd (zbd.2 hm) (by rw [Bool.not_eq_true]; assumption))
 refine xav rfl (dS ?_)
 first | have hm1:=hK.mA (zbd.1 (by assumption)) | have hm1:=hK.mB | have hm1:=hK.mC (by assumption)
 refine TC.ownW 1 rfl (fun a9 g9 c9 hv9 hc9 ha9=>?_)
 cases hv9
 refine TC.region (xmi rfl (xmv rfl (xmi rfl (TL.iaO rfl ha9 rfl zae (by first | exact hK.lt | omega) rfl rfl (TL.ldRS 1 (.int _ _) rfl rfl (zab ha9) (by first | exact hK.lt | omega) (rfl) zaa rfl rfl (TL.eql rfl rfl rfl rfl (fun q6=>?_) (fun q6=>?_)))))))
 refine xmt rfl (xmv rfl (xmi rfl (TL.callD [1] [1] (zff ha9 (zab ha9) (by first | (have:=hK.ji.size; omega) | (have:=hJ.size; omega))) ⟨rfl,rfl,trivial⟩ ⟨rfl,trivial⟩ zgN rfl rfl rfl rfl rfl trivial (TL.cases rfl (fun q7=>?_) (fun q7=>?_)))))
 refine xnt rfl (xpG rfl (TL.done (TQ.then (TC.condF rfl (TC.skip (TQ.inBlock (TQ.then (TC.region ?_))))))))
 refine xmi rfl (TL.add (((k+1:Nat):Int)) rfl rfl (wrN (by omega)) rfl rfl (xai rfl (TL.done (TQ.roundK ((k+1,_,_)) ⟨⟨(show k+1≤n by omega),(by first | exact hK.skip (by assumption) | exact hK.next (fun e=>by first | exact hm1 e | exact zaZ.2 (.inl (hm1 e))) (fun e=>by first | exact zbd.1 (by assumption) | exact zaZ.2 (.inr rfl) | exact absurd e (by rw [←hK.hx]; assumption)))⟩,(show n - (k+1)<n - k by omega)⟩ ⟨rfl,rfl,trivial⟩ ⟨rfl,trivial⟩ (kE4 rfl rfl rfl rfl trivial) (kL1 rfl trivial)))))
 refine xnf rfl (xpT rfl (TL.done (TQ.then (TC.condT rfl (TC.region (xmv rfl (xmi rfl (TL.bsN 6 [_] (encI (f k).1) zae zeL ⟨rfl,trivial⟩ rfl (lit1 rfl) rfl rfl (fun bk6=>⟨trivial,?_⟩)))))))))
 refine TL.appS 1 6 (d2:=#[(f k).1]) rfl (rfl) rfl (fun _=>rfl) rfl rfl (row1 rfl) zci (by decide) za2 (by have:=hK.ji.size; simp at this ⊢; omega) rfl rfl (fun v7=>⟨trivial,?_⟩)
 replace hK:=hK.push (by omega) (by omega) (.inr ⟨by rw [←hK.hx]; assumption,rfl⟩) (fun hm=>absurd (zbd.2 hm) (by rw [Bool.not_eq_true]; assumption))
 refine xav rfl (dI (xmi rfl (TL.add (((k+1:Nat):Int)) rfl rfl (wrN (by omega)) rfl rfl (xai rfl (TL.done (TQ.roundK ((k+1,_,_)) ⟨⟨(show k+1≤n by omega),(by first | exact hK.skip (by assumption) | exact hK.next (fun e=>by first | exact hm1 e | exact zaZ.2 (.inl (hm1 e))) (fun e=>by first | exact zbd.1 (by assumption) | exact zaZ.2 (.inr rfl) | exact absurd e (by rw [←hK.hx]; assumption)))⟩,(show n - (k+1)<n - k by omega)⟩ ⟨rfl,rfl,trivial⟩ ⟨rfl,trivial⟩ (kE4 rfl rfl rfl rfl trivial) (kL1 rfl trivial)))))))
 refine xmf rfl (xo rfl (xo rfl (xo rfl (xo rfl (xpF rfl (TL.done (TQ.then (TC.condF rfl ?_))))))))
 refine TC.skip (TQ.inBlock (TQ.then (TC.region (xmi rfl (TL.add (((k+1:Nat):Int)) rfl rfl (wrN (by omega)) rfl rfl (xai rfl (TL.done (TQ.roundK ((k+1,_,_)) ⟨⟨(show k+1≤n by omega),(by first | exact hK.skip (by assumption) | exact hK.next (fun e=>by first | exact hm1 e | exact zaZ.2 (.inl (hm1 e))) (fun e=>by first | exact zbd.1 (by assumption) | exact zaZ.2 (.inr rfl) | exact absurd e (by rw [←hK.hx]; assumption)))⟩,(show n - (k+1)<n - k by omega)⟩ ⟨rfl,rfl,trivial⟩ ⟨rfl,trivial⟩ (kE4 rfl rfl rfl rfl trivial) (kL1 rfl trivial)))))))))
 refine xmf rfl (xo rfl (xo rfl (xo rfl (xo rfl (xpF rfl (TL.done (TQ.then (TC.condF rfl ?_))))))))
 refine TC.skip (TQ.then (TC.seq ?_))
 first | have hm1:=hK.mA (zbd.1 (by assumption)) | have hm1:=hK.mB | have hm1:=hK.mC (by assumption)
 refine TC.ownW 1 rfl (fun a9 g9 c9 hv9 hc9 ha9=>?_)
 cases hv9
 refine TC.region (xmi rfl (xmv rfl (xmi rfl (TL.iaO rfl ha9 rfl zae (by first | exact hK.lt | omega) rfl rfl (TL.ldRS 1 (.int _ _) rfl rfl (zab ha9) (by first | exact hK.lt | omega) (rfl) zaa rfl rfl (TL.eql rfl rfl rfl rfl (fun q5=>?_) (fun q5=>?_)))))))
 refine xmt rfl (xmv rfl (xmi rfl (TL.callD [1] [1] (zff ha9 (zab ha9) (by first | (have:=hK.ji.size; omega) | (have:=hJ.size; omega))) ⟨rfl,rfl,trivial⟩ ⟨rfl,trivial⟩ zgN rfl rfl rfl rfl rfl trivial (TL.cases rfl (fun q6=>?_) (fun q6=>?_)))))
 refine xnt rfl (xpG rfl (TL.done (TQ.then (TC.condF rfl (TC.skip (TQ.inBlock (TQ.then (TC.region ?_))))))))
 refine xmi rfl (TL.add (((k+1:Nat):Int)) rfl rfl (wrN (by omega)) rfl rfl (xai rfl (TL.done (TQ.roundK ((k+1,_,_)) ⟨⟨(show k+1≤n by omega),(by first | exact hK.skip (by assumption) | exact hK.next (fun e=>by first | exact hm1 e | exact zaZ.2 (.inl (hm1 e))) (fun e=>by first | exact zbd.1 (by assumption) | exact zaZ.2 (.inr rfl) | exact absurd e (by rw [←hK.hx]; assumption)))⟩,(show n - (k+1)<n - k by omega)⟩ ⟨rfl,rfl,trivial⟩ ⟨rfl,trivial⟩ (kE4 rfl rfl rfl rfl trivial) (kL1 rfl trivial)))))
 refine xnf rfl (xpT rfl (TL.done (TQ.then (TC.condT rfl (TC.region (xmv rfl (xmi rfl (TL.bsN 8 [_] (encI (f k).1) zae zeL ⟨rfl,trivial⟩ rfl (lit1 rfl) rfl rfl (fun bk8=>⟨trivial,?_⟩)))))))))
 refine TL.appS 1 8 (d2:=#[(f k).1]) rfl (rfl) rfl (fun _=>rfl) rfl rfl (row1 rfl) zci (by decide) za2 (by have:=hK.ji.size; simp at this ⊢; omega) rfl rfl (fun v9=>⟨trivial,?_⟩)
 replace hK:=hK.push (by omega) (by omega) (.inr ⟨by rw [←hK.hx]; assumption,rfl⟩) (fun hm=>absurd (zbd.2 hm) (by rw [Bool.not_eq_true]; assumption))
 refine xav rfl (dI (xmi rfl (TL.add (((k+1:Nat):Int)) rfl rfl (wrN (by omega)) rfl rfl (xai rfl (TL.done (TQ.roundK ((k+1,_,_)) ⟨⟨(show k+1≤n by omega),(by first | exact hK.skip (by assumption) | exact hK.next (fun e=>by first | exact hm1 e | exact zaZ.2 (.inl (hm1 e))) (fun e=>by first | exact zbd.1 (by assumption) | exact zaZ.2 (.inr rfl) | exact absurd e (by rw [←hK.hx]; assumption)))⟩,(show n - (k+1)<n - k by omega)⟩ ⟨rfl,rfl,trivial⟩ ⟨rfl,trivial⟩ (kE4 rfl rfl rfl rfl trivial) (kL1 rfl trivial)))))))
 refine xmf rfl (xo rfl (xo rfl (xo rfl (xo rfl (xpF rfl (TL.done (TQ.then (TC.condF rfl ?_))))))))
 refine TC.skip (TQ.inBlock (TQ.then (TC.region (xmi rfl (TL.add (((k+1:Nat):Int)) rfl rfl (wrN (by omega)) rfl rfl (xai rfl (TL.done (TQ.roundK ((k+1,_,_)) ⟨⟨(show k+1≤n by omega),(by first | exact hK.skip (by assumption) | exact hK.next (fun e=>by first | exact hm1 e | exact zaZ.2 (.inl (hm1 e))) (fun e=>by first | exact zbd.1 (by assumption) | exact zaZ.2 (.inr rfl) | exact absurd e (by rw [←hK.hx]; assumption)))⟩,(show n - (k+1)<n - k by omega)⟩ ⟨rfl,rfl,trivial⟩ ⟨rfl,trivial⟩ (kE4 rfl rfl rfl rfl trivial) (kL1 rfl trivial)))))))))
 refine TL.done (TQ.then (TC.condF rfl (TC.exit (TQ.thenExit (TQ.thenExit (TQ.blockHere (TQ.inBlock (TQ.then ?_))))))))
 refine TC.region (xmi rfl (TL.add (((i+1:Nat):Int)) rfl rfl (wrN (by have:=hJ.size; omega)) rfl rfl (xai rfl (TL.done (TQ.roundK ((i+1,_,_)) ⟨(by obtain rfl:k=n:=(by omega); exact JK.done hK),(by have:=hJ.size; have:=hJ.le; show 2 * n+1 - (i+1)<2 * n+1 - i; omega)⟩ ⟨rfl,rfl,trivial⟩ ⟨rfl,trivial⟩ (kE3 rfl rfl rfl trivial) (kL1 rfl trivial))))))
 refine dE rfl (TC.seq (TC.ownW 1 rfl (fun a9 g9 c9 hv9 hc9 ha9=>?_)))
 cases hv9
 refine TC.region (xmv rfl (xmi rfl (TL.callD [1] [1] (zff ha9 (zab ha9) (by first | (have:=hK.ji.size; omega) | (have:=hJ.size; omega))) ⟨rfl,rfl,trivial⟩ ⟨rfl,trivial⟩ zgN rfl rfl rfl rfl rfl trivial (xab rfl (dR ?_)))))
 refine FQ.ret1 (v:=(.bool _)) (Bs:=[A]) [0] rfl rfl rfl ⟨rfl,trivial⟩ ?_
 exact ⟨congrArg Value.bool (JI.closed hJ (by omega)),rfl⟩
end Go.Proofs.YtfmjfdbmpkcndaaGreat
