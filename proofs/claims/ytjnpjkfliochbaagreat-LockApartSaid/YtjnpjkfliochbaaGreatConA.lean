import Derived.Test.YtjnpjkfliochbaaGreatEngE
import Derived.Test.YtjnpjkfliochbaaGreatProg
import Derived.KernelRfl
import Derived.Tactics2
import Derived.StillTactics
import Derived.Laws.Tables
set_option linter.unusedVariables false
set_option linter.unusedSimpArgs false
set_option maxRecDepth 20000
namespace Go.Proofs.YtjnpjkfliochbaaGreat
open Go.Eng Go.Tm
open Go.Eng Go.Tm
abbrev layV (l:Lay):Value:=.agg #[.int .i64 l.V,.int .i64 l.S,.int .i64 l.T]
abbrev zsB (t:Thing):Value:=.agg #[.bool t.arc,.int .i64 t.level,.int .i64 t.vertex,.int .i64 t.slot,.int .i64 t.side]
abbrev wdV (w:Wd):Value:=.agg #[.int .i64 w.old,.int .i64 w.new,.int .i64 w.thread,.int .i64 w.tag]
theorem zrq {x:Int} (_h0:0≤x) (_h1:x≤16):0≤levI x∧levI x≤5:=by
 unfold levI
 repeat' split
 all_goals omega
theorem zsV {s:ByteArray} {x:Int} (h0:0≤x) (h1:x≤16) (hs:(List.range 17).map (fun i=>(s[i]?).map (·.toNat))=[0,1,2,2,3,3,3,3,4,4,4,4,4,4,4,4,5].map some):(s[x.toNat]?).map (fun b=>(b.toNat:Int))=some (levI x):=by
 have hx:x.toNat<17:=by omega
 have h2:=congrArg (fun l=>l[x.toNat]?) hs
 simp only [List.getElem?_map,List.getElem?_range hx,Option.map_some] at h2
 have h3:x=(x.toNat:Int):=by omega
 rw [h3,Int.toNat_natCast]
 generalize x.toNat=i at *
 have:i=0∨i=1∨i=2∨i=3∨i=4∨i=5∨i=6∨i=7∨i=8∨i=9∨i=10∨i=11∨i=12∨i=13∨i=14∨i=15∨i=16:=by omega
 cases hb:s[i]? with
 | none=>rw [hb] at h2; rcases this with rfl | rfl | rfl | rfl | rfl | rfl | rfl | rfl | rfl | rfl | rfl | rfl | rfl | rfl | rfl | rfl | rfl<;>simp at h2
 | some b=>rw [hb] at h2; rcases this with rfl | rfl | rfl | rfl | rfl | rfl | rfl | rfl | rfl | rfl | rfl | rfl | rfl | rfl | rfl | rfl | rfl<;>simp at h2<;>simp [h2,levI]
theorem zii {l:Lay} (h:l.Ok):1≤(l.V:Int)∧(l.V:Int)≤16∧(l.S:Int)≤48∧1≤(l.T:Int)∧(l.T:Int)≤8:=by
 obtain ⟨h1,h2,h3,h4,h5⟩:=h; omega
theorem zsS {l:Lay} (h:l.Ok):1≤l.lev∧l.lev≤5:=by
 have:=zii h
 unfold Lay.lev levI
 repeat' split
 all_goals omega
theorem za3 {l:Lay} (h:l.Ok):(1≤(l.V:Int)∧(l.V:Int)≤16∧(l.S:Int)≤48∧1≤(l.T:Int)∧(l.T:Int)≤8)∧(1≤l.lev∧l.lev≤5)∧l.arcs=2 * l.lev∧l.free=l.T∧(0≤l.lev * l.V∧l.lev * l.V≤5 * 16)∧(0≤(l.V:Int) * l.lev∧(l.V:Int) * l.lev≤16 * 5) ∧
  (0≤(l.S:Int) * l.arcs∧(l.S:Int) * l.arcs≤48 * 10)∧l.nodes=l.lev * l.V+l.S * l.arcs∧l.heads=l.T+1+l.S * 7∧l.edges=l.heads+l.V * l.lev∧(0≤(l.V:Int) * (l.V - 1)∧(l.V:Int) * (l.V - 1)≤16 * 15) ∧
  l.base=l.edges+(l.V:Int) * (l.V - 1) / 2∧l.cells=l.base+l.nodes * 7:=by
 have h1:=zii h
 have h2:=zsS h
 have h3:l.arcs=2 * l.lev:=rfl
 exact ⟨h1,h2,h3,rfl,zc1 (by omega) (by omega) (by omega) (by omega),zc1 (by omega) (by omega) (by omega) (by omega),zc1 (by omega) (by omega) (by omega) (by omega),rfl,rfl,rfl,zc1 (by omega) (by omega) (by omega) (by omega),rfl,rfl⟩
theorem zmI {a b:Int} (h0:0≤a) (hb:0<b) (ha:a<9223372036854775808):IntKind.i64.wrap (a.tdiv b)=a / b:=by
 rw [Int.tdiv_eq_ediv_of_nonneg h0]
 exact wr64 ⟨by have:=Int.ediv_nonneg h0 (Int.le_of_lt hb); omega,by have:=Int.ediv_le_self b h0; omega⟩
theorem zq5 {a b:Int} (h0:0≤a):a.tmod b=a % b:=Int.tmod_eq_emod_of_nonneg h0
theorem zeU {x V:Int} (h0:0≤x) (h1:x<V) (h2:V≤16):0≤x * (2 * V - x - 1)∧x * (2 * V - x - 1)≤16 * 32:=zc1 h0 (by omega) (by omega) (by omega)
abbrev zbh (l:Lay) (mt:TypeId) (mv:Value) (p:Pen):Value:=.agg #[.int .i64 l.V,.int .i64 l.S,.int .i64 l.T,.iface mt mv,.int .i64 p.thread,.int .i64 p.tag]
abbrev zjk (l:Lay) (mt:TypeId) (mv:Value):Value:=.agg #[.int .i64 l.V,.int .i64 l.S,.int .i64 l.T,.iface mt mv]
abbrev adjV (l:Lay) (mt:TypeId) (mv:Value) (p:Pen):Value:=.agg #[.int .i64 l.V,.int .i64 l.S,.int .i64 l.T,.iface mt mv,.int .i64 p.thread,.int .i64 p.tag,.int .i64 l.V,.int .i64 l.S,.int .i64 l.T,.iface mt mv]
theorem zkY (l:Lay) (x m:Int):0≤zew l x m∧zew l x m<18446744073709551616:=by
 unfold zew; split<;>exact zcY _ _
theorem zlI {S:Type} [MemLike S] (l:Lay) (σ:S) (x m:Int) (i:Nat):0≤(zdt l σ x m i).1∧(zdt l σ x m i).1<18446744073709551616:=by
 cases i with
 | zero=>exact zkY _ _ _
 | succ i=>exact zcY _ _
abbrev edgV (e:Edg):Value:=.agg #[.int .i64 e.u,.int .i64 e.v,.int .i64 e.level,.bool e.tree]
theorem quo2 (z:Int):IntKind.i64.wrap ((IntKind.i64.wrap z).tdiv 2)=(IntKind.i64.wrap z).tdiv 2:=by
 have h:-9223372036854775808≤IntKind.i64.wrap z∧IntKind.i64.wrap z<9223372036854775808:=by
  rw [IntKind.wrap_i64]; omega
 generalize IntKind.i64.wrap z=y at *
 refine wr64 ?_
 have h1:=Int.mul_tdiv_add_tmod y 2
 have h2:=Int.tmod_lt_of_pos y (show (0:Int)<2 by omega)
 have h3:=Int.lt_tmod_of_pos y (show (0:Int)<2 by omega)
 omega
theorem zeC:(Tryz.prog.underlying 71).isSome=true:=by kernel_rfl
theorem zpB:intB Tryz.prog 5 .u8=true:=by kernel_rfl
theorem zs6:Tryz.prog.underlying 9=some .string:=by kernel_rfl
theorem fc_u5:(Tryz.prog.underlying 5).isSome=true:=by kernel_rfl
theorem zby:intB Tryz.prog 3 .i64=true:=by kernel_rfl
theorem zrY:zal Tryz.prog 145=true:=by kernel_rfl
theorem zaz:fldB Tryz.prog 23 0 0=true:=by kernel_rfl
theorem zae:zbP Tryz.prog 3=true:=by kernel_rfl
theorem zeM:(Tryz.prog.underlying 3).isSome=true:=by kernel_rfl
theorem zkd:intB Tryz.prog 170 .u64=true:=by kernel_rfl
theorem zr6:zal Tryz.prog 116=true:=by kernel_rfl
theorem zaa:aggB Tryz.prog 23 3=true:=by kernel_rfl
theorem zfn:zal Tryz.prog 77=true:=by kernel_rfl
theorem fc_m:Tryz.prog.follows .mixedOrders=true:=by kernel_rfl
theorem zbl:fldB Tryz.prog 23 1 1=true:=by kernel_rfl
theorem zld:zal Tryz.prog 78=true:=by kernel_rfl
theorem zbw:zal Tryz.prog 102=true:=by kernel_rfl
theorem zdy:fldB Tryz.prog 23 2 2=true:=by kernel_rfl
theorem ziw:zal Tryz.prog 122=true:=by kernel_rfl
theorem zg6:zal Tryz.prog 149=true:=by kernel_rfl
theorem znW:zal Tryz.prog 148=true:=by kernel_rfl
theorem zn7:zal Tryz.prog 120=true:=by kernel_rfl
theorem zg3:zal Tryz.prog 17=true:=by kernel_rfl
theorem zqg:zal Tryz.prog 88=true:=by kernel_rfl
theorem zf2:zbB Tryz.prog 94=some (.agg #[.bool false,.int .i64 0,.int .i64 0,.int .i64 0,.int .i64 0]):=by kernel_rfl
theorem znD:za9 Tryz.prog 94 [(0,1),(1,1),(2,1),(3,1),(4,1)]=true:=by kernel_rfl
theorem zcp:aggB Tryz.prog 94 5=true:=by kernel_rfl
theorem zc5:fldB Tryz.prog 175 2 2=true:=by kernel_rfl
theorem zbf:fldB Tryz.prog 175 0 0=true:=by kernel_rfl
theorem zfN:zal Tryz.prog 163=true:=by kernel_rfl
theorem za0:fldB Tryz.prog 175 1 1=true:=by kernel_rfl
theorem zcj:fldB Tryz.prog 175 3 3=true:=by kernel_rfl
theorem zan:aggB Tryz.prog 175 4=true:=by kernel_rfl
theorem zko:zal Tryz.prog 132=true:=by kernel_rfl
theorem znS:zal Tryz.prog 162=true:=by kernel_rfl
theorem zaX:intB Tryz.prog 71 .u64=true:=by kernel_rfl
theorem zbt:zbB Tryz.prog 175=some (.agg #[.int .i64 0,.int .i64 0,.int .i64 0,.int .i64 0]):=by kernel_rfl
theorem zkn:zal Tryz.prog 161=true:=by kernel_rfl
theorem zfK:za9 Tryz.prog 175 [(0,1),(1,1),(2,1),(3,1)]=true:=by kernel_rfl
theorem zdx:fldB Tryz.prog 37 0 0=true:=by kernel_rfl
theorem zcT:fldB Tryz.prog 37 1 1=true:=by kernel_rfl
theorem zee:zal Tryz.prog 131=true:=by kernel_rfl
theorem zn3:zal Tryz.prog 134=true:=by kernel_rfl
theorem ziv:zal Tryz.prog 143=true:=by kernel_rfl
theorem zn9:zal Tryz.prog 113=true:=by kernel_rfl
theorem zaY:fldB Tryz.prog 39 1 3=true:=by kernel_rfl
theorem zbK:zbP Tryz.prog 35=true:=by kernel_rfl
theorem zaB:fldB Tryz.prog 39 0 0=true:=by kernel_rfl
theorem zbm:zal Tryz.prog 54=true:=by kernel_rfl
theorem zle:zal Tryz.prog 47=true:=by kernel_rfl
theorem zfL:fldB Tryz.prog 94 1 1=true:=by kernel_rfl
theorem zaf:aggB Tryz.prog 39 6=true:=by kernel_rfl
theorem znX:zal Tryz.prog 146=true:=by kernel_rfl
theorem zsb:zal Tryz.prog 107=true:=by kernel_rfl
theorem zdR:zal Tryz.prog 147=true:=by kernel_rfl
theorem zhI:fldB Tryz.prog 39 2 4=true:=by kernel_rfl
theorem zcq:aggB Tryz.prog 37 2=true:=by kernel_rfl
theorem zsc:zal Tryz.prog 106=true:=by kernel_rfl
theorem ziu:zal Tryz.prog 150=true:=by kernel_rfl
theorem zhF:fldB Tryz.prog 94 0 0=true:=by kernel_rfl
theorem zc4:zbP Tryz.prog 4=true:=by kernel_rfl
theorem znU:zal Tryz.prog 152=true:=by kernel_rfl
theorem zfJ:zbB Tryz.prog 128=some (.agg #[.int .i64 0,.int .i64 0]):=by kernel_rfl
theorem zaJ:zhR Tryz.prog 128 2 3 1=true:=by kernel_rfl
theorem zkj:zal Tryz.prog 195=true:=by kernel_rfl
theorem zrN:zal Tryz.prog 196=true:=by kernel_rfl
theorem zg5:zal Tryz.prog 151=true:=by kernel_rfl
theorem zfO:zal Tryz.prog 119=true:=by kernel_rfl
theorem zis:zal Tryz.prog 188=true:=by kernel_rfl
theorem zfM:zal Tryz.prog 186=true:=by kernel_rfl
theorem zg2:zal Tryz.prog 187=true:=by kernel_rfl
theorem zkk:zal Tryz.prog 189=true:=by kernel_rfl
theorem zir:zal Tryz.prog 194=true:=by kernel_rfl
theorem zrO:zal Tryz.prog 193=true:=by kernel_rfl
theorem zkl:zal Tryz.prog 185=true:=by kernel_rfl
theorem zrP:zal Tryz.prog 184=true:=by kernel_rfl
theorem zaH:fldB Tryz.prog 41 0 0=true:=by kernel_rfl
theorem zhM:zal Tryz.prog 51=true:=by kernel_rfl
theorem zlc:zal Tryz.prog 86=true:=by kernel_rfl
theorem zrT:zal Tryz.prog 175=true:=by kernel_rfl
theorem zrS:zal Tryz.prog 176=true:=by kernel_rfl
theorem zit:zal Tryz.prog 171=true:=by kernel_rfl
theorem zkm:zal Tryz.prog 174=true:=by kernel_rfl
theorem zdT:aggB Tryz.prog 41 6=true:=by kernel_rfl
theorem zrU:zal Tryz.prog 170=true:=by kernel_rfl
theorem znN:zal Tryz.prog 172=true:=by kernel_rfl
theorem zr3:zal Tryz.prog 123=true:=by kernel_rfl
theorem zbO:fldB Tryz.prog 43 1 3=true:=by kernel_rfl
theorem za8:fldB Tryz.prog 43 0 0=true:=by kernel_rfl
theorem zkp:zal Tryz.prog 109=true:=by kernel_rfl
theorem zn2:zal Tryz.prog 135=true:=by kernel_rfl
theorem zn1:zal Tryz.prog 136=true:=by kernel_rfl
theorem zn0:zal Tryz.prog 137=true:=by kernel_rfl
theorem ziq:zbB Tryz.prog 183=some (.agg #[.int .i64 0,.int .i64 0,.int .i64 0,.bool false]):=by kernel_rfl
theorem zdf:aggB Tryz.prog 43 4=true:=by kernel_rfl
theorem znT:zal Tryz.prog 153=true:=by kernel_rfl
theorem zql:zal Tryz.prog 73=true:=by kernel_rfl
theorem zrH:za9 Tryz.prog 183 [(0,1),(1,1),(2,1),(3,1)]=true:=by kernel_rfl
theorem zfo:aggB Tryz.prog 183 4=true:=by kernel_rfl
theorem za7:fldB Tryz.prog 45 1 6=true:=by kernel_rfl
theorem zrR:zal Tryz.prog 182=true:=by kernel_rfl
theorem zrQ:zal Tryz.prog 183=true:=by kernel_rfl
theorem zba:aggB Tryz.prog 45 10=true:=by kernel_rfl
theorem znR:zal Tryz.prog 164=true:=by kernel_rfl
theorem znQ:zal Tryz.prog 165=true:=by kernel_rfl
theorem zcS:fldB Tryz.prog 45 0 0=true:=by kernel_rfl
theorem fc_b4:zoy Tryz.prog 4=true:=by kernel_rfl
theorem znM:zal Tryz.prog 173=true:=by kernel_rfl
theorem zrV:zal Tryz.prog 167=true:=by kernel_rfl
theorem zg4:zal Tryz.prog 166=true:=by kernel_rfl
theorem znP:zal Tryz.prog 168=true:=by kernel_rfl
theorem znO:zal Tryz.prog 169=true:=by kernel_rfl
theorem zn5:zal Tryz.prog 125=true:=by kernel_rfl
theorem zgX:fldB Tryz.prog 183 0 0=true:=by kernel_rfl
theorem zdP:fldB Tryz.prog 183 2 2=true:=by kernel_rfl
theorem znY:zal Tryz.prog 139=true:=by kernel_rfl
theorem znZ:zal Tryz.prog 138=true:=by kernel_rfl
theorem zgW:fldB Tryz.prog 183 1 1=true:=by kernel_rfl
theorem zbz:fldB Tryz.prog 47 0 0=true:=by kernel_rfl
theorem zr1:zal Tryz.prog 140=true:=by kernel_rfl
theorem zr0:zal Tryz.prog 141=true:=by kernel_rfl
theorem zjg:aggB Tryz.prog 47 10=true:=by kernel_rfl
theorem zrZ:zal Tryz.prog 142=true:=by kernel_rfl
theorem zr9:zal Tryz.prog 111=true:=by kernel_rfl
theorem zsd:zal Tryz.prog 100=true:=by kernel_rfl
theorem znz:zbB Tryz.prog 49=some (.agg #[.int .i64 0,.int .i64 0,.int .i64 0,.nilIface,.int .i64 0,.int .i64 0,.int .i64 0,.int .i64 0,.int .i64 0,.nilIface]):=by kernel_rfl
theorem znE:za9 Tryz.prog 39 [(0,3),(3,1),(4,2)]=true:=by kernel_rfl
theorem zjc:zbB Tryz.prog 39=some (.agg #[.int .i64 0,.int .i64 0,.int .i64 0,.nilIface,.int .i64 0,.int .i64 0]):=by kernel_rfl
theorem ztd:za9 Tryz.prog 41 [(0,6)]=true:=by kernel_rfl
theorem zqd:zbB Tryz.prog 41=some (.agg #[.int .i64 0,.int .i64 0,.int .i64 0,.nilIface,.int .i64 0,.int .i64 0]):=by kernel_rfl
theorem ztc:za9 Tryz.prog 43 [(0,3),(3,1)]=true:=by kernel_rfl
theorem zs5:zbB Tryz.prog 43=some (.agg #[.int .i64 0,.int .i64 0,.int .i64 0,.nilIface]):=by kernel_rfl
theorem ztb:za9 Tryz.prog 45 [(0,6),(6,4)]=true:=by kernel_rfl
theorem zs4:zbB Tryz.prog 45=some (.agg #[.int .i64 0,.int .i64 0,.int .i64 0,.nilIface,.int .i64 0,.int .i64 0,.int .i64 0,.int .i64 0,.int .i64 0,.nilIface]):=by kernel_rfl
theorem zta:za9 Tryz.prog 47 [(0,10)]=true:=by kernel_rfl
theorem zs3:zbB Tryz.prog 47=some (.agg #[.int .i64 0,.int .i64 0,.int .i64 0,.nilIface,.int .i64 0,.int .i64 0,.int .i64 0,.int .i64 0,.int .i64 0,.nilIface]):=by kernel_rfl
theorem zs9:za9 Tryz.prog 49 [(0,10)]=true:=by kernel_rfl
theorem zdA:aggB Tryz.prog 49 10=true:=by kernel_rfl
theorem zcR:fldB Tryz.prog 49 0 0=true:=by kernel_rfl
theorem zts:zal Tryz.prog 42=true:=by kernel_rfl
theorem zsa:zal Tryz.prog 110=true:=by kernel_rfl
theorem zr8:zal Tryz.prog 112=true:=by kernel_rfl
theorem zaM:fldB Tryz.prog 140 0 0=true:=by kernel_rfl
theorem zcx:zbP Tryz.prog 24=true:=by kernel_rfl
theorem zas:zb6 Tryz.prog 24 71 1=true:=by kernel_rfl
theorem zbg:fldB Tryz.prog 140 1 1=true:=by kernel_rfl
theorem zcP:fldB Tryz.prog 62 0 0=true:=by kernel_rfl
theorem zeF:zal Tryz.prog 89=true:=by kernel_rfl
theorem zdm:ptrB Tryz.prog 143=true:=by kernel_rfl
theorem zeD:zbP Tryz.prog 71=true:=by kernel_rfl
theorem zcO:fldB Tryz.prog 62 1 1=true:=by kernel_rfl
theorem zch:fldB Tryz.prog 62 3 3=true:=by kernel_rfl
theorem zcN:fldB Tryz.prog 62 2 2=true:=by kernel_rfl
theorem zhG:fldB Tryz.prog 88 0 0=true:=by kernel_rfl
theorem zf4:zbP Tryz.prog 33=true:=by kernel_rfl
theorem zje:zal Tryz.prog 31=true:=by kernel_rfl
theorem zhL:zal Tryz.prog 55=true:=by kernel_rfl
theorem zkc:appB Tryz.prog 24 71 1=true:=by kernel_rfl
theorem zsZ:zbB Tryz.prog 71=some (.int .u64 0):=by kernel_rfl
theorem zrJ:za9 Tryz.prog 140 [(0,1),(1,5)]=true:=by kernel_rfl
theorem zrC:zbB Tryz.prog 140=some (.agg #[.slice none 0 0,.int .i64 0,.int .i64 0,.int .i64 0,.int .i64 0,.int .i64 0]):=by kernel_rfl
theorem znx:zbB Tryz.prog 88=some (.agg #[.pointer none]):=by kernel_rfl
theorem zs7:za9 Tryz.prog 88 [(0,1)]=true:=by kernel_rfl
theorem zdS:aggB Tryz.prog 88 1=true:=by kernel_rfl
theorem zrX:zal Tryz.prog 159=true:=by kernel_rfl
theorem zrW:zal Tryz.prog 160=true:=by kernel_rfl
theorem zr7:zal Tryz.prog 115=true:=by kernel_rfl
theorem zn8:zal Tryz.prog 114=true:=by kernel_rfl
theorem zn4:zal Tryz.prog 133=true:=by kernel_rfl
theorem zqm:zal Tryz.prog 53=true:=by kernel_rfl
theorem zoa:zal Tryz.prog 104=true:=by kernel_rfl
theorem zr2:zal Tryz.prog 130=true:=by kernel_rfl
theorem zrG:za9 Tryz.prog 189 [(0,3),(3,1),(4,4),(8,1),(9,1),(10,1)]=true:=by kernel_rfl
theorem zrA:zbB Tryz.prog 189=some (.agg #[.int .i64 0,.int .i64 0,.int .i64 0,.int .i64 0,.int .i64 0,.int .i64 0,.int .i64 0,.int .i64 0,.bool false,.bool false,.int .i64 0]):=by kernel_rfl
theorem zde:fldB Tryz.prog 189 5 10=true:=by kernel_rfl
theorem zbv:fldB Tryz.prog 189 4 9=true:=by kernel_rfl
theorem zgV:fldB Tryz.prog 189 3 8=true:=by kernel_rfl
theorem zkf:fldB Tryz.prog 189 0 0=true:=by kernel_rfl
theorem zeN:fldB Tryz.prog 189 2 4=true:=by kernel_rfl
theorem zke:fldB Tryz.prog 189 1 3=true:=by kernel_rfl
theorem zn6:zal Tryz.prog 121=true:=by kernel_rfl
theorem zqk:zal Tryz.prog 75=true:=by kernel_rfl
theorem zcF:zf8 Tryz.prog 88 "Store" 215=true:=by kernel_rfl
theorem ztk:zal Tryz.prog 91=true:=by kernel_rfl
theorem ztu:zal Tryz.prog 30=true:=by kernel_rfl
theorem ztj:zal Tryz.prog 92=true:=by kernel_rfl
theorem zlf:zal Tryz.prog 38=true:=by kernel_rfl
theorem zgU:zic Tryz.prog 88=true:=by kernel_rfl
theorem zti:zal Tryz.prog 93=true:=by kernel_rfl
theorem zqe:za9 Tryz.prog 37 [(0,1),(1,1)]=true:=by kernel_rfl
theorem znA:zbB Tryz.prog 37=some (.agg #[.int .i64 0,.int .i64 0]):=by kernel_rfl
theorem zlb:zal Tryz.prog 94=true:=by kernel_rfl
theorem zla:zal Tryz.prog 97=true:=by kernel_rfl
theorem zrI:za9 Tryz.prog 157 [(0,3),(3,1),(4,1),(5,1),(6,1),(7,1),(8,1)]=true:=by kernel_rfl
theorem zrB:zbB Tryz.prog 157=some (.agg #[.int .i64 0,.int .i64 0,.int .i64 0,.int .i64 0,.pointer none,.bool false,.bool false,.int .i64 0,.int .i64 0]):=by kernel_rfl
theorem zbW:fldB Tryz.prog 157 4 6=true:=by kernel_rfl
theorem zkg:fldB Tryz.prog 157 5 7=true:=by kernel_rfl
theorem zgY:fldB Tryz.prog 157 6 8=true:=by kernel_rfl
theorem zdQ:fldB Tryz.prog 157 1 3=true:=by kernel_rfl
theorem zc6:fldB Tryz.prog 157 2 4=true:=by kernel_rfl
theorem zgT:zbP Tryz.prog 154=true:=by kernel_rfl
theorem zth:zal Tryz.prog 98=true:=by kernel_rfl
theorem ztg:zal Tryz.prog 99=true:=by kernel_rfl
theorem zeO:fldB Tryz.prog 157 3 5=true:=by kernel_rfl
theorem zbX:fldB Tryz.prog 157 0 0=true:=by kernel_rfl
theorem zag:zb6 Tryz.prog 59 3 1=true:=by kernel_rfl
theorem zhE:appB Tryz.prog 59 3 1=true:=by kernel_rfl
theorem zk9:zbB Tryz.prog 62=some (.agg #[.int .i64 0,.int .i64 0,.int .i64 0,.int .i64 0,.int .i64 0]):=by kernel_rfl
theorem zeq:aggB Tryz.prog 62 5=true:=by kernel_rfl
theorem zpA:zbB Tryz.prog 3=some (.int .i64 0):=by kernel_rfl
theorem ztt:zal Tryz.prog 37=true:=by kernel_rfl
theorem zto:zal Tryz.prog 74=true:=by kernel_rfl
theorem zg1:fldB Tryz.prog 123 0 0=true:=by kernel_rfl
theorem zg0:fldB Tryz.prog 123 1 1=true:=by kernel_rfl
theorem zgZ:fldB Tryz.prog 123 2 2=true:=by kernel_rfl
theorem zrF:zbB Tryz.prog 123=some (.agg #[.int .i64 0,.int .i64 0,.int .i64 0]):=by kernel_rfl
theorem zrM:za9 Tryz.prog 123 [(0,1),(1,1),(2,1)]=true:=by kernel_rfl
theorem ztp:zal Tryz.prog 72=true:=by kernel_rfl
theorem zqq:zal Tryz.prog 35=true:=by kernel_rfl
theorem zqf:ptrB Tryz.prog 33=true:=by kernel_rfl
theorem ztq:zal Tryz.prog 49=true:=by kernel_rfl
theorem ztn:zal Tryz.prog 76=true:=by kernel_rfl
theorem zr5:zal Tryz.prog 117=true:=by kernel_rfl
theorem zed:fldB Tryz.prog 130 9 13=true:=by kernel_rfl
theorem za1:fldB Tryz.prog 130 3 6=true:=by kernel_rfl
theorem zbZ:fldB Tryz.prog 130 4 7=true:=by kernel_rfl
theorem zc8:fldB Tryz.prog 130 0 0=true:=by kernel_rfl
theorem zeQ:fldB Tryz.prog 130 1 3=true:=by kernel_rfl
theorem znI:zal Tryz.prog 39=true:=by kernel_rfl
theorem zbY:fldB Tryz.prog 130 5 8=true:=by kernel_rfl
theorem zgS:zbP Tryz.prog 90=true:=by kernel_rfl
theorem za6:fldB Tryz.prog 130 8 12=true:=by kernel_rfl
theorem zb2:zbP Tryz.prog 59=true:=by kernel_rfl
theorem znH:zal Tryz.prog 84=true:=by kernel_rfl
theorem zqp:zal Tryz.prog 40=true:=by kernel_rfl
theorem zeP:fldB Tryz.prog 130 6 9=true:=by kernel_rfl
theorem zqo:zal Tryz.prog 41=true:=by kernel_rfl
theorem za2:aggB Tryz.prog 128 2=true:=by kernel_rfl
theorem zcy:fldB Tryz.prog 130 7 11=true:=by kernel_rfl
theorem zki:fldB Tryz.prog 130 2 5=true:=by kernel_rfl
theorem zr4:zal Tryz.prog 118=true:=by kernel_rfl
theorem zqh:zal Tryz.prog 83=true:=by kernel_rfl
theorem zqj:zal Tryz.prog 79=true:=by kernel_rfl
theorem zqi:zal Tryz.prog 80=true:=by kernel_rfl
theorem zdz:zal Tryz.prog 19=true:=by kernel_rfl
theorem ztm:zal Tryz.prog 81=true:=by kernel_rfl
theorem ztl:zal Tryz.prog 82=true:=by kernel_rfl
theorem znG:zal Tryz.prog 85=true:=by kernel_rfl
theorem zrL:za9 Tryz.prog 130 [(0,3),(3,2),(5,1),(6,1),(7,1),(8,1),(9,2),(11,1),(12,1),(13,1)]=true:=by kernel_rfl
theorem zrE:zbB Tryz.prog 130=some (.agg #[.int .i64 0,.int .i64 0,.int .i64 0,.int .i64 0,.int .i64 0,.int .i64 0,.int .i64 0,.int .i64 0,.pointer none,.int .i64 0,.int .i64 0,.slice none 0 0,.slice none 0 0,.int .i64 0]):=by kernel_rfl
theorem zc7:fldB Tryz.prog 138 1 3=true:=by kernel_rfl
theorem zhN:zal Tryz.prog 22=true:=by kernel_rfl
theorem zkh:fldB Tryz.prog 138 0 0=true:=by kernel_rfl
theorem zrK:za9 Tryz.prog 138 [(0,3),(3,1)]=true:=by kernel_rfl
theorem zrD:zbB Tryz.prog 138=some (.agg #[.int .i64 0,.int .i64 0,.int .i64 0,.slice none 0 0]):=by kernel_rfl
theorem zbk:fldB Tryz.prog 27 0 0=true:=by kernel_rfl
theorem zhK:fldB Tryz.prog 27 1 3=true:=by kernel_rfl
theorem zhJ:fldB Tryz.prog 27 2 4=true:=by kernel_rfl
theorem zdZ:zbP Tryz.prog 25=true:=by kernel_rfl
theorem zaL:zb6 Tryz.prog 25 66 2=true:=by kernel_rfl
theorem zbA:fldB Tryz.prog 27 3 5=true:=by kernel_rfl
theorem zep:aggB Tryz.prog 66 2=true:=by kernel_rfl
theorem zny:zbB Tryz.prog 66=some (.agg #[.int .i64 0,.int .i64 0]):=by kernel_rfl
theorem zbj:fldB Tryz.prog 66 0 0=true:=by kernel_rfl
theorem zbi:fldB Tryz.prog 66 1 1=true:=by kernel_rfl
theorem zlW:fldB Tryz.prog 53 2 4=true:=by kernel_rfl
theorem zhH:fldB Tryz.prog 53 0 0=true:=by kernel_rfl
theorem znB:zbB Tryz.prog 23=some (.agg #[.int .i64 0,.int .i64 0,.int .i64 0]):=by kernel_rfl
theorem zs8:za9 Tryz.prog 53 [(0,3),(3,1),(4,10),(14,1),(15,1)]=true:=by kernel_rfl
theorem zs2:zbB Tryz.prog 53=some (.agg #[.int .i64 0,.int .i64 0,.int .i64 0,.pointer none,.int .i64 0,.int .i64 0,.int .i64 0,.nilIface,.int .i64 0,.int .i64 0,.int .i64 0,.int .i64 0,.int .i64 0,.nilIface,.slice none 0 0,.slice none 0 0]):=by kernel_rfl
theorem zjf:zal Tryz.prog 27=true:=by kernel_rfl
theorem zci:fldB Tryz.prog 53 3 14=true:=by kernel_rfl
theorem zhD:zbP Tryz.prog 50=true:=by kernel_rfl
theorem znJ:zal Tryz.prog 25=true:=by kernel_rfl
theorem zcg:zb6 Tryz.prog 50 55 1=true:=by kernel_rfl
theorem zs1:zbB Tryz.prog 55=some (.pointer none):=by kernel_rfl
theorem zkb:appB Tryz.prog 50 55 1=true:=by kernel_rfl
theorem zbe:fldB Tryz.prog 53 4 15=true:=by kernel_rfl
theorem zeE:zbP Tryz.prog 51=true:=by kernel_rfl
theorem zbu:zb6 Tryz.prog 51 57 1=true:=by kernel_rfl
theorem zs0:zbB Tryz.prog 57=some (.pointer none):=by kernel_rfl
theorem zka:appB Tryz.prog 51 57 1=true:=by kernel_rfl
theorem zte:za9 Tryz.prog 23 [(0,1),(1,1),(2,1)]=true:=by kernel_rfl
theorem znF:ptrB Tryz.prog 55=true:=by kernel_rfl
theorem zqu:zal Tryz.prog 18=true:=by kernel_rfl
theorem zlg:zal Tryz.prog 21=true:=by kernel_rfl
theorem zqt:zal Tryz.prog 20=true:=by kernel_rfl
theorem zqn:zal Tryz.prog 43=true:=by kernel_rfl
theorem ztr:zal Tryz.prog 44=true:=by kernel_rfl
theorem zjd:ptrB Tryz.prog 57=true:=by kernel_rfl
theorem znL:zal Tryz.prog 23=true:=by kernel_rfl
theorem zix:aggB Tryz.prog 27 6=true:=by kernel_rfl
theorem zqv:zal Tryz.prog 14=true:=by kernel_rfl
theorem znV:zal Tryz.prog 15=true:=by kernel_rfl
theorem ztv:zal Tryz.prog 16=true:=by kernel_rfl
theorem ztf:ptrB Tryz.prog 30=true:=by kernel_rfl
theorem zcQ:fldB Tryz.prog 53 1 3=true:=by kernel_rfl
theorem znC:zbP Tryz.prog 55=true:=by kernel_rfl
theorem znK:zal Tryz.prog 24=true:=by kernel_rfl
theorem zf3:zbP Tryz.prog 57=true:=by kernel_rfl
theorem zeR:zjQ Tryz.prog 141 3 3=true:=by kernel_rfl
theorem zqs:zal Tryz.prog 26=true:=by kernel_rfl
theorem zqr:zal Tryz.prog 28=true:=by kernel_rfl
theorem za4 {n m:Int}:FnD Tryz.prog 102 [.int .i64 n,.int .i64 m] [] (.bool (decide (0≤n∧n<m))) []:=by
 refine Fn.enter (Tryz.func102) rfl rfl (fun w0 R=>?_)
 refine sA (xaf rfl (dA (xmi rfl (TL.geq rfl rfl rfl rfl (fun q1=>?_) (fun q1=>?_)))))
 refine xmt rfl (xmi rfl (xmi rfl (TL.lssV rfl rfl rfl rfl (TL.pickT (.bool _) rfl rfl rfl rfl (xab rfl (dR ?_))))))
 refine FQ.ret1 (v:=(.bool _)) (Bs:=[]) [] rfl rfl rfl trivial ?_
 first | exact ⟨bT (by omega),rfl⟩ | exact ⟨bF (by omega),rfl⟩ | exact ⟨congrArg Value.bool (decide_eq_decide.2 (by omega)),rfl⟩
 refine xmf rfl (xo rfl (xo rfl (xo rfl (xpF rfl (xaf rfl (dR ?_))))))
 refine FQ.ret1 (v:=(.bool false)) (Bs:=[]) [] rfl rfl rfl trivial ?_
 first | exact ⟨bT (by omega),rfl⟩ | exact ⟨bF (by omega),rfl⟩ | exact ⟨congrArg Value.bool (decide_eq_decide.2 (by omega)),rfl⟩
theorem zpo {x:Int} (h0:0≤x) (h1:x≤16):FnD Tryz.prog 145 [.int .u64 x] [] (.int .i64 (levI x)) []:=by
 have hl:=zrq h0 h1
 refine Fn.enter (Tryz.func145) rfl rfl (fun w0 R=>?_)
 refine sA (xai rfl (dB (xmi rfl (TL.geqF rfl rfl (by omega) rfl rfl (TL.done (TQ.then (TC.condF rfl (TC.skip ?_))))))))
 refine TQ.then (sB (xmi rfl (TL.geqF rfl rfl (by omega) rfl rfl (TL.done (TQ.then (TC.condF rfl (TC.skip (TQ.then ?_))))))))
 refine sB (xmi rfl (TL.geqF rfl rfl (by omega) rfl rfl (dF rfl (xmi rfl (xmi rfl (TL.conv _ rfl zeC zpB (wru8 (by omega)) rfl rfl (TL.ixS (levI x) rfl rfl zs6 (by omega) (zsV h0 h1 (by kernel_rfl)) rfl rfl (TL.conv _ rfl fc_u5 zby (wr64 (by omega)) rfl rfl ?_))))))))
 refine TL.add _ rfl rfl (wr64 (by omega)) rfl rfl (xai rfl (dR ?_))
 refine FQ.ret1 (v:=(.int _ _)) (Bs:=[]) [] rfl rfl rfl trivial ?_
 exact ⟨iE (by omega),rfl⟩
theorem zsT {x:Int} (h0:0≤x) (h1:x≤16):FnD Tryz.prog 116 [.int .u64 x] [] (.int .i64 (levI x)) []:=by
 refine Fn.enter (Tryz.func116) rfl rfl (fun w0 R=>?_)
 refine sA (xai rfl (dS (TC.condF rfl (TC.skip (TQ.then (sA (xmi rfl (TL.callD [] [] (zpo (by omega) (by omega)) ⟨rfl,trivial⟩ trivial zrY rfl rfl rfl rfl rfl trivial ?_))))))))
 refine xai rfl (dR ?_)
 refine FQ.ret1 (v:=(.int _ _)) (Bs:=[]) [] rfl rfl rfl trivial ?_
 exact ⟨rfl,rfl⟩
theorem zb9 {l:Lay} (hl:l.Ok)  : FnD Tryz.prog 77 [layV l] [] (.int .i64 l.lev) []:=by
 have hb:=zii hl
 refine Fn.enter (Tryz.func77) rfl rfl (fun w0 R=>?_)
 refine sA (xB 0 rfl (fun bk0=>(xai rfl (dA (xf 0 zaz rfl (xli 0 zae rfl rfl (TL.conv _ rfl zeM zkd (zoR (by omega)) rfl rfl (TL.callD [] [] (zsT (by omega) (by omega)) ⟨rfl,trivial⟩ trivial zr6 rfl rfl rfl rfl rfl trivial (xai rfl ?_)))))))))
 refine dR ?_
 refine FQ.ret1 (v:=(.int _ _)) (Bs:=[]) [] rfl rfl rfl trivial ?_
 exact ⟨rfl,rfl⟩
theorem ziC {l:Lay} (hl:l.Ok)  : FnD Tryz.prog 78 [layV l] [] (.int .i64 l.arcs) []:=by
 have hb:=za3 hl
 refine Fn.enter (Tryz.func78) rfl rfl (fun w0 R=>?_)
 refine sA (xB 0 rfl (fun bk0=>(xai rfl (dA (xL3 0 zaa rfl rfl (TL.callD [] [] (zb9 hl) ⟨rfl,trivial⟩ trivial zfn rfl rfl rfl rfl rfl trivial (TL.mul _ rfl rfl (wr64 (by omega)) rfl rfl (xai rfl (dR ?_)))))))))
 refine FQ.ret1 (v:=(.int _ _)) (Bs:=[]) [] rfl rfl rfl trivial ?_
 exact ⟨rfl,rfl⟩
theorem zdH {l:Lay} (hl:l.Ok)  : FnD Tryz.prog 17 [layV l] [] (.int .i64 l.nodes) []:=by
 have hb:=za3 hl
 refine Fn.enter (Tryz.func17) rfl rfl (fun w0 R=>?_)
 refine sA (xB 0 rfl (fun bk0=>(xai rfl (dS (TC.draw [(0,true),(2,true),(3,true),(5,true),(6,true),(7,true),(1,false),(4,true),(8,false),(9,true),(10,true),(11,true)] [0] fc_m (by kernel_rfl) (xL3 0 zaa rfl rfl (xf 0 zaz rfl (xli 0 zae rfl rfl (xf 1 zbl rfl ?_)))))))))
 refine xli 0 zae rfl rfl (xL3 0 zaa rfl rfl (TL.callD [] [] (zb9 hl) ⟨rfl,trivial⟩ trivial zfn rfl rfl rfl rfl rfl (kL1 rfl trivial) (TL.mul _ rfl rfl (wr64 (by omega)) rfl rfl (TL.callD [] [] (ziC hl) ⟨rfl,trivial⟩ trivial zld rfl rfl rfl rfl rfl (kL1 rfl trivial) (TL.mul _ rfl rfl (wr64 (by omega)) rfl rfl (TL.add _ rfl rfl (wr64 (by omega)) rfl rfl (xai rfl (dR ?_))))))))
 refine FQ.ret1 (v:=(.int _ _)) (Bs:=[]) [] rfl rfl rfl trivial ?_
 exact ⟨rfl,rfl⟩
theorem zdo {l:Lay} (hl:l.Ok) {i v:Int}:FnD Tryz.prog 51 [layV l,.int .i64 i,.int .i64 v] [] (.int .i64 (l.vertex i v)) []:=by
 have hb:=za3 hl
 refine Fn.enter (Tryz.func51) rfl rfl (fun w0 R=>?_)
 refine sA (xB 0 rfl (fun bk0=>(xai rfl (dB (xmi rfl (xL3 0 zaa rfl rfl (TL.callD [] [] (zb9 hl) ⟨rfl,trivial⟩ trivial zfn rfl rfl rfl rfl rfl trivial (TL.callD [] [] za4 ⟨rfl,rfl,trivial⟩ trivial zbw rfl rfl rfl rfl rfl trivial (TL.casesP rfl (fun q1=>?_) (fun q1=>?_))))))))))
 refine xnt rfl (xmf rfl (xmi rfl (xf 0 zaz rfl (xli 0 zae rfl rfl (TL.callD [] [] za4 ⟨rfl,rfl,trivial⟩ trivial zbw rfl rfl rfl rfl rfl trivial (TL.casesP rfl (fun q2=>?_) (fun q2=>?_)))))))
 refine xnt rfl (xpF rfl (dF rfl (xmi rfl (xf 0 zaz rfl (xli 0 zae rfl rfl (TL.mul _ rfl rfl (wr64 (by have:=zc1 (a:=i) (A:=5) (b:=(l.V:Int)) (B:=16) (by omega) (by omega) (by omega) (by omega); omega)) rfl rfl (TL.add _ rfl rfl (wr64 (by have:=zc1 (a:=i) (A:=5) (b:=(l.V:Int)) (B:=16) (by omega) (by omega) (by omega) (by omega); omega)) rfl rfl (xmi rfl ?_))))))))
 refine TL.add _ rfl rfl (wr64 (by have:=zc1 (a:=i) (A:=5) (b:=(l.V:Int)) (B:=16) (by omega) (by omega) (by omega) (by omega); omega)) rfl rfl (xai rfl (dR ?_))
 refine FQ.ret1 (v:=(.int _ _)) (Bs:=[]) [] rfl rfl rfl trivial ?_
 first | exact ⟨iE (by unfold Lay.vertex; rw [if_pos (by omega)]),rfl⟩ | exact ⟨iE (by unfold Lay.vertex; rw [if_neg (by omega)]),rfl⟩
 refine xnf rfl (xpH rfl (dT rfl (xai rfl (dRR ?_))))
 refine FQ.ret1 (v:=(.int _ _)) (Bs:=[]) [] rfl rfl rfl trivial ?_
 first | exact ⟨iE (by unfold Lay.vertex; rw [if_pos (by omega)]),rfl⟩ | exact ⟨iE (by unfold Lay.vertex; rw [if_neg (by omega)]),rfl⟩
 refine xnf rfl (xmt rfl (xo rfl (xo rfl (xo rfl (xo rfl (xo rfl (xpT rfl (dT rfl ?_))))))))
 refine xai rfl (dRR ?_)
 refine FQ.ret1 (v:=(.int _ _)) (Bs:=[]) [] rfl rfl rfl trivial ?_
 first | exact ⟨iE (by unfold Lay.vertex; rw [if_pos (by omega)]),rfl⟩ | exact ⟨iE (by unfold Lay.vertex; rw [if_neg (by omega)]),rfl⟩
theorem zoH {l:Lay} (hl:l.Ok) {s i d:Int}:FnD Tryz.prog 174 [layV l,.int .i64 s,.int .i64 i,.int .i64 d] [] (.int .i64 (l.arc s i d)) []:=by
 have hb:=za3 hl
 refine Fn.enter (Tryz.func174) rfl rfl (fun w0 R=>?_)
 refine sA (xB 0 rfl (fun bk0=>(xai rfl (dB (xmi rfl (xf 1 zbl rfl (xli 0 zae rfl rfl (TL.callD [] [] za4 ⟨rfl,rfl,trivial⟩ trivial zbw rfl rfl rfl rfl rfl trivial (TL.casesP rfl (fun q1=>?_) (fun q1=>?_))))))))))
 refine xnt rfl (xmf rfl (xmi rfl (xL3 0 zaa rfl rfl (TL.callD [] [] (zb9 hl) ⟨rfl,trivial⟩ trivial zfn rfl rfl rfl rfl rfl trivial (TL.callD [] [] za4 ⟨rfl,rfl,trivial⟩ trivial zbw rfl rfl rfl rfl rfl trivial (TL.casesP rfl (fun q2=>?_) (fun q2=>?_)))))))
 refine xnt rfl (xpF rfl (xmf rfl (xmi rfl (TL.callD [] [] za4 ⟨rfl,rfl,trivial⟩ trivial zbw rfl rfl rfl rfl rfl trivial (TL.casesP rfl (fun q3=>?_) (fun q3=>?_))))))
 refine xnt rfl (xpF rfl (TL.done (TQ.then (TC.condF rfl (TC.skip (TQ.then (TC.seq (TC.draw [(0,true),(2,true),(3,true),(6,true),(7,true),(11,true),(12,true),(14,true),(1,false),(4,true),(5,true),(8,false),(9,true),(10,true),(13,true),(15,true),(16,true)] [0] fc_m (by kernel_rfl) ?_))))))))
 refine xL3 0 zaa rfl rfl (xf 0 zaz rfl (xli 0 zae rfl rfl (xmi rfl (xL3 0 zaa rfl rfl (xmi rfl (TL.mul _ rfl rfl (wr64 (by omega)) rfl rfl (xmi rfl (TL.callD [] [] (zb9 hl) ⟨rfl,trivial⟩ trivial zfn rfl rfl rfl rfl rfl (kL1 rfl trivial) ?_))))))))
 refine TL.mul _ rfl rfl (wr64 (by omega)) rfl rfl (TL.add _ rfl rfl (wr64 (by omega)) rfl rfl (TL.callD [] [] (ziC hl) ⟨rfl,trivial⟩ trivial zld rfl rfl rfl rfl rfl (kL1 rfl trivial) (TL.mul _ rfl rfl (wr64 (by have:=zc1 (a:=s) (A:=48) (b:=l.arcs) (B:=10) (by omega) (by omega) (by omega) (by omega); omega)) rfl rfl (TL.add _ rfl rfl (wr64 (by have:=zc1 (a:=s) (A:=48) (b:=l.arcs) (B:=10) (by omega) (by omega) (by omega) (by omega); omega)) rfl rfl (TL.add _ rfl rfl (wr64 (by have:=zc1 (a:=s) (A:=48) (b:=l.arcs) (B:=10) (by omega) (by omega) (by omega) (by omega); omega)) rfl rfl ?_)))))
 refine TL.add _ rfl rfl (wr64 (by have:=zc1 (a:=s) (A:=48) (b:=l.arcs) (B:=10) (by omega) (by omega) (by omega) (by omega); omega)) rfl rfl (xai rfl (dR ?_))
 refine FQ.ret1 (v:=(.int _ _)) (Bs:=[]) [] rfl rfl rfl trivial ?_
 first | exact ⟨iE (by unfold Lay.arc; rw [if_pos (by omega)]),rfl⟩ | exact ⟨iE (by unfold Lay.arc; rw [if_neg (by omega)]),rfl⟩
 refine xnf rfl (xpH rfl (dT rfl (xai rfl (dRR ?_))))
 refine FQ.ret1 (v:=(.int _ _)) (Bs:=[]) [] rfl rfl rfl trivial ?_
 first | exact ⟨iE (by unfold Lay.arc; rw [if_pos (by omega)]),rfl⟩ | exact ⟨iE (by unfold Lay.arc; rw [if_neg (by omega)]),rfl⟩
 refine xnf rfl (xpH rfl (xmt rfl (xo rfl (xo rfl (xo rfl (xpT rfl (dT rfl (xai rfl ?_))))))))
 refine dRR ?_
 refine FQ.ret1 (v:=(.int _ _)) (Bs:=[]) [] rfl rfl rfl trivial ?_
 first | exact ⟨iE (by unfold Lay.arc; rw [if_pos (by omega)]),rfl⟩ | exact ⟨iE (by unfold Lay.arc; rw [if_neg (by omega)]),rfl⟩
 refine xnf rfl (xmt rfl (xo rfl (xo rfl (xo rfl (xo rfl (xo rfl (xpT rfl (xmt rfl ?_))))))))
 refine xo rfl (xo rfl (xo rfl (xpT rfl (dT rfl (xai rfl (dRR ?_))))))
 refine FQ.ret1 (v:=(.int _ _)) (Bs:=[]) [] rfl rfl rfl trivial ?_
 first | exact ⟨iE (by unfold Lay.arc; rw [if_pos (by omega)]),rfl⟩ | exact ⟨iE (by unfold Lay.arc; rw [if_neg (by omega)]),rfl⟩
theorem zim {l:Lay} (hl:l.Ok)  : FnD Tryz.prog 122 [layV l] [] (.int .i64 l.free) []:=by
 have hb:=za3 hl
 refine Fn.enter (Tryz.func122) rfl rfl (fun w0 R=>?_)
 refine sA (xB 0 rfl (fun bk0=>(xai rfl (dA (xf 2 zdy rfl (xli 0 zae rfl rfl (xai rfl (dR ?_))))))))
 refine FQ.ret1 (v:=(.int _ _)) (Bs:=[]) [] rfl rfl rfl trivial ?_
 exact ⟨rfl,rfl⟩
theorem zm0 {l:Lay} (hl:l.Ok) {s f:Int} (hf:0≤f∧f≤8):FnD Tryz.prog 149 [layV l,.int .i64 s,.int .i64 f] [] (.int .i64 (l.of s f)) []:=by
 have hb:=za3 hl
 refine Fn.enter (Tryz.func149) rfl rfl (fun w0 R=>?_)
 refine sA (xB 0 rfl (fun bk0=>(xai rfl (dB (xmi rfl (xf 1 zbl rfl (xli 0 zae rfl rfl (TL.callD [] [] za4 ⟨rfl,rfl,trivial⟩ trivial zbw rfl rfl rfl rfl rfl trivial (TL.casesP rfl (fun q1=>?_) (fun q1=>?_))))))))))
 refine xnt rfl (dF rfl (xL3 0 zaa rfl rfl (TL.callD [] [] (zim hl) ⟨rfl,trivial⟩ trivial ziw rfl rfl rfl rfl rfl trivial (TL.add _ rfl rfl (wr64 (by omega)) rfl rfl (xmi rfl (TL.mul _ rfl rfl (wr64 (by omega)) rfl rfl (TL.add _ rfl rfl (wr64 (by omega)) rfl rfl (xmi rfl ?_))))))))
 refine TL.add _ rfl rfl (wr64 (by omega)) rfl rfl (xai rfl (dR ?_))
 refine FQ.ret1 (v:=(.int _ _)) (Bs:=[]) [] rfl rfl rfl trivial ?_
 first | exact ⟨iE (by unfold Lay.of Lay.free at *; rw [if_pos (by omega)]),rfl⟩ | exact ⟨iE (by unfold Lay.of Lay.free at *; rw [if_neg (by omega)]),rfl⟩
 refine xnf rfl (dT rfl (xai rfl (dRR ?_)))
 refine FQ.ret1 (v:=(.int _ _)) (Bs:=[]) [] rfl rfl rfl trivial ?_
 first | exact ⟨iE (by unfold Lay.of Lay.free at *; rw [if_pos (by omega)]),rfl⟩ | exact ⟨iE (by unfold Lay.of Lay.free at *; rw [if_neg (by omega)]),rfl⟩
theorem zoe {l:Lay} (hl:l.Ok) {s:Int}:FnD Tryz.prog 135 [layV l,.int .i64 s] [] (.int .i64 (l.ends s)) []:=by
 have hb:=za3 hl
 refine Fn.enter (Tryz.func135) rfl rfl (fun w0 R=>?_)
 refine sA (xB 0 rfl (fun bk0=>(xai rfl (dA (xL3 0 zaa rfl rfl (xmi rfl (TL.callD [] [] (zm0 hl (by omega)) ⟨rfl,rfl,rfl,trivial⟩ trivial zg6 rfl rfl rfl rfl rfl trivial (xai rfl (dR ?_)))))))))
 refine FQ.ret1 (v:=(.int _ _)) (Bs:=[]) [] rfl rfl rfl trivial ?_
 exact ⟨rfl,rfl⟩
theorem zk3 {l:Lay} (hl:l.Ok) {s:Int}:FnD Tryz.prog 136 [layV l,.int .i64 s] [] (.int .i64 (l.level s)) []:=by
 have hb:=za3 hl
 refine Fn.enter (Tryz.func136) rfl rfl (fun w0 R=>?_)
 refine sA (xB 0 rfl (fun bk0=>(xai rfl (dA (xL3 0 zaa rfl rfl (xmi rfl (TL.callD [] [] (zm0 hl (by omega)) ⟨rfl,rfl,rfl,trivial⟩ trivial zg6 rfl rfl rfl rfl rfl trivial (xai rfl (dR ?_)))))))))
 refine FQ.ret1 (v:=(.int _ _)) (Bs:=[]) [] rfl rfl rfl trivial ?_
 exact ⟨rfl,rfl⟩
theorem zrn {l:Lay} (hl:l.Ok) {s d:Int}:FnD Tryz.prog 182 [layV l,.int .i64 s,.int .i64 d] [] (.int .i64 (l.next s d)) []:=by
 have hb:=za3 hl
 refine Fn.enter (Tryz.func182) rfl rfl (fun w0 R=>?_)
 refine sA (xB 0 rfl (fun bk0=>(xai rfl (dB (xmi rfl (TL.callD [] [] za4 ⟨rfl,rfl,trivial⟩ trivial zbw rfl rfl rfl rfl rfl trivial (TL.casesP rfl (fun q1=>?_) (fun q1=>?_))))))))
 refine xnt rfl (dF rfl (xL3 0 zaa rfl rfl (xmi rfl (xmi rfl (TL.add _ rfl rfl (wr64 (by omega)) rfl rfl (TL.callD [] [] (zm0 hl (by omega)) ⟨rfl,rfl,rfl,trivial⟩ trivial zg6 rfl rfl rfl rfl rfl trivial (xai rfl (dR ?_))))))))
 refine FQ.ret1 (v:=(.int _ _)) (Bs:=[]) [] rfl rfl rfl trivial ?_
 first | exact ⟨iE (by unfold Lay.next; rw [if_pos (by omega)]),rfl⟩ | exact ⟨iE (by unfold Lay.next; rw [if_neg (by omega)]),rfl⟩
 refine xnf rfl (dT rfl (xai rfl (dRR ?_)))
 refine FQ.ret1 (v:=(.int _ _)) (Bs:=[]) [] rfl rfl rfl trivial ?_
 first | exact ⟨iE (by unfold Lay.next; rw [if_pos (by omega)]),rfl⟩ | exact ⟨iE (by unfold Lay.next; rw [if_neg (by omega)]),rfl⟩
theorem zra {l:Lay} (hl:l.Ok) {s d:Int}:FnD Tryz.prog 183 [layV l,.int .i64 s,.int .i64 d] [] (.int .i64 (l.prev s d)) []:=by
 have hb:=za3 hl
 refine Fn.enter (Tryz.func183) rfl rfl (fun w0 R=>?_)
 refine sA (xB 0 rfl (fun bk0=>(xai rfl (dB (xmi rfl (TL.callD [] [] za4 ⟨rfl,rfl,trivial⟩ trivial zbw rfl rfl rfl rfl rfl trivial (TL.casesP rfl (fun q1=>?_) (fun q1=>?_))))))))
 refine xnt rfl (dF rfl (xL3 0 zaa rfl rfl (xmi rfl (xmi rfl (TL.add _ rfl rfl (wr64 (by omega)) rfl rfl (TL.callD [] [] (zm0 hl (by omega)) ⟨rfl,rfl,rfl,trivial⟩ trivial zg6 rfl rfl rfl rfl rfl trivial (xai rfl (dR ?_))))))))
 refine FQ.ret1 (v:=(.int _ _)) (Bs:=[]) [] rfl rfl rfl trivial ?_
 first | exact ⟨iE (by unfold Lay.prev; rw [if_pos (by omega)]),rfl⟩ | exact ⟨iE (by unfold Lay.prev; rw [if_neg (by omega)]),rfl⟩
 refine xnf rfl (dT rfl (xai rfl (dRR ?_)))
 refine FQ.ret1 (v:=(.int _ _)) (Bs:=[]) [] rfl rfl rfl trivial ?_
 first | exact ⟨iE (by unfold Lay.prev; rw [if_pos (by omega)]),rfl⟩ | exact ⟨iE (by unfold Lay.prev; rw [if_neg (by omega)]),rfl⟩
theorem zk5 {l:Lay} (hl:l.Ok)  : FnD Tryz.prog 148 [layV l] [] (.int .i64 l.heads) []:=by
 have hb:=za3 hl
 refine Fn.enter (Tryz.func148) rfl rfl (fun w0 R=>?_)
 refine sA (xB 0 rfl (fun bk0=>(xai rfl (dS (TC.draw [(0,true),(3,true),(4,true),(5,true),(1,false),(2,true),(6,true),(7,true)] [0] fc_m (by kernel_rfl) (xL3 0 zaa rfl rfl (xf 1 zbl rfl (xli 0 zae rfl rfl (TL.mul _ rfl rfl (wr64 (by omega)) rfl rfl ?_)))))))))
 refine TL.callD [] [] (zim hl) ⟨rfl,trivial⟩ trivial ziw rfl rfl rfl rfl rfl (kL1 rfl trivial) (TL.add _ rfl rfl (wr64 (by omega)) rfl rfl (TL.add _ rfl rfl (wr64 (by omega)) rfl rfl (xai rfl (dR ?_))))
 refine FQ.ret1 (v:=(.int _ _)) (Bs:=[]) [] rfl rfl rfl trivial ?_
 exact ⟨rfl,rfl⟩
theorem znj {l:Lay} (hl:l.Ok) {v i:Int}:FnD Tryz.prog 164 [layV l,.int .i64 v,.int .i64 i] [] (.int .i64 (l.head v i)) []:=by
 have hb:=za3 hl
 refine Fn.enter (Tryz.func164) rfl rfl (fun w0 R=>?_)
 refine sA (xB 0 rfl (fun bk0=>(xai rfl (dB (xmi rfl (xf 0 zaz rfl (xli 0 zae rfl rfl (TL.callD [] [] za4 ⟨rfl,rfl,trivial⟩ trivial zbw rfl rfl rfl rfl rfl trivial (TL.casesP rfl (fun q1=>?_) (fun q1=>?_))))))))))
 refine xnt rfl (xmf rfl (xmi rfl (xL3 0 zaa rfl rfl (TL.callD [] [] (zb9 hl) ⟨rfl,trivial⟩ trivial zfn rfl rfl rfl rfl rfl trivial (TL.callD [] [] za4 ⟨rfl,rfl,trivial⟩ trivial zbw rfl rfl rfl rfl rfl trivial (TL.casesP rfl (fun q2=>?_) (fun q2=>?_)))))))
 refine xnt rfl (xpF rfl (TL.done (TQ.then (TC.condF rfl (TC.skip (TQ.then (TC.seq (TC.draw [(0,true),(2,true),(3,true),(7,true),(1,false),(4,false),(5,true),(6,true),(8,true),(9,true)] [0] fc_m (by kernel_rfl) ?_))))))))
 refine xL3 0 zaa rfl rfl (xmi rfl (xL3 0 zaa rfl rfl (xmi rfl (TL.callD [] [] (zk5 hl) ⟨rfl,trivial⟩ trivial znW rfl rfl rfl rfl rfl (kL1 rfl trivial) (TL.callD [] [] (zb9 hl) ⟨rfl,trivial⟩ trivial zfn rfl rfl rfl rfl rfl (kL1 rfl trivial) (TL.mul _ rfl rfl (wr64 (by have:=zc1 (a:=v) (A:=16) (b:=l.lev) (B:=5) (by omega) (by omega) (by omega) (by omega); omega)) rfl rfl (TL.add _ rfl rfl (wr64 (by have:=zc1 (a:=v) (A:=16) (b:=l.lev) (B:=5) (by omega) (by omega) (by omega) (by omega); omega)) rfl rfl (TL.add _ rfl rfl (wr64 (by have:=zc1 (a:=v) (A:=16) (b:=l.lev) (B:=5) (by omega) (by omega) (by omega) (by omega); omega)) rfl rfl ?_))))))))
 refine xai rfl (dR ?_)
 refine FQ.ret1 (v:=(.int _ _)) (Bs:=[]) [] rfl rfl rfl trivial ?_
 first | exact ⟨iE (by unfold Lay.head; rw [if_pos (by omega)]),rfl⟩ | exact ⟨iE (by unfold Lay.head; rw [if_neg (by omega)]),rfl⟩
 refine xnf rfl (xpH rfl (dT rfl (xai rfl (dRR ?_))))
 refine FQ.ret1 (v:=(.int _ _)) (Bs:=[]) [] rfl rfl rfl trivial ?_
 first | exact ⟨iE (by unfold Lay.head; rw [if_pos (by omega)]),rfl⟩ | exact ⟨iE (by unfold Lay.head; rw [if_neg (by omega)]),rfl⟩
 refine xnf rfl (xmt rfl (xo rfl (xo rfl (xo rfl (xo rfl (xo rfl (xpT rfl (dT rfl ?_))))))))
 refine xai rfl (dRR ?_)
 refine FQ.ret1 (v:=(.int _ _)) (Bs:=[]) [] rfl rfl rfl trivial ?_
 first | exact ⟨iE (by unfold Lay.head; rw [if_pos (by omega)]),rfl⟩ | exact ⟨iE (by unfold Lay.head; rw [if_neg (by omega)]),rfl⟩
theorem zlk {l:Lay} (hl:l.Ok)  : FnD Tryz.prog 120 [layV l] [] (.int .i64 l.edges) []:=by
 have hb:=za3 hl
 refine Fn.enter (Tryz.func120) rfl rfl (fun w0 R=>?_)
 refine sA (xB 0 rfl (fun bk0=>(xai rfl (dS (TC.draw [(0,true),(2,true),(3,true),(4,true),(1,false),(5,false),(6,true),(7,true),(8,true)] [0] fc_m (by kernel_rfl) (xL3 0 zaa rfl rfl (xf 0 zaz rfl (xli 0 zae rfl rfl (xL3 0 zaa rfl rfl ?_)))))))))
 refine TL.callD [] [] (zk5 hl) ⟨rfl,trivial⟩ trivial znW rfl rfl rfl rfl rfl (kL1 rfl trivial) (TL.callD [] [] (zb9 hl) ⟨rfl,trivial⟩ trivial zfn rfl rfl rfl rfl rfl (kL1 rfl trivial) (TL.mul _ rfl rfl (wr64 (by omega)) rfl rfl (TL.add _ rfl rfl (wr64 (by omega)) rfl rfl (xai rfl (dR ?_)))))
 refine FQ.ret1 (v:=(.int _ _)) (Bs:=[]) [] rfl rfl rfl trivial ?_
 exact ⟨rfl,rfl⟩
theorem zkq {l:Lay} (hl:l.Ok) {a b:Int}:FnD Tryz.prog 109 [layV l,.int .i64 a,.int .i64 b] [] (.int .i64 (l.edge a b)) []:=by
 have hb:=za3 hl
 refine Fn.enter (Tryz.func109) rfl rfl (fun w0 R=>?_)
 refine sA (xB 0 rfl (fun bk0=>(xai rfl (dA (xmi rfl (xmi rfl (TL.min2 rfl rfl rfl rfl (xmi rfl (xmi rfl ?_)))))))))
 refine TL.max2 rfl rfl rfl rfl (xai rfl (xai rfl (dB (xmi rfl (xmi rfl (TL.eql rfl rfl rfl rfl (fun q1=>?_) (fun q1=>?_)))))))
 refine xmt rfl (xo rfl (xo rfl (xo rfl (xo rfl (xo rfl (xpT rfl (xmt rfl (xo rfl ?_))))))))
 refine xo rfl (xo rfl (xo rfl (xo rfl (xpT rfl (dT rfl (xai rfl (dRR ?_)))))))
 refine FQ.ret1 (v:=(.int _ _)) (Bs:=[]) [] rfl rfl rfl trivial ?_
 first | exact ⟨iE (by unfold Lay.edge; rw [if_neg (by omega)]),rfl⟩ | exact ⟨iE (by unfold Lay.edge; rw [if_pos (by omega)]),rfl⟩
 refine xmf rfl (xmi rfl (xf 0 zaz rfl (xli 0 zae rfl rfl (TL.callD [] [] za4 ⟨rfl,rfl,trivial⟩ trivial zbw rfl rfl rfl rfl rfl trivial (TL.casesP rfl (fun q2=>?_) (fun q2=>?_))))))
 refine xnt rfl (xpF rfl (xmf rfl (xmi rfl (xf 0 zaz rfl (xli 0 zae rfl rfl (TL.callD [] [] za4 ⟨rfl,rfl,trivial⟩ trivial zbw rfl rfl rfl rfl rfl trivial (TL.casesP rfl (fun q3=>?_) (fun q3=>?_))))))))
 refine xnt rfl (xpF rfl (TL.done (TQ.then (TC.condF rfl (TC.skip (TQ.then (TC.seq (TC.draw [(0,true),(2,true),(3,true),(4,true),(5,true),(6,true),(7,true),(8,true),(9,true),(10,true),(12,true),(14,true),(1,false),(11,true),(13,true),(15,true),(16,true),(17,true)] [0] fc_m (by kernel_rfl) ?_))))))))
 refine xL3 0 zaa rfl rfl (xmi rfl (xf 0 zaz rfl (xli 0 zae rfl rfl (TL.mul _ rfl rfl (wr64 (by omega)) rfl rfl (xmi rfl (TL.sub _ rfl rfl (wr64 (by omega)) rfl rfl (TL.sub _ rfl rfl (wr64 (by omega)) rfl rfl (TL.mul _ rfl rfl (wr64 (by have h9:=zeU (x:=min a b) (V:=(l.V:Int)) (by omega) (by omega) (by omega); omega)) rfl rfl ?_))))))))
 refine TL.quo _ rfl rfl (by omega) (zmI (by have h9:=zeU (x:=min a b) (V:=(l.V:Int)) (by omega) (by omega) (by omega); omega) (by omega) (by have h9:=zeU (x:=min a b) (V:=(l.V:Int)) (by omega) (by omega) (by omega); omega)) rfl rfl (xmi rfl (xmi rfl (TL.callD [] [] (zlk hl) ⟨rfl,trivial⟩ trivial zn7 rfl rfl rfl rfl rfl (kL1 rfl trivial) (TL.add _ rfl rfl (wr64 (by have h9:=zeU (x:=min a b) (V:=(l.V:Int)) (by omega) (by omega) (by omega); omega)) rfl rfl (TL.add _ rfl rfl (wr64 (by have h9:=zeU (x:=min a b) (V:=(l.V:Int)) (by omega) (by omega) (by omega); omega)) rfl rfl ?_)))))
 refine TL.sub _ rfl rfl (wr64 (by have h9:=zeU (x:=min a b) (V:=(l.V:Int)) (by omega) (by omega) (by omega); omega)) rfl rfl (TL.sub _ rfl rfl (wr64 (by have h9:=zeU (x:=min a b) (V:=(l.V:Int)) (by omega) (by omega) (by omega); omega)) rfl rfl (xai rfl (dR ?_)))
 refine FQ.ret1 (v:=(.int _ _)) (Bs:=[]) [] rfl rfl rfl trivial ?_
 first | exact ⟨iE (by unfold Lay.edge; rw [if_neg (by omega)]),rfl⟩ | exact ⟨iE (by unfold Lay.edge; rw [if_pos (by omega)]),rfl⟩
 refine xnf rfl (xpH rfl (dT rfl (xai rfl (dRR ?_))))
 refine FQ.ret1 (v:=(.int _ _)) (Bs:=[]) [] rfl rfl rfl trivial ?_
 first | exact ⟨iE (by unfold Lay.edge; rw [if_neg (by omega)]),rfl⟩ | exact ⟨iE (by unfold Lay.edge; rw [if_pos (by omega)]),rfl⟩
 refine xnf rfl (xpH rfl (xmt rfl (xo rfl (xo rfl (xo rfl (xo rfl (xo rfl (xpT rfl ?_))))))))
 refine dT rfl (xai rfl (dRR ?_))
 refine FQ.ret1 (v:=(.int _ _)) (Bs:=[]) [] rfl rfl rfl trivial ?_
 first | exact ⟨iE (by unfold Lay.edge; rw [if_neg (by omega)]),rfl⟩ | exact ⟨iE (by unfold Lay.edge; rw [if_pos (by omega)]),rfl⟩
theorem zoE {l:Lay} (hl:l.Ok)  : FnD Tryz.prog 88 [layV l] [] (.int .i64 l.base) []:=by
 have hb:=za3 hl
 refine Fn.enter (Tryz.func88) rfl rfl (fun w0 R=>?_)
 refine sA (xB 0 rfl (fun bk0=>(xai rfl (dS (TC.draw [(0,true),(2,true),(3,true),(4,true),(5,true),(6,true),(7,true),(8,true),(1,false),(9,true),(10,true)] [0] fc_m (by kernel_rfl) (xL3 0 zaa rfl rfl (xf 0 zaz rfl (xli 0 zae rfl rfl (xf 0 zaz rfl ?_)))))))))
 refine xli 0 zae rfl rfl (TL.sub _ rfl rfl (wr64 (by omega)) rfl rfl (TL.mul _ rfl rfl (wr64 (by omega)) rfl rfl (TL.quo _ rfl rfl (by omega) (zmI (by omega) (by omega) (by omega)) rfl rfl (TL.callD [] [] (zlk hl) ⟨rfl,trivial⟩ trivial zn7 rfl rfl rfl rfl rfl (kL1 rfl trivial) (TL.add _ rfl rfl (wr64 (by omega)) rfl rfl (xai rfl (dR ?_)))))))
 refine FQ.ret1 (v:=(.int _ _)) (Bs:=[]) [] rfl rfl rfl trivial ?_
 exact ⟨rfl,rfl⟩
theorem zaE {l:Lay} (hl:l.Ok) {x f:Int}:FnD Tryz.prog 54 [layV l,.int .i64 x,.int .i64 f] [] (.int .i64 (l.field x f)) []:=by
 have hb:=za3 hl
 refine Fn.enter (Tryz.func54) rfl rfl (fun w0 R=>?_)
 refine sA (xB 0 rfl (fun bk0=>(xai rfl (dB (xmi rfl (TL.sub _ rfl rfl (rfl) rfl rfl (xL3 0 zaa rfl rfl (TL.callD [] [] (zdH hl) ⟨rfl,trivial⟩ trivial zg3 rfl rfl rfl rfl rfl trivial (TL.callD [] [] za4 ⟨rfl,rfl,trivial⟩ trivial zbw rfl rfl rfl rfl rfl trivial ?_)))))))))
 refine TL.casesP rfl (fun q1=>?_) (fun q1=>?_)
 refine xnt rfl (xmf rfl (xmi rfl (TL.callD [] [] za4 ⟨rfl,rfl,trivial⟩ trivial zbw rfl rfl rfl rfl rfl trivial (TL.casesP rfl (fun q2=>?_) (fun q2=>?_)))))
 refine xnt rfl (xpF rfl (dF rfl (xL3 0 zaa rfl rfl (TL.callD [] [] (zoE hl) ⟨rfl,trivial⟩ trivial zqg rfl rfl rfl rfl rfl trivial (xmi rfl (TL.sub _ rfl rfl (rfl) rfl rfl (TL.mul _ rfl rfl (wr64 (by omega)) rfl rfl (TL.add _ rfl rfl (wr64 (by omega)) rfl rfl ?_))))))))
 refine xmi rfl (TL.add _ rfl rfl (wr64 (by omega)) rfl rfl (xai rfl (dR ?_)))
 refine FQ.ret1 (v:=(.int _ _)) (Bs:=[]) [] rfl rfl rfl trivial ?_
 first | exact ⟨iE (by unfold Lay.field; rw [if_pos (by omega)]),rfl⟩ | exact ⟨iE (by unfold Lay.field; rw [if_neg (by omega)]),rfl⟩
 refine xnf rfl (xpH rfl (dT rfl (xai rfl (dRR ?_))))
 refine FQ.ret1 (v:=(.int _ _)) (Bs:=[]) [] rfl rfl rfl trivial ?_
 first | exact ⟨iE (by unfold Lay.field; rw [if_pos (by omega)]),rfl⟩ | exact ⟨iE (by unfold Lay.field; rw [if_neg (by omega)]),rfl⟩
 refine xnf rfl (xmt rfl (xo rfl (xo rfl (xo rfl (xpT rfl (dT rfl (xai rfl (dRR ?_))))))))
 refine FQ.ret1 (v:=(.int _ _)) (Bs:=[]) [] rfl rfl rfl trivial ?_
 first | exact ⟨iE (by unfold Lay.field; rw [if_pos (by omega)]),rfl⟩ | exact ⟨iE (by unfold Lay.field; rw [if_neg (by omega)]),rfl⟩
theorem zpI {l:Lay} (hl:l.Ok)  : FnD Tryz.prog 30 [layV l] [] (.int .i64 l.cells) []:=by
 have hb:=za3 hl
 refine Fn.enter (Tryz.func30) rfl rfl (fun w0 R=>?_)
 refine sA (xB 0 rfl (fun bk0=>(xai rfl (dS (TC.draw [(0,true),(2,true),(1,false),(3,false),(4,true),(5,true),(6,true)] [0] fc_m (by kernel_rfl) (xL3 0 zaa rfl rfl (xL3 0 zaa rfl rfl (TL.callD [] [] (zoE hl) ⟨rfl,trivial⟩ trivial zqg rfl rfl rfl rfl rfl (kL1 rfl trivial) (TL.callD [] [] (zdH hl) ⟨rfl,trivial⟩ trivial zg3 rfl rfl rfl rfl rfl (kL1 rfl trivial) ?_)))))))))
 refine TL.mul _ rfl rfl (wr64 (by omega)) rfl rfl (TL.add _ rfl rfl (wr64 (by omega)) rfl rfl (xai rfl (dR ?_)))
 refine FQ.ret1 (v:=(.int _ _)) (Bs:=[]) [] rfl rfl rfl trivial ?_
 exact ⟨rfl,rfl⟩
theorem zid {l:Lay} (hl:l.Ok) {x:Int}:FnD Tryz.prog 47 [layV l,.int .i64 x] [] (.tuple #[zsB (l.node x).1,.bool (l.node x).2]) []:=by
 have hb:=za3 hl
 refine Fn.enter (Tryz.func47) rfl rfl (fun w0 R=>?_)
 refine sA (xB 0 rfl (fun bk0=>(TL.alloc 1 (cs:=#[.bool false,.int .i64 0,.int .i64 0,.int .i64 0,.int .i64 0]) zf2 rfl rfl rfl (fun _=>trivial) (fun bk1=>(xaf rfl (dB (xmi rfl (TL.sub _ rfl rfl (rfl) rfl rfl (xL3 0 zaa rfl rfl (TL.callD [] [] (zdH hl) ⟨rfl,trivial⟩ trivial zg3 rfl rfl rfl rfl rfl trivial ?_))))))))))
 refine TL.callD [] [] za4 ⟨rfl,rfl,trivial⟩ trivial zbw rfl rfl rfl rfl rfl trivial (TL.casesP rfl (fun q1=>?_) (fun q1=>?_))
 refine xnt rfl (dF rfl (xmi rfl (TL.sub _ rfl rfl (rfl) rfl rfl (xai rfl (dS (TC.draw [(0,true),(2,true),(3,true),(1,false),(4,true),(5,true)] [0] fc_m (by kernel_rfl) (xL3 0 zaa rfl rfl (xf 0 zaz rfl ?_))))))))
 refine xli 0 zae rfl rfl (TL.callD [] [] (zb9 hl) ⟨rfl,trivial⟩ trivial zfn rfl rfl rfl rfl rfl (kL1 rfl trivial) (TL.mul _ rfl rfl (wr64 (by omega)) rfl rfl (xai rfl (dB (xmi rfl (xmi rfl (TL.lss rfl rfl rfl rfl (fun q2=>?_) (fun q2=>?_))))))))
 refine TL.done (TQ.then (TC.condT rfl (TC.seq (TC.draw [(0,true),(1,true),(2,true),(3,true),(4,true),(5,true),(6,true),(7,true),(8,true),(9,false),(10,true)] [0] fc_m (by kernel_rfl) (xmi rfl (xf 0 zaz rfl (xli 0 zae rfl rfl (TL.quo _ rfl rfl (by omega) (zmI (by omega) (by omega) (by omega)) rfl rfl ?_))))))))
 refine xmi rfl (xf 0 zaz rfl (xli 0 zae rfl rfl (TL.rem _ rfl rfl (by omega) (zq5 (by omega)) rfl rfl (TL.bld [.bool false,.int .i64 0,.int .i64 0,.int .i64 0,.int .i64 0] [(.int _ _),(.int _ _)] [_,_,_,_,_] zf2 znD ⟨rfl,rfl,trivial⟩ ⟨rfl,rfl⟩ rfl rfl (TL.stW 1 5 [_,_,_,_,_] rfl rfl rfl rfl rfl rfl zcp rfl rfl (kL1 rfl trivial) (xat rfl (dRR ?_)))))))
 refine FQ.retG (rs:=[.cell 4 94,.tmp 5]) [(.agg _),(.bool true)] (Bs:=[]) [] rfl ⟨⟨_,_,_,_,_,1,rfl,rfl,.inr ⟨5,[_,_,_,_,_],zcp,rfl,rfl⟩⟩,rfl,trivial⟩ rfl rfl trivial ?_
 first | exact ⟨by unfold Lay.node; simp only []; rw [if_neg (by omega)]; rfl,rfl⟩ | exact ⟨by unfold Lay.node; simp only []; rw [if_pos (by omega),if_pos (by omega)]; rfl,rfl⟩ | exact ⟨by unfold Lay.node; simp only []; rw [if_pos (by omega),if_neg (by omega)]; rfl,rfl⟩
 refine dF rfl (xmi rfl (xmi rfl (TL.sub _ rfl rfl (wr64 (by omega)) rfl rfl (xai rfl (dS (TC.draw [(0,true),(1,true),(4,true),(5,true),(9,true),(10,true),(2,false),(3,true),(6,false),(7,true),(8,true),(11,true),(12,false),(13,true)] [0] fc_m (by kernel_rfl) (xmi rfl (xL3 0 zaa rfl rfl ?_))))))))
 refine xmi rfl (xL3 0 zaa rfl rfl (xmi rfl (TL.rem _ rfl rfl (by omega) (zq5 (by omega)) rfl rfl (TL.callD [] [] (ziC hl) ⟨rfl,trivial⟩ trivial zld rfl rfl rfl rfl rfl (kL1 rfl trivial) (TL.quo _ rfl rfl (by omega) (zmI (by omega) (by omega) (by omega)) rfl rfl (TL.callD [] [] (ziC hl) ⟨rfl,trivial⟩ trivial zld rfl rfl rfl rfl rfl (kL1 rfl trivial) (TL.rem _ rfl rfl (by omega) (zq5 (by omega)) rfl rfl (TL.quo _ rfl rfl (by omega) (zmI (Int.emod_nonneg _ (by omega)) (by omega) (by have:=Int.emod_lt_of_pos (IntKind.i64.wrap (x - 1) - l.lev * l.V) (b:=l.arcs) (by omega); omega)) rfl rfl ?_))))))))
 refine TL.bld [.bool false,.int .i64 0,.int .i64 0,.int .i64 0,.int .i64 0] [(.bool true),(.int _ _),(.int _ _),(.int _ _)] [_,_,_,_,_] zf2 znD ⟨rfl,rfl,rfl,rfl,trivial⟩ ⟨rfl,rfl⟩ rfl rfl (TL.stW 1 5 [_,_,_,_,_] rfl rfl rfl rfl rfl rfl zcp rfl rfl (kL1 rfl trivial) (xat rfl (dR ?_)))
 refine FQ.retG (rs:=[.cell 4 94,.tmp 5]) [(.agg _),(.bool true)] (Bs:=[]) [] rfl ⟨⟨_,_,_,_,_,1,rfl,rfl,.inr ⟨5,[_,_,_,_,_],zcp,rfl,rfl⟩⟩,rfl,trivial⟩ rfl rfl trivial ?_
 first | exact ⟨by unfold Lay.node; simp only []; rw [if_neg (by omega)]; rfl,rfl⟩ | exact ⟨by unfold Lay.node; simp only []; rw [if_pos (by omega),if_pos (by omega)]; rfl,rfl⟩ | exact ⟨by unfold Lay.node; simp only []; rw [if_pos (by omega),if_neg (by omega)]; rfl,rfl⟩
 refine xnf rfl (dT rfl (TL.bld [.bool false,.int .i64 0,.int .i64 0,.int .i64 0,.int .i64 0] [] [_,_,_,_,_] zf2 znD trivial ⟨rfl,rfl⟩ rfl rfl (TL.stW 1 5 [_,_,_,_,_] rfl rfl rfl rfl rfl rfl zcp rfl rfl trivial (xaf rfl (dRR ?_)))))
 refine FQ.retG (rs:=[.cell 4 94,.tmp 5]) [(.agg _),(.bool false)] (Bs:=[]) [] rfl ⟨⟨_,_,_,_,_,1,rfl,rfl,.inr ⟨5,[_,_,_,_,_],zcp,rfl,rfl⟩⟩,rfl,trivial⟩ rfl rfl trivial ?_
 first | exact ⟨by unfold Lay.node; simp only []; rw [if_neg (by omega)]; rfl,rfl⟩ | exact ⟨by unfold Lay.node; simp only []; rw [if_pos (by omega),if_pos (by omega)]; rfl,rfl⟩ | exact ⟨by unfold Lay.node; simp only []; rw [if_pos (by omega),if_neg (by omega)]; rfl,rfl⟩
theorem zdn {n m:Int}:FnD Tryz.prog 163 [.int .i64 n,.int .i64 m] [] (.bool (decide (0≤n∧n≤m))) []:=by
 refine Fn.enter (Tryz.func163) rfl rfl (fun w0 R=>?_)
 refine sA (xaf rfl (dA (xmi rfl (TL.geq rfl rfl rfl rfl (fun q1=>?_) (fun q1=>?_)))))
 refine xmt rfl (xmi rfl (xmi rfl (TL.leqV rfl rfl rfl rfl (TL.pickT (.bool _) rfl rfl rfl rfl (xab rfl (dR ?_))))))
 refine FQ.ret1 (v:=(.bool _)) (Bs:=[]) [] rfl rfl rfl trivial ?_
 first | exact ⟨bT (by omega),rfl⟩ | exact ⟨bF (by omega),rfl⟩ | exact ⟨congrArg Value.bool (decide_eq_decide.2 (by omega)),rfl⟩
 refine xmf rfl (xo rfl (xo rfl (xo rfl (xpF rfl (xaf rfl (dR ?_))))))
 refine FQ.ret1 (v:=(.bool false)) (Bs:=[]) [] rfl rfl rfl trivial ?_
 first | exact ⟨bT (by omega),rfl⟩ | exact ⟨bF (by omega),rfl⟩ | exact ⟨congrArg Value.bool (decide_eq_decide.2 (by omega)),rfl⟩
theorem zgF {o m t g:Int}:FnD Tryz.prog 132 [.agg #[.int .i64 o,.int .i64 m,.int .i64 t,.int .i64 g]] [] (.bool (decide (t=0))) []:=by
 refine Fn.enter (Tryz.func132) rfl rfl (fun w0 R=>?_)
 refine sA (xB 0 rfl (fun bk0=>(xaf rfl (dA (xf 2 zc5 rfl (xli 0 zae rfl rfl (TL.eqlV rfl rfl rfl rfl (xab rfl (dR ?_)))))))))
 refine FQ.ret1 (v:=(.bool _)) (Bs:=[]) [] rfl rfl rfl trivial ?_
 exact ⟨rfl,rfl⟩
theorem ziF {o m t g:Int}:FnD Tryz.prog 162 [.agg #[.int .i64 o,.int .i64 m,.int .i64 t,.int .i64 g]] [] (.bool (⟨o,m,t,g⟩:Wd).right) []:=by
 refine Fn.enter (Tryz.func162) rfl rfl (fun w0 R=>?_)
 refine sA (xB 0 rfl (fun bk0=>(xaf rfl (dB (xf 0 zbf rfl (xli 0 zae rfl rfl (TL.callD [] [] zdn ⟨rfl,rfl,trivial⟩ trivial zfN rfl rfl rfl rfl rfl trivial (TL.casesP rfl (fun q1=>?_) (fun q1=>?_)))))))))
 refine xnt rfl (xmf rfl (xf 1 za0 rfl (xli 0 zae rfl rfl (TL.callD [] [] zdn ⟨rfl,rfl,trivial⟩ trivial zfN rfl rfl rfl rfl rfl trivial (TL.casesP rfl (fun q2=>?_) (fun q2=>?_))))))
 refine xnt rfl (xpF rfl (xmf rfl (xf 2 zc5 rfl (xli 0 zae rfl rfl (TL.callD [] [] zdn ⟨rfl,rfl,trivial⟩ trivial zfN rfl rfl rfl rfl rfl trivial (TL.casesP rfl (fun q3=>?_) (fun q3=>?_)))))))
 refine xnt rfl (xpF rfl (xmf rfl (xf 3 zcj rfl (xli 0 zae rfl rfl (TL.callD [] [] zdn ⟨rfl,rfl,trivial⟩ trivial zfN rfl rfl rfl rfl rfl trivial (TL.casesP rfl (fun q4=>?_) (fun q4=>?_)))))))
 refine xnt rfl (xpF rfl (dF rfl (xL4 0 zan rfl rfl (TL.callD [] [] zgF ⟨rfl,trivial⟩ trivial zko rfl rfl rfl rfl rfl trivial (TL.casesP rfl (fun q5=>?_) (fun q5=>?_))))))
 refine xnt rfl (xmf rfl (xf 0 zbf rfl (xli 0 zae rfl rfl (xf 1 za0 rfl (xli 0 zae rfl rfl (TL.eql rfl rfl rfl rfl (fun q6=>?_) (fun q6=>?_)))))))
 refine xmt rfl (xf 3 zcj rfl (xli 0 zae rfl rfl (TL.eqlV rfl rfl rfl rfl (TL.pickT (.bool _) rfl rfl rfl rfl (TL.pickF (.bool _) rfl rfl rfl rfl (xab rfl (dR ?_)))))))
 refine FQ.ret1 (v:=(.bool _)) (Bs:=[]) [] rfl rfl rfl trivial ?_
 exact ⟨congrArg Value.bool (by simp [Wd.right, *]),rfl⟩
 refine xmf rfl (xo rfl (xo rfl (xo rfl (xpF rfl (xpF rfl (xaf rfl (dR ?_)))))))
 refine FQ.ret1 (v:=(.bool false)) (Bs:=[]) [] rfl rfl rfl trivial ?_
 exact ⟨congrArg Value.bool (by simp [Wd.right, *]),rfl⟩
 refine xnf rfl (xmt rfl (xo rfl (xo rfl (xo rfl (xo rfl (xo rfl (xo rfl (xo rfl ?_))))))))
 refine xo rfl (xo rfl (xo rfl (xpT rfl (xat rfl (dR ?_)))))
 refine FQ.ret1 (v:=(.bool true)) (Bs:=[]) [] rfl rfl rfl trivial ?_
 exact ⟨congrArg Value.bool (by simp [Wd.right, *]),rfl⟩
 refine xnf rfl (xpH rfl (dT rfl (xaf rfl (dRR ?_))))
 refine FQ.ret1 (v:=(.bool false)) (Bs:=[]) [] rfl rfl rfl trivial ?_
 exact ⟨congrArg Value.bool (by simp [Wd.right, *]),rfl⟩
 refine xnf rfl (xpH rfl (xmt rfl (xo rfl (xo rfl (xo rfl (xo rfl (xpT rfl (dT rfl ?_))))))))
 refine xaf rfl (dRR ?_)
 refine FQ.ret1 (v:=(.bool false)) (Bs:=[]) [] rfl rfl rfl trivial ?_
 exact ⟨congrArg Value.bool (by simp [Wd.right, *]),rfl⟩
 refine xnf rfl (xpH rfl (xmt rfl (xo rfl (xo rfl (xo rfl (xo rfl (xpT rfl (xmt rfl ?_))))))))
 refine xo rfl (xo rfl (xo rfl (xo rfl (xpT rfl (dT rfl (xaf rfl (dRR ?_)))))))
 refine FQ.ret1 (v:=(.bool false)) (Bs:=[]) [] rfl rfl rfl trivial ?_
 exact ⟨congrArg Value.bool (by simp [Wd.right, *]),rfl⟩
 refine xnf rfl (xmt rfl (xo rfl (xo rfl (xo rfl (xo rfl (xpT rfl (xmt rfl (xo rfl ?_))))))))
 refine xo rfl (xo rfl (xo rfl (xpT rfl (xmt rfl (xo rfl (xo rfl (xo rfl (xo rfl ?_))))))))
 refine xpT rfl (dT rfl (xaf rfl (dRR ?_)))
 refine FQ.ret1 (v:=(.bool false)) (Bs:=[]) [] rfl rfl rfl trivial ?_
 exact ⟨congrArg Value.bool (by simp [Wd.right, *]),rfl⟩
theorem zh8 {o m t g:Int}:FnD Tryz.prog 143 [.agg #[.int .i64 o,.int .i64 m,.int .i64 t,.int .i64 g]] [] (.tuple #[.int .u64 (if (⟨o,m,t,g⟩:Wd).right then (⟨o,m,t,g⟩:Wd).pack else 0),.int .i64 (if (⟨o,m,t,g⟩:Wd).right then 0 else 11)]) []:=by
 refine Fn.enter (Tryz.func143) rfl rfl (fun w0 R=>?_)
 refine sA (xB 0 rfl (fun bk0=>(xai rfl (xai rfl (dB (xL4 0 zan rfl rfl (TL.callD [] [] ziF ⟨rfl,trivial⟩ trivial znS rfl rfl rfl rfl rfl trivial (TL.cases rfl (fun q1=>?_) (fun q1=>?_)))))))))
 refine xnt rfl (dF rfl (xf 1 za0 rfl (xli 0 zae rfl rfl (TL.conv _ rfl zeM zaX (rfl) rfl rfl (xf 0 zbf rfl (xli 0 zae rfl rfl (TL.conv _ rfl zeM zaX (rfl) rfl rfl (TL.shl _ rfl rfl (by decide) rfl rfl rfl ?_))))))))
 refine TL.or _ rfl rfl rfl rfl rfl (xf 2 zc5 rfl (xli 0 zae rfl rfl (TL.conv _ rfl zeM zaX (rfl) rfl rfl (TL.shl _ rfl rfl (by decide) rfl rfl rfl (TL.or _ rfl rfl rfl rfl rfl (xf 3 zcj rfl (xli 0 zae rfl rfl (TL.conv _ rfl zeM zaX (rfl) rfl rfl ?_))))))))
 refine TL.shl _ rfl rfl (by decide) rfl rfl rfl (TL.or _ rfl rfl rfl rfl rfl (xai rfl (xai rfl (dR ?_))))
 refine FQ.ret2 (v:=(.int _ _)) (x:=(.int _ _)) (Bs:=[]) [] rfl rfl rfl rfl trivial ?_
 exact ⟨by simp only [*,if_true,Bool.false_eq_true,if_false]<;>rfl,rfl⟩
 refine xnf rfl (dT rfl (xai rfl (xai rfl (dRR ?_))))
 refine FQ.ret2 (v:=(.int _ _)) (x:=(.int _ _)) (Bs:=[]) [] rfl rfl rfl rfl trivial ?_
 exact ⟨by simp only [*,if_true,Bool.false_eq_true,if_false]<;>rfl,rfl⟩
theorem zkv {v a n:Int} (ha:0≤a) (hn:0≤n):FnD Tryz.prog 161 [.int .u64 v,.int .i64 a,.int .i64 n] [] (.int .i64 (zhn v a n)) []:=by
 refine Fn.enter (Tryz.func161) rfl rfl (fun w0 R=>?_)
 refine sA (xai rfl (dS (TC.draw [(0,true),(1,true),(2,true),(3,true),(4,true),(5,true),(6,true),(7,true),(8,true)] [] fc_m (by kernel_rfl) (xmi rfl (xmi rfl (TL.shr _ rfl rfl (by omega) rfl rfl rfl (xmi rfl (TL.shl _ rfl rfl (by omega) rfl rfl rfl ?_))))))))
 refine TL.sub _ rfl rfl (rfl) rfl rfl (TL.and _ rfl rfl rfl rfl rfl (TL.conv _ rfl zeC zby (rfl) rfl rfl (xai rfl (dR ?_))))
 refine FQ.ret1 (v:=(.int _ _)) (Bs:=[]) [] rfl rfl rfl trivial ?_
 exact ⟨iE (by unfold zhn andU shrU shlU; rw [Int.one_mul]),rfl⟩
theorem zcr {v:Int}:FnD Tryz.prog 131 [.int .u64 v] [] (.tuple #[wdV (zac v).1,.int .i64 (if (zac v).2 then 0 else 21)]) []:=by
 refine Fn.enter (Tryz.func131) rfl rfl (fun w0 R=>?_)
 refine sA (TL.alloc 0 (cs:=#[.int .i64 0,.int .i64 0,.int .i64 0,.int .i64 0]) zbt rfl rfl rfl (fun _=>trivial) (fun bk0=>(xai rfl (dA (xmi rfl (TL.callD [] [] (zkv (by decide) (by decide)) ⟨rfl,rfl,rfl,trivial⟩ trivial zkn rfl rfl rfl rfl rfl trivial (xmi rfl (TL.callD [] [] (zkv (by decide) (by decide)) ⟨rfl,rfl,rfl,trivial⟩ trivial zkn rfl rfl rfl rfl rfl trivial (xmi rfl ?_)))))))))
 refine TL.callD [] [] (zkv (by decide) (by decide)) ⟨rfl,rfl,rfl,trivial⟩ trivial zkn rfl rfl rfl rfl rfl trivial (xmi rfl (TL.shr _ rfl rfl (by decide) rfl rfl rfl (TL.conv _ rfl zeC zby (rfl) rfl rfl (TL.bld [.int .i64 0,.int .i64 0,.int .i64 0,.int .i64 0] [(.int _ _),(.int _ _),(.int _ _),(.int _ _)] [_,_,_,_] zbt zfK ⟨rfl,rfl,rfl,rfl,trivial⟩ ⟨rfl,rfl⟩ rfl rfl (TL.alloc 1 (cs:=#[.int .i64 0,.int .i64 0,.int .i64 0,.int .i64 0]) zbt rfl rfl rfl (fun _=>trivial) (fun bk1=>(TL.stW 1 4 [_,_,_,_] rfl rfl rfl rfl rfl rfl zan rfl rfl trivial (dB (xL4 1 zan rfl rfl ?_)))))))))
 refine TL.callD [] [] ziF ⟨rfl,trivial⟩ trivial znS rfl rfl rfl rfl rfl trivial (TL.cases rfl (fun q1=>?_) (fun q1=>?_))
 refine xnt rfl (dF rfl (xL4 1 zan rfl rfl (TL.stW 0 4 [_,_,_,_] rfl rfl rfl rfl rfl rfl zan rfl rfl trivial (xai rfl (dR ?_)))))
 refine FQ.retG (rs:=[.cell 2 175,.tmp 3]) [(.agg _),(.int _ _)] (Bs:=[]) [] rfl ⟨⟨_,_,_,_,_,0,rfl,rfl,.inr ⟨4,[_,_,_,_],zan,rfl,rfl⟩⟩,rfl,trivial⟩ rfl rfl trivial ?_
 first | exact ⟨(by have q:(zb4 v).right=true:=‹(zb4 v).right=true›; simp only [zac,q,if_true]; rfl),rfl⟩ | exact ⟨(by have q:(zb4 v).right=false:=‹(zb4 v).right=false›; simp only [zac,q,Bool.false_eq_true,if_false]; rfl),rfl⟩
 refine xnf rfl (dT rfl (TL.bld [.int .i64 0,.int .i64 0,.int .i64 0,.int .i64 0] [] [_,_,_,_] zbt zfK trivial ⟨rfl,rfl⟩ rfl rfl (TL.stW 0 4 [_,_,_,_] rfl rfl rfl rfl rfl rfl zan rfl rfl trivial (xai rfl (dRR ?_)))))
 refine FQ.retG (rs:=[.cell 2 175,.tmp 3]) [(.agg _),(.int _ _)] (Bs:=[]) [] rfl ⟨⟨_,_,_,_,_,0,rfl,rfl,.inr ⟨4,[_,_,_,_],zan,rfl,rfl⟩⟩,rfl,trivial⟩ rfl rfl trivial ?_
 first | exact ⟨(by have q:(zb4 v).right=true:=‹(zb4 v).right=true›; simp only [zac,q,if_true]; rfl),rfl⟩ | exact ⟨(by have q:(zb4 v).right=false:=‹(zb4 v).right=false›; simp only [zac,q,Bool.false_eq_true,if_false]; rfl),rfl⟩
theorem ziE {p:Pen} {x o m t g:Int} {b1 b2:Nat}:FnD Tryz.prog 134 [.agg #[.int .i64 o,.int .i64 m,.int .i64 t,.int .i64 g],.pointer (some ⟨b1,0,none⟩),.pointer (some ⟨b2,0,none⟩)] [pt b1 (.cells #[.int .i64 p.thread,.int .i64 p.tag] 37),pt b2 (.cells #[.int .i64 x] 3)] (wdV (p.to x (⟨o,m,t,g⟩:Wd))) [pt b1 (.cells #[.int .i64 p.thread,.int .i64 p.tag] 37),pt b2 (.cells #[.int .i64 x] 3)]:=by
 refine Fn.enter (Tryz.func134) rfl rfl (fun w0 R=>?_)
 refine sA (xB 2 rfl (fun bk2=>(TL.alloc 3 (cs:=#[.int .i64 0,.int .i64 0,.int .i64 0,.int .i64 0]) zbt rfl rfl rfl (fun _=>trivial) (fun bk3=>(dB (xf 2 zc5 rfl (xli 2 zae rfl rfl (xf 0 zdx rfl (xli 0 zae rfl rfl (TL.neq rfl rfl rfl rfl (fun q1=>?_) (fun q1=>?_)))))))))))
 refine xmt rfl (xo rfl (xo rfl (xo rfl (xo rfl (xo rfl (xpT rfl (TL.done (TQ.then ?_))))))))
 refine TC.condT rfl (TC.region (xf 1 za0 rfl (xli 2 zae rfl rfl (xf 0 zbf rfl (TL.st 2 #[_,_,_,_] (.int _ _) rfl rfl rfl rfl rfl rfl zae rfl rfl trivial (dA (xf 0 zbf rfl (xli 2 zae rfl rfl ?_))))))))
 refine xli 1 zae rfl rfl (xf 0 zdx rfl (xli 0 zae rfl rfl (xf 1 zcT rfl (xli 0 zae rfl rfl (TL.bld [.int .i64 0,.int .i64 0,.int .i64 0,.int .i64 0] [(.int _ _),(.int _ _),(.int _ _),(.int _ _)] [_,_,_,_] zbt zfK ⟨rfl,rfl,rfl,rfl,trivial⟩ ⟨rfl,rfl⟩ rfl rfl (TL.stW 3 4 [_,_,_,_] rfl rfl rfl rfl rfl rfl zan rfl rfl trivial (dR ?_)))))))
 refine FQ.retG (rs:=[.cell 4 175]) [(.agg _)] (Bs:=[pt b1 (.cells #[.int .i64 p.thread,.int .i64 p.tag] 37),pt b2 (.cells #[.int .i64 x] 3)]) [0,1] rfl ⟨⟨_,_,_,_,_,3,rfl,rfl,.inr ⟨4,[_,_,_,_],zan,rfl,rfl⟩⟩,trivial⟩ rfl rfl ⟨rfl,rfl,trivial⟩ ?_
 first | exact ⟨(by unfold Pen.to; dsimp only; rw [if_pos (by omega)]; rfl),rfl⟩ | exact ⟨(by unfold Pen.to; dsimp only; rw [if_neg (by omega)]; rfl),rfl⟩
 refine xmf rfl (xf 3 zcj rfl (xli 2 zae rfl rfl (xf 1 zcT rfl (xli 0 zae rfl rfl (TL.neq rfl rfl rfl rfl (fun q2=>?_) (fun q2=>?_))))))
 refine xpH rfl (TL.done (TQ.then (TC.condT rfl (TC.region (xf 1 za0 rfl (xli 2 zae rfl rfl (xf 0 zbf rfl (TL.st 2 #[_,_,_,_] (.int _ _) rfl rfl rfl rfl rfl rfl zae rfl rfl trivial ?_))))))))
 refine dA (xf 0 zbf rfl (xli 2 zae rfl rfl (xli 1 zae rfl rfl (xf 0 zdx rfl (xli 0 zae rfl rfl (xf 1 zcT rfl (xli 0 zae rfl rfl (TL.bld [.int .i64 0,.int .i64 0,.int .i64 0,.int .i64 0] [(.int _ _),(.int _ _),(.int _ _),(.int _ _)] [_,_,_,_] zbt zfK ⟨rfl,rfl,rfl,rfl,trivial⟩ ⟨rfl,rfl⟩ rfl rfl ?_))))))))
 refine TL.stW 3 4 [_,_,_,_] rfl rfl rfl rfl rfl rfl zan rfl rfl trivial (dR ?_)
 refine FQ.retG (rs:=[.cell 4 175]) [(.agg _)] (Bs:=[pt b1 (.cells #[.int .i64 p.thread,.int .i64 p.tag] 37),pt b2 (.cells #[.int .i64 x] 3)]) [0,1] rfl ⟨⟨_,_,_,_,_,3,rfl,rfl,.inr ⟨4,[_,_,_,_],zan,rfl,rfl⟩⟩,trivial⟩ rfl rfl ⟨rfl,rfl,trivial⟩ ?_
 first | exact ⟨(by unfold Pen.to; dsimp only; rw [if_pos (by omega)]; rfl),rfl⟩ | exact ⟨(by unfold Pen.to; dsimp only; rw [if_neg (by omega)]; rfl),rfl⟩
 refine xpF rfl (dF rfl (xf 0 zbf rfl (xli 2 zae rfl rfl (xli 1 zae rfl rfl (xf 0 zdx rfl (xli 0 zae rfl rfl (xf 1 zcT rfl (xli 0 zae rfl rfl ?_))))))))
 refine TL.bld [.int .i64 0,.int .i64 0,.int .i64 0,.int .i64 0] [(.int _ _),(.int _ _),(.int _ _),(.int _ _)] [_,_,_,_] zbt zfK ⟨rfl,rfl,rfl,rfl,trivial⟩ ⟨rfl,rfl⟩ rfl rfl (TL.stW 3 4 [_,_,_,_] rfl rfl rfl rfl rfl rfl zan rfl rfl trivial (dR ?_))
 refine FQ.retG (rs:=[.cell 4 175]) [(.agg _)] (Bs:=[pt b1 (.cells #[.int .i64 p.thread,.int .i64 p.tag] 37),pt b2 (.cells #[.int .i64 x] 3)]) [0,1] rfl ⟨⟨_,_,_,_,_,3,rfl,rfl,.inr ⟨4,[_,_,_,_],zan,rfl,rfl⟩⟩,trivial⟩ rfl rfl ⟨rfl,rfl,trivial⟩ ?_
 first | exact ⟨(by unfold Pen.to; dsimp only; rw [if_pos (by omega)]; rfl),rfl⟩ | exact ⟨(by unfold Pen.to; dsimp only; rw [if_neg (by omega)]; rfl),rfl⟩
theorem zor {S:Type} [MemLike S] {mt:TypeId} {mv:Value} {A:S→Assn} (hM:MemI Tryz.prog mt mv A) {σ:S} {p:Pen} {c x:Int} {b1 b2:Nat} (h:(zac (MemLike.get σ c)).2=false):FnD Tryz.prog 113 [.iface mt mv,.int .i64 c,.func (.func 134) #[] #[.pointer (some ⟨b1,0,none⟩),.pointer (some ⟨b2,0,none⟩)]] [A σ,pt b1 (.cells #[.int .i64 p.thread,.int .i64 p.tag] 37),pt b2 (.cells #[.int .i64 x] 3)] (.tuple #[]) [A (MemLike.ld σ c),pt b1 (.cells #[.int .i64 p.thread,.int .i64 p.tag] 37),pt b2 (.cells #[.int .i64 x] 3)]:=by
 refine Fn.enter (Tryz.func113) rfl rfl (fun w0 R=>?_)
 refine sA (xmc rfl (xmi rfl (TL.mload 0 hM rfl rfl rfl rfl rfl trivial (TL.callD [] [] zcr ⟨rfl,trivial⟩ trivial zee rfl rfl rfl rfl rfl trivial (xmu rfl (TL.ext (.agg _) rfl rfl rfl rfl (xei rfl rfl (TL.alloc 3 (cs:=#[.int .i64 0,.int .i64 0,.int .i64 0,.int .i64 0]) zbt rfl rfl rfl (fun _=>trivial) (fun bk3=>?_)))))))))
 refine TL.stW 3 4 [_,_,_,_] rfl rfl rfl rfl rfl rfl zan rfl rfl trivial (xai rfl (dB (xmi rfl (TL.neqT rfl rfl (by rw [h]; decide) rfl rfl (TL.done (TQ.then (TC.condT rfl (TC.ret ?_))))))))
 refine TQ.thenRet ?_
 refine FQ.ret0 (Bs:=[A (MemLike.ld σ c),pt b1 (.cells #[.int .i64 p.thread,.int .i64 p.tag] 37),pt b2 (.cells #[.int .i64 x] 3)]) [0,1,2] rfl rfl ⟨rfl,rfl,rfl,trivial⟩ ?_
 exact ⟨rfl,rfl⟩
theorem zoq {S:Type} [MemLike S] {mt:TypeId} {mv:Value} {A:S→Assn} (hM:MemI Tryz.prog mt mv A) {σ:S} {p:Pen} {c x:Int} {b1 b2:Nat} (h:(zac (MemLike.get σ c)).2=true) (h2:(p.to x (zac (MemLike.get σ c)).1).right=false):FnD Tryz.prog 113 [.iface mt mv,.int .i64 c,.func (.func 134) #[] #[.pointer (some ⟨b1,0,none⟩),.pointer (some ⟨b2,0,none⟩)]] [A σ,pt b1 (.cells #[.int .i64 p.thread,.int .i64 p.tag] 37),pt b2 (.cells #[.int .i64 x] 3)] (.tuple #[]) [A (MemLike.ld σ c),pt b1 (.cells #[.int .i64 p.thread,.int .i64 p.tag] 37),pt b2 (.cells #[.int .i64 x] 3)]:=by
 refine Fn.enter (Tryz.func113) rfl rfl (fun w0 R=>?_)
 refine sA (xmc rfl (xmi rfl (TL.mload 0 hM rfl rfl rfl rfl rfl trivial (TL.callD [] [] zcr ⟨rfl,trivial⟩ trivial zee rfl rfl rfl rfl rfl trivial (xmu rfl (TL.ext (.agg _) rfl rfl rfl rfl (xei rfl rfl (TL.alloc 3 (cs:=#[.int .i64 0,.int .i64 0,.int .i64 0,.int .i64 0]) zbt rfl rfl rfl (fun _=>trivial) (fun bk3=>?_)))))))))
 refine TL.stW 3 4 [_,_,_,_] rfl rfl rfl rfl rfl rfl zan rfl rfl trivial (xai rfl (dB (xmi rfl (TL.neqF rfl rfl (by rw [h]; decide) rfl rfl (dF rfl (TL.mv (.func _ _ _) rfl rfl rfl (xL4 3 zan rfl rfl (TL.callC (c1:=[]) (c2:=[_,_]) (vs:=[_]) [1,2] [1,2] rfl ziE ⟨rfl,trivial⟩ ⟨rfl,rfl,trivial⟩ zn3 rfl rfl rfl rfl rfl trivial ?_))))))))
 refine TL.callD [] [] zh8 ⟨rfl,trivial⟩ trivial ziv rfl rfl rfl rfl rfl trivial (xmu rfl (xei rfl rfl (xei rfl rfl (xai rfl (xai rfl (dA (xmi rfl (TL.eqlF rfl rfl (by rw [h2]; decide) rfl rfl ?_))))))))
 refine TL.done (TQ.then (TC.condF rfl (TC.skip ?_)))
 refine FQ.end0 (Bs:=[A (MemLike.ld σ c),pt b1 (.cells #[.int .i64 p.thread,.int .i64 p.tag] 37),pt b2 (.cells #[.int .i64 x] 3)]) [0,1,2] rfl rfl ⟨rfl,rfl,rfl,trivial⟩ ?_
 exact ⟨rfl,rfl⟩
theorem zop {S:Type} [MemLike S] {mt:TypeId} {mv:Value} {A:S→Assn} (hM:MemI Tryz.prog mt mv A) {σ:S} {p:Pen} {c x:Int} {b1 b2:Nat} (h:(zac (MemLike.get σ c)).2=true) (h2:(p.to x (zac (MemLike.get σ c)).1).right=true):FnD Tryz.prog 113 [.iface mt mv,.int .i64 c,.func (.func 134) #[] #[.pointer (some ⟨b1,0,none⟩),.pointer (some ⟨b2,0,none⟩)]] [A σ,pt b1 (.cells #[.int .i64 p.thread,.int .i64 p.tag] 37),pt b2 (.cells #[.int .i64 x] 3)] (.tuple #[]) [A (MemLike.st (MemLike.ld σ c) c (p.to x (zac (MemLike.get σ c)).1).pack),pt b1 (.cells #[.int .i64 p.thread,.int .i64 p.tag] 37),pt b2 (.cells #[.int .i64 x] 3)]:=by
 refine Fn.enter (Tryz.func113) rfl rfl (fun w0 R=>?_)
 refine sA (xmc rfl (xmi rfl (TL.mload 0 hM rfl rfl rfl rfl rfl trivial (TL.callD [] [] zcr ⟨rfl,trivial⟩ trivial zee rfl rfl rfl rfl rfl trivial (xmu rfl (TL.ext (.agg _) rfl rfl rfl rfl (xei rfl rfl (TL.alloc 3 (cs:=#[.int .i64 0,.int .i64 0,.int .i64 0,.int .i64 0]) zbt rfl rfl rfl (fun _=>trivial) (fun bk3=>?_)))))))))
 refine TL.stW 3 4 [_,_,_,_] rfl rfl rfl rfl rfl rfl zan rfl rfl trivial (xai rfl (dB (xmi rfl (TL.neqF rfl rfl (by rw [h]; decide) rfl rfl (dF rfl (TL.mv (.func _ _ _) rfl rfl rfl (xL4 3 zan rfl rfl (TL.callC (c1:=[]) (c2:=[_,_]) (vs:=[_]) [1,2] [1,2] rfl ziE ⟨rfl,trivial⟩ ⟨rfl,rfl,trivial⟩ zn3 rfl rfl rfl rfl rfl trivial ?_))))))))
 refine TL.callD [] [] zh8 ⟨rfl,trivial⟩ trivial ziv rfl rfl rfl rfl rfl trivial (xmu rfl (xei rfl rfl (xei rfl rfl (xai rfl (xai rfl (dA (xmi rfl (TL.eqlT rfl rfl (by rw [h2]; decide) rfl rfl ?_))))))))
 refine TL.done (TQ.then (TC.condT rfl (TC.region (xmc rfl (xmi rfl (xmi rfl (TL.mstore 0 hM rfl rfl rfl (by rw [h2]; exact zcY _ _) rfl rfl rfl trivial (TL.done ?_))))))))
 refine FQ.end0 (Bs:=[A _,pt b1 (.cells #[.int .i64 p.thread,.int .i64 p.tag] 37),pt b2 (.cells #[.int .i64 x] 3)]) [0,1,2] rfl rfl ⟨rfl,rfl,rfl,trivial⟩ ?_
 exact ⟨rfl,by rw [h2]; rfl⟩
theorem zos {S:Type} [MemLike S] {mt:TypeId} {mv:Value} {A:S→Assn} (hM:MemI Tryz.prog mt mv A) {σ:S} {p:Pen} {c x:Int} {b1 b2:Nat}:FnD Tryz.prog 113 [.iface mt mv,.int .i64 c,.func (.func 134) #[] #[.pointer (some ⟨b1,0,none⟩),.pointer (some ⟨b2,0,none⟩)]] [A σ,pt b1 (.cells #[.int .i64 p.thread,.int .i64 p.tag] 37),pt b2 (.cells #[.int .i64 x] 3)] (.tuple #[]) [A (p.write σ c x),pt b1 (.cells #[.int .i64 p.thread,.int .i64 p.tag] 37),pt b2 (.cells #[.int .i64 x] 3)]:=by
 unfold Pen.write
 cases h:(zac (MemLike.get σ c)).2
 ·exact zor hM h
 ·rw [if_pos rfl]
  cases h2:(p.to x (zac (MemLike.get σ c)).1).right
  ·exact zoq hM h h2
  ·exact zop hM h h2
theorem zoS {S:Type} [MemLike S] {mt:TypeId} {mv:Value} {A:S→Assn} (hM:MemI Tryz.prog mt mv A) {σ:S} {p:Pen} {c x:Int}:FnD Tryz.prog 106 [.agg #[.int .i64 p.thread,.int .i64 p.tag],.iface mt mv,.int .i64 c,.int .i64 x] [A σ] (.tuple #[]) [A (p.write σ c x)]:=by
 refine Fn.enter (Tryz.func106) rfl rfl (fun w0 R=>?_)
 refine sA (xB 1 rfl (fun bk1=>(TL.box1 2 (.int _ _) rfl rfl rfl rfl (fun _=>trivial) (fun bk2=>(dG (xmc rfl (xmi rfl (TL.mf (xs:=[]) (ys:=[_,_]) [] [_,_] trivial ⟨rfl,rfl,trivial⟩ rfl rfl (TL.callD [0,1,2] [0,1,2] (zos hM) ⟨rfl,rfl,rfl,trivial⟩ ⟨rfl,rfl,rfl,trivial⟩ zn9 rfl rfl rfl rfl rfl trivial (TL.done ?_))))))))))
 refine FQ.end0 (Bs:=[A (p.write σ c x)]) [0] rfl rfl ⟨rfl,trivial⟩ ?_
 exact ⟨rfl,rfl⟩
theorem zsO {S:Type} [MemLike S] {mt:TypeId} {mv:Value} {A:S→Assn} (hM:MemI Tryz.prog mt mv A) {σ:S} {c:Int}:FnD Tryz.prog 107 [.iface mt mv,.int .i64 c] [A σ] (.int .i64 (pnew σ c)) [A (MemLike.ld σ c)]:=by
 refine Fn.enter (Tryz.func107) rfl rfl (fun w0 R=>?_)
 refine sA (xai rfl (dA (xmc rfl (xmi rfl (TL.mload 0 hM rfl rfl rfl rfl rfl trivial (TL.callD [] [] zcr ⟨rfl,trivial⟩ trivial zee rfl rfl rfl rfl rfl trivial (xmu rfl (TL.ext (.agg _) rfl rfl rfl rfl ?_))))))))
 refine xei rfl rfl (TL.alloc 1 (cs:=#[.int .i64 0,.int .i64 0,.int .i64 0,.int .i64 0]) zbt rfl rfl rfl (fun _=>trivial) (fun bk1=>(TL.stW 1 4 [_,_,_,_] rfl rfl rfl rfl rfl rfl zan rfl rfl trivial (xai rfl (dA (xf 1 za0 rfl (xli 1 zae rfl rfl (xai rfl (dR ?_)))))))))
 refine FQ.ret1 (v:=(.int _ _)) (Bs:=[A (MemLike.ld σ c)]) [0] rfl rfl rfl ⟨rfl,trivial⟩ ?_
 exact ⟨rfl,rfl⟩
theorem zdE {S:Type} [MemLike S] {mt:TypeId} {mv:Value} {A:S→Assn} (hM:MemI Tryz.prog mt mv A) {l:Lay} (hl:l.Ok) {p:Pen} {σ:S} {x f:Int}:FnD Tryz.prog 147 [zbh l mt mv p,.int .i64 x,.int .i64 f] [A σ] (.int .i64 (tget l σ x f)) [A (zfx l σ x f)]:=by
 refine Fn.enter (Tryz.func147) rfl rfl (fun w0 R=>?_)
 refine sA (xB 1 rfl (fun bk1=>(xai rfl (dS (TC.draw [(0,true),(1,true),(2,true),(3,true),(4,true),(5,true),(7,true),(8,true),(6,false),(9,false),(10,true),(11,true)] [1] fc_m (by kernel_rfl) (xf 3 zaY rfl (xlc 1 zbK rfl rfl (xf 0 zaB rfl (xL3 1 zaa rfl rfl ?_)))))))))
 refine xmi rfl (xmi rfl (TL.ncI rfl rfl rfl (xmc rfl (TL.callD [] [] (zaE hl) ⟨rfl,rfl,rfl,trivial⟩ trivial zbm rfl rfl rfl rfl rfl (kL1 rfl trivial) (TL.mload 0 hM rfl rfl rfl rfl rfl (kL1 rfl trivial) (TL.conv _ rfl zeC zby (rfl) rfl rfl (xai rfl (dR ?_))))))))
 refine FQ.ret1 (v:=(.int _ _)) (Bs:=[A _]) [0] rfl rfl rfl ⟨rfl,trivial⟩ ?_
 exact ⟨rfl,rfl⟩
theorem zhW {S:Type} [MemLike S] {mt:TypeId} {mv:Value} {A:S→Assn} (hM:MemI Tryz.prog mt mv A) {l:Lay} (hl:l.Ok) {p:Pen} {σ:S} {x f v:Int}:FnD Tryz.prog 150 [zbh l mt mv p,.int .i64 x,.int .i64 f,.int .i64 v] [A σ] (.tuple #[]) [A (tput l σ x f v)]:=by
 refine Fn.enter (Tryz.func150) rfl rfl (fun w0 R=>?_)
 refine sA (xB 1 rfl (fun bk1=>(TL.done (TQ.then (TC.draw [(0,true),(1,true),(2,true),(3,true),(4,true),(5,true),(7,true),(8,true),(9,true),(10,true),(6,false),(11,false)] [1] fc_m (by kernel_rfl) (xf 3 zaY rfl (xlc 1 zbK rfl rfl (xf 0 zaB rfl (xL3 1 zaa rfl rfl ?_)))))))))
 refine xmi rfl (xmi rfl (xmi rfl (TL.conv _ rfl zeM zaX (rfl) rfl rfl (TL.ncI rfl rfl rfl (xmc rfl (TL.callD [] [] (zaE hl) ⟨rfl,rfl,rfl,trivial⟩ trivial zbm rfl rfl rfl rfl rfl (kL1 rfl trivial) (TL.mstore 0 hM rfl rfl rfl (by first | exact zgn _ | exact zcY _ _ | exact MemLike.rng _ _ | decide | assumption) rfl rfl rfl (kL1 rfl trivial) (TL.done ?_))))))))
 refine FQ.end0 (Bs:=[A _]) [0] rfl rfl ⟨rfl,trivial⟩ ?_
 exact ⟨rfl,rfl⟩
theorem zkE {mt:TypeId} {mv:Value} {l:Lay} (hl:l.Ok) {p:Pen} {x:Int}:FnD Tryz.prog 146 [zbh l mt mv p,.int .i64 x] [] (.bool (zbS l x)) []:=by
 refine Fn.enter (Tryz.func146) rfl rfl (fun w0 R=>?_)
 refine sA (xB 0 rfl (fun bk0=>(xaf rfl (dA (xf 0 zaB rfl (xL3 0 zaa rfl rfl (xmi rfl (TL.callD [] [] (zid hl) ⟨rfl,rfl,trivial⟩ trivial zle rfl rfl rfl rfl rfl trivial (xmu rfl ?_)))))))))
 refine TL.ext (.agg _) rfl rfl rfl rfl (TL.ext (.bool _) rfl rfl rfl rfl (TL.alloc 1 (cs:=#[.bool false,.int .i64 0,.int .i64 0,.int .i64 0,.int .i64 0]) zf2 rfl rfl rfl (fun _=>trivial) (fun bk1=>(TL.stW 1 5 [_,_,_,_,_] rfl rfl rfl rfl rfl rfl zcp rfl rfl trivial (xab rfl (dA (xf 1 zfL rfl (xli 1 zae rfl rfl (TL.eqlV rfl rfl rfl rfl ?_)))))))))
 refine xab rfl (dR ?_)
 refine FQ.ret1 (v:=(.bool _)) (Bs:=[]) [] rfl rfl rfl trivial ?_
 exact ⟨rfl,rfl⟩
theorem zdv {S:Type} [MemLike S] {mt:TypeId} {mv:Value} {A:S→Assn} (hM:MemI Tryz.prog mt mv A) {l:Lay} (hl:l.Ok) {p:Pen} {σ:S} {x:Int}:FnD Tryz.prog 119 [zbh l mt mv p,.int .i64 x] [A σ] (.int .i64 (parent l σ x)) [A (zdk l σ x)]:=by
 refine Fn.enter (Tryz.func119) rfl rfl (fun w0 R=>?_)
 refine sA (xB 1 rfl (fun bk1=>(xai rfl (dB (xL6 1 zaf rfl rfl (xmi rfl (TL.callD [] [] (zkE hl) ⟨rfl,rfl,trivial⟩ trivial znX rfl rfl rfl rfl rfl trivial (TL.cases rfl (fun q1=>?_) (fun q1=>?_)))))))))
 refine TL.done (TQ.then (TC.condT rfl (TC.seq (TC.draw [(0,true),(1,true),(2,true),(3,true),(4,true),(5,false),(6,false),(7,true)] [1] fc_m (by kernel_rfl) (xf 3 zaY rfl (xlc 1 zbK rfl rfl (xf 0 zaB rfl (xL3 1 zaa rfl rfl ?_))))))))
 refine xmi rfl (TL.callD [] [] (zaE hl) ⟨rfl,rfl,rfl,trivial⟩ trivial zbm rfl rfl rfl rfl rfl (kL1 rfl trivial) (TL.callD [0] [0] (zsO hM) ⟨rfl,rfl,trivial⟩ ⟨rfl,trivial⟩ zsb rfl rfl rfl rfl rfl (kL1 rfl trivial) (xai rfl (dRR ?_))))
 refine FQ.ret1 (v:=(.int _ _)) (Bs:=[A _]) [0] rfl rfl rfl ⟨rfl,trivial⟩ ?_
 exact ⟨(by simp only [parent, *,if_true,Bool.false_eq_true,if_false]),rfl⟩
 refine dF rfl (xL6 1 zaf rfl rfl (xmi rfl (TL.callD [0] [0] (zdE hM hl) ⟨rfl,rfl,rfl,trivial⟩ ⟨rfl,trivial⟩ zdR rfl rfl rfl rfl rfl trivial (xai rfl (dR ?_)))))
 refine FQ.ret1 (v:=(.int _ _)) (Bs:=[A _]) [0] rfl rfl rfl ⟨rfl,trivial⟩ ?_
 exact ⟨(by simp only [parent, *,if_true,Bool.false_eq_true,if_false]),rfl⟩
theorem zgP {S:Type} [MemLike S] {mt:TypeId} {mv:Value} {A:S→Assn} (hM:MemI Tryz.prog mt mv A) {l:Lay} (hl:l.Ok) {p:Pen} {σ:S} {x q:Int}:FnD Tryz.prog 151 [zbh l mt mv p,.int .i64 x,.int .i64 q] [A σ] (.tuple #[]) [A (hang l p σ x q)]:=by
 refine Fn.enter (Tryz.func151) rfl rfl (fun w0 R=>?_)
 refine sA (xB 1 rfl (fun bk1=>(dK (sA (xmi rfl (TL.eql rfl rfl rfl rfl (fun q1=>?_) (fun q1=>?_)))))))
 refine xat rfl (TL.done (TQ.then (TC.condT rfl (TC.skip (TQ.inBlock ?_)))))
 refine FQ.end0 (Bs:=[A _]) [0] rfl rfl ⟨rfl,trivial⟩ ?_
 first | exact ⟨rfl,(by simp only [hang, *,if_true,Bool.false_eq_true,if_false])⟩ | exact ⟨rfl,(by simp only [hang]; rw [if_pos (by assumption)])⟩
 refine xaf rfl (TL.done (TQ.then (TC.condF rfl (sA (xL6 1 zaf rfl rfl (xmi rfl (TL.callD [] [] (zkE hl) ⟨rfl,rfl,trivial⟩ trivial znX rfl rfl rfl rfl rfl trivial (TL.cases rfl (fun q2=>?_) (fun q2=>?_)))))))))
 refine xat rfl (TL.done (TQ.then (TC.condT rfl (TC.draw [(0,true),(1,true),(2,true),(3,true),(4,true),(5,true),(6,true),(8,true),(7,false),(9,false)] [1] fc_m (by kernel_rfl) (xf 4 zhI rfl (xL2 1 zcq rfl rfl (xf 3 zaY rfl (xlc 1 zbK rfl rfl ?_))))))))
 refine xf 0 zaB rfl (xL3 1 zaa rfl rfl (xmi rfl (xmi rfl (TL.callD [] [] (zaE hl) ⟨rfl,rfl,rfl,trivial⟩ trivial zbm rfl rfl rfl rfl rfl (kL1 rfl trivial) (TL.callD [0] [0] (zoS hM) ⟨rfl,rfl,rfl,rfl,trivial⟩ ⟨rfl,trivial⟩ zsc rfl rfl rfl rfl rfl (kL1 rfl trivial) (TL.done (TQ.inBlock ?_)))))))
 refine FQ.end0 (Bs:=[A _]) [0] rfl rfl ⟨rfl,trivial⟩ ?_
 first | exact ⟨rfl,(by simp only [hang, *,if_true,Bool.false_eq_true,if_false])⟩ | exact ⟨rfl,(by simp only [hang]; rw [if_pos (by assumption)])⟩
 refine xaf rfl (TL.done (TQ.then (TC.condF rfl (TC.region (xL6 1 zaf rfl rfl (xmi rfl (xmi rfl (TL.callD [0] [0] (zhW hM hl) ⟨rfl,rfl,rfl,rfl,trivial⟩ ⟨rfl,trivial⟩ ziu rfl rfl rfl rfl rfl trivial ?_))))))))
 refine TL.done (TQ.inBlock ?_)
 refine FQ.end0 (Bs:=[A _]) [0] rfl rfl ⟨rfl,trivial⟩ ?_
 first | exact ⟨rfl,(by simp only [hang, *,if_true,Bool.false_eq_true,if_false])⟩ | exact ⟨rfl,(by simp only [hang]; rw [if_pos (by assumption)])⟩
theorem zjw {S:Type} [MemLike S] {mt:TypeId} {mv:Value} {A:S→Assn} (hM:MemI Tryz.prog mt mv A) {l:Lay} (hl:l.Ok) {p:Pen} {σ:S} {x:Int}:FnD Tryz.prog 195 [zbh l mt mv p,.int .i64 x] [A σ] (.int .u64 (tsum l σ x)) [A (zcD l σ x)]:=by
 refine Fn.enter (Tryz.func195) rfl rfl (fun w0 R=>?_)
 refine sA (xB 1 rfl (fun bk1=>(xai rfl (dB (xmi rfl (TL.eql rfl rfl rfl rfl (fun q1=>?_) (fun q1=>?_)))))))
 refine dT rfl (xai rfl (dRR ?_))
 refine FQ.ret1 (v:=(.int _ _)) (Bs:=[A _]) [0] rfl rfl rfl ⟨rfl,trivial⟩ ?_
 first | exact ⟨(by simp only [tsum]; rw [if_pos (by assumption)]),(by simp only [zcD]; rw [if_pos (by assumption)])⟩ | exact ⟨(by simp only [tsum]; rw [if_neg (by assumption)]),(by simp only [zcD]; rw [if_neg (by assumption)])⟩
 refine TL.done (TQ.then (TC.condF rfl (TC.skip (TQ.then (TC.seq (TC.draw [(0,true),(1,true),(2,true),(3,true),(4,true),(6,true),(7,true),(5,false),(8,false),(9,true)] [1] fc_m (by kernel_rfl) (xf 3 zaY rfl (xlc 1 zbK rfl rfl ?_))))))))
 refine xf 0 zaB rfl (xL3 1 zaa rfl rfl (xmi rfl (TL.ncI rfl rfl rfl (xmc rfl (TL.callD [] [] (zaE hl) ⟨rfl,rfl,rfl,trivial⟩ trivial zbm rfl rfl rfl rfl rfl (kL1 rfl trivial) (TL.mload 0 hM rfl rfl rfl rfl rfl (kL1 rfl trivial) (xai rfl (dR ?_))))))))
 refine FQ.ret1 (v:=(.int _ _)) (Bs:=[A _]) [0] rfl rfl rfl ⟨rfl,trivial⟩ ?_
 first | exact ⟨(by simp only [tsum]; rw [if_pos (by assumption)]),(by simp only [zcD]; rw [if_pos (by assumption)])⟩ | exact ⟨(by simp only [tsum]; rw [if_neg (by assumption)]),(by simp only [zcD]; rw [if_neg (by assumption)])⟩
theorem zol {v:Int}:FnD Tryz.prog 196 [.int .u64 v] [] (.int .u64 (zlo v)) []:=by
 refine Fn.enter (Tryz.func196) rfl rfl (fun w0 R=>?_)
 refine sA (xai rfl (dA (xmi rfl (TL.and _ rfl rfl rfl rfl rfl (xai rfl (dR ?_))))))
 refine FQ.ret1 (v:=(.int _ _)) (Bs:=[]) [] rfl rfl rfl trivial ?_
 exact ⟨rfl,rfl⟩
theorem zm8 {mt:TypeId} {mv:Value} {l:Lay} (hl:l.Ok) {p:Pen} {x m:Int}:FnD Tryz.prog 152 [zbh l mt mv p,.int .i64 x,.int .u64 m] [] (.int .u64 (zew l x m)) []:=by
 refine Fn.enter (Tryz.func152) rfl rfl (fun w0 R=>?_)
 refine sA (xB 0 rfl (fun bk0=>(xai rfl (dA (xmi rfl (TL.shl _ rfl rfl (by decide) rfl rfl rfl (TL.or _ rfl rfl rfl rfl rfl (xmi rfl (TL.shl _ rfl rfl (by decide) rfl rfl rfl ?_)))))))))
 refine TL.or _ rfl rfl rfl rfl rfl (xai rfl (dB (xf 0 zaB rfl (xL3 0 zaa rfl rfl (xmi rfl (TL.callD [] [] (zid hl) ⟨rfl,rfl,trivial⟩ trivial zle rfl rfl rfl rfl rfl trivial (xmu rfl (TL.ext (.agg _) rfl rfl rfl rfl ?_))))))))
 refine TL.ext (.bool _) rfl rfl rfl rfl (TL.alloc 1 (cs:=#[.bool false,.int .i64 0,.int .i64 0,.int .i64 0,.int .i64 0]) zf2 rfl rfl rfl (fun _=>trivial) (fun bk1=>(TL.stW 1 5 [_,_,_,_,_] rfl rfl rfl rfl rfl rfl zcp rfl rfl trivial (xab rfl (dA (xf 0 zhF rfl (xlb 1 zc4 rfl rfl (TL.not _ _ rfl rfl rfl rfl (TL.done ?_)))))))))
 refine TQ.then (TC.cond rfl (fun q1=>?_) (fun q1=>?_))
 refine TC.region (xmi rfl (TL.or _ rfl rfl rfl rfl rfl (xai rfl (dA (xmi rfl (xai rfl (dR ?_)))))))
 refine FQ.ret1 (v:=(.int _ _)) (Bs:=[]) [] rfl rfl rfl trivial ?_
 first | exact ⟨(by have q:(l.node x).1.arc=false:=(by simpa using ‹(!(l.node x).1.arc)=true›); simp only [zew,q,Bool.false_eq_true,if_false]; rfl),rfl⟩ | exact ⟨(by have q:(l.node x).1.arc=true:=(by simpa using ‹(!(l.node x).1.arc)=false›); simp only [zew,q,if_true]; rfl),rfl⟩
 refine TC.skip (TQ.then (sA (xmi rfl (xai rfl (dR ?_)))))
 refine FQ.ret1 (v:=(.int _ _)) (Bs:=[]) [] rfl rfl rfl trivial ?_
 first | exact ⟨(by have q:(l.node x).1.arc=false:=(by simpa using ‹(!(l.node x).1.arc)=true›); simp only [zew,q,Bool.false_eq_true,if_false]; rfl),rfl⟩ | exact ⟨(by have q:(l.node x).1.arc=true:=(by simpa using ‹(!(l.node x).1.arc)=false›); simp only [zew,q,if_true]; rfl),rfl⟩
theorem ze3 {S:Type} [MemLike S] {mt:TypeId} {mv:Value} {A:S→Assn} (hM:MemI Tryz.prog mt mv A) {l:Lay} (hl:l.Ok) {p:Pen} {σ:S} {x m:Int}:FnD Tryz.prog 187 [zbh l mt mv p,.int .i64 x,.int .u64 m] [A σ] (.tuple #[]) [A (zgD l σ x m)]:=by
 refine Fn.enter (Tryz.func187) rfl rfl (fun w0 R=>?_)
 refine sA (xB 1 rfl (fun bk1=>(dA (xL6 1 zaf rfl rfl (xmi rfl (xmi rfl (TL.callD [] [] (zm8 hl) ⟨rfl,rfl,rfl,trivial⟩ trivial znU rfl rfl rfl rfl rfl trivial (xai rfl (dB ?_)))))))))
 refine TL.bldA [.int .i64 0,.int .i64 0] [(.int _ _),(.int _ _)] [_,_] zfJ zaJ ⟨rfl,rfl,trivial⟩ ⟨rfl,rfl⟩ rfl rfl (xmi rfl (dK (TC.loopK (X:=Nat) [1,3,14] [1] (fun i=>[(6,.int .u64 (zdt l σ x m i).1),(15,.int .i64 (i:Int))]) (fun i=>[(0,A (zdt l σ x m i).2)]) (fun i=>i≤2) (fun i=>2 - i) (0) (by decide) ⟨rfl,rfl,trivial⟩ ⟨rfl,trivial⟩ (fun i hI=>(TC.sub (env':=[(6,_),(15,_),(1,_),(3,_),(14,_)]) (L':=[(0,_),(1,_)]) ⟨rfl,rfl,rfl,rfl,rfl,trivial⟩ ⟨rfl,rfl,trivial⟩ (sA (TL.lss rfl rfl rfl rfl (fun q1=>?_) (fun q1=>?_))))))))
 refine dS (TC.condT rfl (TC.skip (TQ.then (TC.seq (TC.block (sA (TL.ixA (.int .i64 (3+(i:Int))) rfl rfl zaJ zae (by omega) (by omega) (by have:i=0∨i=1:=(by omega); rcases this with rfl | rfl<;>rfl) rfl rfl (xai rfl ?_))))))))
 refine dS (TC.draw [(0,true),(1,true),(2,true),(3,true),(4,false),(5,false),(6,true)] [1] fc_m (by kernel_rfl) (xL6 1 zaf rfl rfl (xL6 1 zaf rfl rfl (xmi rfl (xmi rfl (TL.callD [0] [0] (zdE hM hl) ⟨rfl,rfl,rfl,trivial⟩ ⟨rfl,trivial⟩ zdR rfl rfl rfl rfl rfl (kL1 rfl trivial) (TL.callD [0] [0] (zjw hM hl) ⟨rfl,rfl,trivial⟩ ⟨rfl,trivial⟩ zkj rfl rfl rfl rfl rfl (kL1 rfl trivial) (xai rfl ?_))))))))
 refine dG (xmi rfl (xmi rfl (TL.callD [] [] zol ⟨rfl,trivial⟩ trivial zrN rfl rfl rfl rfl rfl trivial (TL.add _ rfl rfl (rfl) rfl rfl (xmi rfl (TL.shr _ rfl rfl (by decide) rfl rfl rfl (TL.and _ rfl rfl rfl rfl rfl (TL.shl _ rfl rfl (by decide) rfl rfl rfl ?_))))))))
 refine TL.or _ rfl rfl rfl rfl rfl (xai rfl (dI (TL.add _ rfl rfl (wr64 (by omega)) rfl rfl (xmi rfl (TL.done (TQ.roundK (i+1) ⟨by omega,by omega⟩ ⟨rfl,rfl,trivial⟩ ⟨rfl,trivial⟩ (kE3 rfl rfl rfl trivial) (kL1 rfl trivial)))))))
 refine dS (TC.condF rfl (TC.exit (TQ.thenExit (TQ.thenExit (TQ.blockHere (TQ.then (TC.draw [(0,true),(1,true),(2,true),(3,true),(4,true),(6,true),(7,true),(8,true),(5,false),(9,false)] [1] fc_m (by kernel_rfl) (xf 3 zaY rfl ?_))))))))
 refine xlc 1 zbK rfl rfl (xf 0 zaB rfl (xL3 1 zaa rfl rfl (xmi rfl (xmi rfl (TL.ncI rfl rfl rfl (xmc rfl (TL.callD [] [] (zaE hl) ⟨rfl,rfl,rfl,trivial⟩ trivial zbm rfl rfl rfl rfl rfl (kL1 rfl trivial) (TL.mstore 0 hM rfl rfl rfl (zlI _ _ _ _ _) rfl rfl rfl (kL1 rfl trivial) ?_))))))))
 refine TL.done ?_
 refine FQ.end0 (Bs:=[A _]) [0] rfl rfl ⟨rfl,trivial⟩ ?_
 obtain rfl:i=2:=by omega
 refine ⟨rfl,?_⟩
 unfold zgD
 rfl
theorem zem {S:Type} [MemLike S] {mt:TypeId} {mv:Value} {A:S→Assn} (hM:MemI Tryz.prog mt mv A) {l:Lay} (hl:l.Ok) {p:Pen} {σ:S} {x:Int}:FnD Tryz.prog 186 [zbh l mt mv p,.int .i64 x] [A σ] (.int .u64 (zgL l σ x)) [A (zfY l σ x)]:=by
 refine Fn.enter (Tryz.func186) rfl rfl (fun w0 R=>?_)
 refine sA (xB 1 rfl (fun bk1=>(xai rfl (dA (xL6 1 zaf rfl rfl (xmi rfl (TL.callD [0] [0] (zjw hM hl) ⟨rfl,rfl,trivial⟩ ⟨rfl,trivial⟩ zkj rfl rfl rfl rfl rfl trivial (TL.shr _ rfl rfl (by decide) rfl rfl rfl (TL.and _ rfl rfl rfl rfl rfl ?_)))))))))
 refine xai rfl (dR ?_)
 refine FQ.ret1 (v:=(.int _ _)) (Bs:=[A _]) [0] rfl rfl rfl ⟨rfl,trivial⟩ ?_
 exact ⟨rfl,rfl⟩
theorem zpS {S:Type} [MemLike S] {mt:TypeId} {mv:Value} {A:S→Assn} (hM:MemI Tryz.prog mt mv A) {l:Lay} (hl:l.Ok) {p:Pen} {σ:S} {x:Int}:FnD Tryz.prog 123 [zbh l mt mv p,.int .i64 x] [A σ] (.tuple #[]) [A (alone l p σ x)]:=by
 refine Fn.enter (Tryz.func123) rfl rfl (fun w0 R=>?_)
 refine sA (xB 1 rfl (fun bk1=>(dA (xL6 1 zaf rfl rfl (xmi rfl (TL.callD [0] [0] (zhW hM hl) ⟨rfl,rfl,rfl,rfl,trivial⟩ ⟨rfl,trivial⟩ ziu rfl rfl rfl rfl rfl trivial (dA (xL6 1 zaf rfl rfl (xmi rfl ?_)))))))))
 refine TL.callD [0] [0] (zhW hM hl) ⟨rfl,rfl,rfl,rfl,trivial⟩ ⟨rfl,trivial⟩ ziu rfl rfl rfl rfl rfl trivial (dA (xL6 1 zaf rfl rfl (xmi rfl (TL.callD [0] [0] (zgP hM hl) ⟨rfl,rfl,rfl,trivial⟩ ⟨rfl,trivial⟩ zg5 rfl rfl rfl rfl rfl trivial (TL.done (TQ.then (TC.draw [(0,true),(1,true),(2,true),(3,true),(4,true),(6,true),(7,true),(9,true),(10,true),(5,false),(8,false),(11,false)] [1] fc_m (by kernel_rfl) (xf 3 zaY rfl ?_))))))))
 refine xlc 1 zbK rfl rfl (xf 0 zaB rfl (xL3 1 zaa rfl rfl (xmi rfl (xL6 1 zaf rfl rfl (xmi rfl (TL.ncI rfl rfl rfl (xmc rfl (TL.callD [] [] (zaE hl) ⟨rfl,rfl,rfl,trivial⟩ trivial zbm rfl rfl rfl rfl rfl (kL1 rfl trivial) ?_))))))))
 refine TL.callD [] [] (zm8 hl) ⟨rfl,rfl,rfl,trivial⟩ trivial znU rfl rfl rfl rfl rfl (kL1 rfl trivial) (TL.mstore 0 hM rfl rfl rfl (by first | exact zkY _ _ _) rfl rfl rfl (kL1 rfl trivial) (TL.done ?_))
 refine FQ.end0 (Bs:=[A _]) [0] rfl rfl ⟨rfl,trivial⟩ ?_
 exact ⟨rfl,rfl⟩
theorem zh0 {S:Type} [MemLike S] {mt:TypeId} {mv:Value} {A:S→Assn} (hM:MemI Tryz.prog mt mv A) {l:Lay} (hl:l.Ok) {p:Pen} {σ:S} {x:Int}:FnD Tryz.prog 188 [zbh l mt mv p,.int .i64 x] [A σ] (.int .i64 (size l σ x)) [A (zcD l σ x)]:=by
 refine Fn.enter (Tryz.func188) rfl rfl (fun w0 R=>?_)
 refine sA (xB 1 rfl (fun bk1=>(xai rfl (dA (xL6 1 zaf rfl rfl (xmi rfl (TL.callD [0] [0] (zjw hM hl) ⟨rfl,rfl,trivial⟩ ⟨rfl,trivial⟩ zkj rfl rfl rfl rfl rfl trivial (TL.and _ rfl rfl rfl rfl rfl (TL.conv _ rfl zeC zby (rfl) rfl rfl ?_)))))))))
 refine xai rfl (dR ?_)
 refine FQ.ret1 (v:=(.int _ _)) (Bs:=[A _]) [0] rfl rfl rfl ⟨rfl,trivial⟩ ?_
 exact ⟨rfl,rfl⟩
theorem zh3 {S:Type} [MemLike S] {mt:TypeId} {mv:Value} {A:S→Assn} (hM:MemI Tryz.prog mt mv A) {l:Lay} (hl:l.Ok) {p:Pen} {σ:S} {x r:Int} {k:Nat} {σ2:S} (h:root l k σ x=some (r,σ2)):FnD Tryz.prog 86 [zbh l mt mv p,.int .i64 x] [A σ] (.int .i64 r) [A σ2]:=by
 refine Fn.enter (Tryz.func86) rfl rfl (fun w0 R=>?_)
 refine sA (xB 1 rfl (fun bk1=>(xai rfl (dS (TC.block (TC.loopK (X:=Nat×S×Int) [2,4] [1] (fun y=>[(1,.int .i64 y.2.2)]) (fun y=>[(0,A y.2.1)]) (fun y=>root l y.1 y.2.1 y.2.2=some (r,σ2)) (fun y=>y.1) ((k,σ,x)) h ⟨rfl,trivial⟩ ⟨rfl,trivial⟩ (fun y hI=>?_)))))))
 obtain ⟨k,σ1,z⟩:=y
 rcases k with _ | k
 ·simp [root] at hI
 dsimp only at hI
 refine TC.sub (env':=[(1,_),(2,_),(4,_)]) (L':=[(0,_),(1,_)]) ⟨rfl,rfl,rfl,trivial⟩ ⟨rfl,rfl,trivial⟩ (sB (xmi rfl (TL.neq rfl rfl rfl rfl (fun q1=>?_) (fun q1=>?_))))
 refine TL.done (TQ.then (TC.condT rfl (TC.skip (TQ.then (TC.block (sA (xL6 1 zaf rfl rfl (xmi rfl ?_))))))))
 refine TL.callD [0] [0] (zdv hM hl) ⟨rfl,rfl,trivial⟩ ⟨rfl,trivial⟩ zfO rfl rfl rfl rfl rfl trivial (xai rfl (dB (xmi rfl (TL.eql rfl rfl rfl rfl (fun q2=>?_) (fun q2=>?_)))))
 refine TL.done (TQ.then (TC.condT rfl (TC.exit (TQ.thenExit (TQ.blockOut rfl (TQ.thenExit (TQ.blockHere (TQ.then ?_))))))))
 refine sA (xmi rfl (xai rfl (dR ?_)))
 refine FQ.ret1 (v:=(.int _ _)) (Bs:=[A _]) [0] rfl rfl rfl ⟨rfl,trivial⟩ ?_
 rw [root,if_pos q1,if_pos q2] at hI; cases hI; exact ⟨rfl,rfl⟩
 refine TL.done (TQ.then (TC.condF rfl (TC.skip (TQ.then (TC.region (xmi rfl (xai rfl (TL.done ?_))))))))
 refine TQ.inBlock (TQ.roundK ((k,zdk l σ1 z,parent l σ1 z)) ⟨(by rw [root,if_pos q1,if_neg q2] at hI; exact hI),Nat.lt_succ_self _⟩ ⟨rfl,trivial⟩ ⟨rfl,trivial⟩ (kE2 rfl rfl trivial) (kL1 rfl trivial))
 refine dE rfl (sA (xmi rfl (xai rfl (dR ?_))))
 refine FQ.ret1 (v:=(.int _ _)) (Bs:=[A _]) [0] rfl rfl rfl ⟨rfl,trivial⟩ ?_
 rw [root,if_neg q1] at hI; cases hI; exact ⟨rfl,rfl⟩
theorem zps {S:Type} [MemLike S] {mt:TypeId} {mv:Value} {A:S→Assn} (hM:MemI Tryz.prog mt mv A) {l:Lay} (hl:l.Ok) {p:Pen} {σ:S} {x r:Int} {k:Nat} {σ2:S} (h:index l k σ x=some (r,σ2)):FnD Tryz.prog 175 [zbh l mt mv p,.int .i64 x] [A σ] (.int .i64 r) [A σ2]:=by
 unfold index at h
 dsimp only at h
 refine Fn.enter (Tryz.func175) rfl rfl (fun w0 R=>?_)
 refine sA (xB 1 rfl (fun bk1=>(xai rfl (dS (TC.draw [(0,true),(1,true),(2,true),(3,false),(4,false),(5,true)] [1] fc_m (by kernel_rfl) (xL6 1 zaf rfl rfl (xL6 1 zaf rfl rfl (xmi rfl (TL.callD [0] [0] (zdE hM hl) ⟨rfl,rfl,rfl,trivial⟩ ⟨rfl,trivial⟩ zdR rfl rfl rfl rfl rfl (kL1 rfl trivial) ?_)))))))))
 refine TL.callD [0] [0] (zh0 hM hl) ⟨rfl,rfl,trivial⟩ ⟨rfl,trivial⟩ zis rfl rfl rfl rfl rfl (kL1 rfl trivial) (xai rfl (dK (TC.loopK (X:=Nat×S×Int×Int) [2] [1] (fun y=>[(1,.int .i64 y.2.2.1),(5,.int .i64 y.2.2.2)]) (fun y=>[(0,A y.2.1)]) (fun y=>zcw l y.1 y.2.1 y.2.2.1 y.2.2.2=some (r,σ2)) (fun y=>y.1) ((k,_,_,_)) h ⟨rfl,rfl,trivial⟩ ⟨rfl,trivial⟩ (fun y hI=>?_))))
 obtain ⟨k,σ1,z,n⟩:=y
 rcases k with _ | k
 ·simp [zcw] at hI
 dsimp only at hI
 refine TC.sub (env':=[(1,_),(5,_),(2,_)]) (L':=[(0,_),(1,_)]) ⟨rfl,rfl,rfl,trivial⟩ ⟨rfl,rfl,trivial⟩ (TC.block (sA (xL6 1 zaf rfl rfl (xmi rfl (TL.callD [0] [0] (zdv hM hl) ⟨rfl,rfl,trivial⟩ ⟨rfl,trivial⟩ zfO rfl rfl rfl rfl rfl trivial (xai rfl (dB (xmi rfl ?_))))))))
 refine TL.eql rfl rfl rfl rfl (fun q1=>?_) (fun q1=>?_)
 refine dT rfl (xmi rfl (xai rfl (dRR (TQ.blockRet (TQ.thenRet (TQ.blockRet ?_))))))
 refine FQ.ret1 (v:=(.int _ _)) (Bs:=[A _]) [0] rfl rfl rfl ⟨rfl,trivial⟩ ?_
 rw [zcw,if_pos q1] at hI; cases hI; exact ⟨rfl,rfl⟩
 refine TL.done (TQ.then (TC.condF rfl (TC.skip (TQ.then (sB (xL6 1 zaf rfl rfl (xmi rfl (TL.callD [0] [0] (zdE hM hl) ⟨rfl,rfl,rfl,trivial⟩ ⟨rfl,trivial⟩ zdR rfl rfl rfl rfl rfl trivial ?_))))))))
 refine xmi rfl (TL.eql rfl rfl rfl rfl (fun q2=>?_) (fun q2=>?_))
 refine TL.done (TQ.then (TC.condT rfl (TC.draw [(0,true),(1,true),(2,true),(3,true),(4,false),(5,false),(6,true),(7,true),(8,true)] [1] fc_m (by kernel_rfl) (xmi rfl (xL6 1 zaf rfl rfl (xL6 1 zaf rfl rfl (xmi rfl (TL.callD [0] [0] (zdE hM hl) ⟨rfl,rfl,rfl,trivial⟩ ⟨rfl,trivial⟩ zdR rfl rfl rfl rfl rfl (kL1 rfl trivial) ?_))))))))
 refine TL.callD [0] [0] (zh0 hM hl) ⟨rfl,rfl,trivial⟩ ⟨rfl,trivial⟩ zis rfl rfl rfl rfl rfl (kL1 rfl trivial) (TL.add _ rfl rfl (rfl) rfl rfl (TL.add _ rfl rfl (rfl) rfl rfl (xai rfl (dG (xmi rfl (xai rfl (TL.done (TQ.inBlock ?_))))))))
 refine TQ.roundK ((k,_,_,_)) ⟨(by rw [zcw,if_neg q1] at hI; dsimp only at hI; rw [if_pos q2] at hI; exact hI),Nat.lt_succ_self _⟩ ⟨rfl,rfl,trivial⟩ ⟨rfl,trivial⟩ (kE1 rfl trivial) (kL1 rfl trivial)
 refine TL.done (TQ.then (TC.condF rfl (TC.skip (TQ.then (TC.region (xmi rfl (xai rfl (TL.done ?_))))))))
 refine TQ.inBlock (TQ.roundK ((k,_,_,_)) ⟨(by rw [zcw,if_neg q1] at hI; dsimp only at hI; rw [if_neg q2] at hI; exact hI),Nat.lt_succ_self _⟩ ⟨rfl,rfl,trivial⟩ ⟨rfl,trivial⟩ (kE1 rfl trivial) (kL1 rfl trivial))
theorem zkF {S:Type} [MemLike S] {mt:TypeId} {mv:Value} {A:S→Assn} (hM:MemI Tryz.prog mt mv A) {l:Lay} (hl:l.Ok) {p:Pen} {σ:S} {x f c:Int}:FnD Tryz.prog 194 [zbh l mt mv p,.int .i64 x,.int .i64 f,.int .i64 c] [A σ] (.tuple #[]) [A (setC l p σ x f c)]:=by
 refine Fn.enter (Tryz.func194) rfl rfl (fun w0 R=>?_)
 refine sA (xB 1 rfl (fun bk1=>(dA (xL6 1 zaf rfl rfl (xmi rfl (xmi rfl (xmi rfl (TL.callD [0] [0] (zhW hM hl) ⟨rfl,rfl,rfl,rfl,trivial⟩ ⟨rfl,trivial⟩ ziu rfl rfl rfl rfl rfl trivial (dA ?_)))))))))
 refine xL6 1 zaf rfl rfl (xmi rfl (xmi rfl (TL.callD [0] [0] (zgP hM hl) ⟨rfl,rfl,rfl,trivial⟩ ⟨rfl,trivial⟩ zg5 rfl rfl rfl rfl rfl trivial (TL.done (TQ.then (TC.draw [(0,true),(1,true),(2,true),(3,true),(4,false),(5,false)] [1] fc_m (by kernel_rfl) (xL6 1 zaf rfl rfl (xmi rfl ?_))))))))
 refine xL6 1 zaf rfl rfl (xmi rfl (TL.callD [0] [0] (zem hM hl) ⟨rfl,rfl,trivial⟩ ⟨rfl,trivial⟩ zfM rfl rfl rfl rfl rfl (kL1 rfl trivial) (TL.callD [0] [0] (ze3 hM hl) ⟨rfl,rfl,rfl,trivial⟩ ⟨rfl,trivial⟩ zg2 rfl rfl rfl rfl rfl (kL1 rfl trivial) (TL.done ?_))))
 refine FQ.end0 (Bs:=[A _]) [0] rfl rfl ⟨rfl,trivial⟩ ?_
 exact ⟨rfl,(by unfold setC zfY; rfl)⟩
theorem zoX {S:Type} [MemLike S] {mt:TypeId} {mv:Value} {A:S→Assn} (hM:MemI Tryz.prog mt mv A) {l:Lay} (hl:l.Ok) {p:Pen} {σ:S} {x n:Int} {r:Int×Int} {k:Nat} {σ2:S} (h:split l p k σ x n=some (r,σ2)):FnD Tryz.prog 189 [zbh l mt mv p,.int .i64 x,.int .i64 n] [A σ] (.tuple #[.int .i64 r.1,.int .i64 r.2]) [A σ2]:=by
 induction k generalizing σ x n r σ2
 case zero=>simp [split] at h
 case succ k ih =>
  refine Fn.enter (Tryz.func189) rfl rfl (fun w0 R=>?_)
  refine sA (xB 1 rfl (fun bk1=>(xai rfl (xai rfl (dB (xmi rfl (TL.eql rfl rfl rfl rfl (fun q1=>?_) (fun q1=>?_))))))))
  refine dT rfl (xai rfl (xai rfl (dRR ?_)))
  refine FQ.ret2 (v:=(.int _ _)) (x:=(.int _ _)) (Bs:=[A _]) [0] rfl rfl rfl rfl ⟨rfl,trivial⟩ ?_
  rw [split,if_pos q1] at h; cases h; exact ⟨rfl,rfl⟩
  refine dF rfl (xL6 1 zaf rfl rfl (xmi rfl (TL.callD [0] [0] (zdE hM hl) ⟨rfl,rfl,rfl,trivial⟩ ⟨rfl,trivial⟩ zdR rfl rfl rfl rfl rfl trivial (xai rfl (dA (xL6 1 zaf rfl rfl (xmi rfl (TL.callD [0] [0] (zh0 hM hl) ⟨rfl,rfl,trivial⟩ ⟨rfl,trivial⟩ zis rfl rfl rfl rfl rfl trivial ?_))))))))
  refine xai rfl (dB (xmi rfl (xmi rfl (TL.leq rfl rfl rfl rfl (fun q2=>?_) (fun q2=>?_)))))
  refine dT rfl (xL6 1 zaf rfl rfl (xmi rfl (xmi rfl ?_)))
  rw [split,if_neg q1] at h
  dsimp only at h
  rw [if_pos q2] at h
  obtain ⟨⟨ab,σ3⟩,h1,h9⟩:=Option.bind_eq_some_iff.1 h
  refine TL.callD [0] [0] (ih h1) ⟨rfl,rfl,rfl,trivial⟩ ⟨rfl,trivial⟩ zkk rfl rfl rfl rfl rfl trivial (xmu rfl (xei rfl rfl (xei rfl rfl (xai rfl (xai rfl (dA (xL6 1 zaf rfl rfl (xmi rfl ?_))))))))
  refine xmi rfl (TL.callD [0] [0] (zkF hM hl) ⟨rfl,rfl,rfl,rfl,trivial⟩ ⟨rfl,trivial⟩ zir rfl rfl rfl rfl rfl trivial (dA (xmi rfl (xmi rfl (xai rfl (xai rfl (dRR ?_)))))))
  refine FQ.ret2 (v:=(.int _ _)) (x:=(.int _ _)) (Bs:=[A _]) [0] rfl rfl rfl rfl ⟨rfl,trivial⟩ ?_
  cases h9; exact ⟨rfl,rfl⟩
  refine TL.done (TQ.then (TC.condF rfl (TC.skip (TQ.then (TC.seq (TC.draw [(0,true),(1,true),(2,true),(4,true),(5,true),(6,true),(7,true),(3,false),(8,false),(9,true),(10,true),(11,true),(12,true),(13,true)] [1] fc_m (by kernel_rfl) (xL6 1 zaf rfl rfl (xL6 1 zaf rfl rfl ?_))))))))
  refine xmi rfl (xmi rfl (xmi rfl (TL.sub _ rfl rfl (rfl) rfl rfl (TL.sub _ rfl rfl (rfl) rfl rfl (TL.callD [0] [0] (zdE hM hl) ⟨rfl,rfl,rfl,trivial⟩ ⟨rfl,trivial⟩ zdR rfl rfl rfl rfl rfl (kL1 rfl trivial) ?_)))))
  rw [split,if_neg q1] at h
  dsimp only at h
  rw [if_neg q2] at h
  obtain ⟨⟨ab,σ3⟩,h1,h9⟩:=Option.bind_eq_some_iff.1 h
  refine TL.callD [0] [0] (ih h1) ⟨rfl,rfl,rfl,trivial⟩ ⟨rfl,trivial⟩ zkk rfl rfl rfl rfl rfl (kL1 rfl trivial) (xmu rfl (xei rfl rfl (xei rfl rfl (xai rfl (xai rfl (dA (xL6 1 zaf rfl rfl (xmi rfl ?_))))))))
  refine xmi rfl (TL.callD [0] [0] (zkF hM hl) ⟨rfl,rfl,rfl,rfl,trivial⟩ ⟨rfl,trivial⟩ zir rfl rfl rfl rfl rfl trivial (dA (xmi rfl (xmi rfl (xai rfl (xai rfl (dR ?_)))))))
  refine FQ.ret2 (v:=(.int _ _)) (x:=(.int _ _)) (Bs:=[A _]) [0] rfl rfl rfl rfl ⟨rfl,trivial⟩ ?_
  cases h9; exact ⟨rfl,rfl⟩
theorem zmv {S:Type} [MemLike S] {mt:TypeId} {mv:Value} {A:S→Assn} (hM:MemI Tryz.prog mt mv A) {l:Lay} (hl:l.Ok) {p:Pen} {σ:S} {x n:Int} {r:Int×Int} {k:Nat} {σ2:S} (h:zez l p k σ x n=some (r,σ2)):FnD Tryz.prog 176 [zbh l mt mv p,.int .i64 x,.int .i64 n] [A σ] (.tuple #[.int .i64 r.1,.int .i64 r.2]) [A σ2]:=by
 obtain ⟨⟨ab,σ3⟩,h1,h9⟩:=Option.bind_eq_some_iff.1 h
 cases h9
 refine Fn.enter (Tryz.func176) rfl rfl (fun w0 R=>?_)
 refine sA (xB 1 rfl (fun bk1=>(xai rfl (xai rfl (dS (TC.draw [(0,true),(1,true),(2,true),(3,true),(4,true),(5,true),(6,false),(7,true),(8,false),(9,true),(10,true),(11,true),(12,true),(13,true)] [1] fc_m (by kernel_rfl) (xL6 1 zaf rfl rfl (xmi rfl (xmi rfl ?_)))))))))
 refine TL.max2 rfl rfl rfl rfl (xL6 1 zaf rfl rfl (xmi rfl (TL.callD [0] [0] (zh0 hM hl) ⟨rfl,rfl,trivial⟩ ⟨rfl,trivial⟩ zis rfl rfl rfl rfl rfl (kL1 rfl trivial) (TL.min2 rfl rfl rfl rfl (TL.callD [0] [0] (zoX hM hl h1) ⟨rfl,rfl,rfl,trivial⟩ ⟨rfl,trivial⟩ zkk rfl rfl rfl rfl rfl (kL1 rfl trivial) (xmu rfl (xei rfl rfl (xei rfl rfl ?_))))))))
 refine xai rfl (xai rfl (dA (xL6 1 zaf rfl rfl (xmi rfl (TL.callD [0] [0] (zgP hM hl) ⟨rfl,rfl,rfl,trivial⟩ ⟨rfl,trivial⟩ zg5 rfl rfl rfl rfl rfl trivial (dA (xL6 1 zaf rfl rfl (xmi rfl ?_))))))))
 refine TL.callD [0] [0] (zgP hM hl) ⟨rfl,rfl,rfl,trivial⟩ ⟨rfl,trivial⟩ zg5 rfl rfl rfl rfl rfl trivial (dA (xmi rfl (xmi rfl (xai rfl (xai rfl (dR ?_))))))
 refine FQ.ret2 (v:=(.int _ _)) (x:=(.int _ _)) (Bs:=[A _]) [0] rfl rfl rfl rfl ⟨rfl,trivial⟩ ?_
 exact ⟨rfl,rfl⟩
theorem zpU {S:Type} [MemLike S] {mt:TypeId} {mv:Value} {A:S→Assn} (hM:MemI Tryz.prog mt mv A) {l:Lay} (hl:l.Ok) {p:Pen} {σ:S} {x y:Int}:FnD Tryz.prog 193 [zbh l mt mv p,.int .i64 x,.int .i64 y] [A σ] (.bool (zfV l σ x y)) [A (zlv l σ x y)]:=by
 refine Fn.enter (Tryz.func193) rfl rfl (fun w0 R=>?_)
 refine sA (xB 1 rfl (fun bk1=>(xaf rfl (dS (TC.draw [(0,true),(1,true),(2,true),(3,true),(4,true),(6,true),(7,true),(9,true),(10,true),(11,true),(12,true),(13,true),(15,true),(16,true),(5,false),(8,false),(14,false),(17,false),(18,true),(19,true)] [1] fc_m (by kernel_rfl) (xf 3 zaY rfl (xlc 1 zbK rfl rfl (xf 0 zaB rfl (xL3 1 zaa rfl rfl ?_)))))))))
 refine xmi rfl (TL.ncI rfl rfl rfl (xmc rfl (xf 3 zaY rfl (xlc 1 zbK rfl rfl (xf 0 zaB rfl (xL3 1 zaa rfl rfl (xmi rfl (TL.ncI rfl rfl rfl ?_))))))))
 refine xmc rfl (TL.callD [] [] (zaE hl) ⟨rfl,rfl,rfl,trivial⟩ trivial zbm rfl rfl rfl rfl rfl (kL1 rfl trivial) (TL.mload 0 hM rfl rfl rfl rfl rfl (kL1 rfl trivial) (TL.callD [] [] (zaE hl) ⟨rfl,rfl,rfl,trivial⟩ trivial zbm rfl rfl rfl rfl rfl (kL1 rfl trivial) (TL.mload 0 hM rfl rfl rfl rfl rfl (kL1 rfl trivial) (xai rfl (xai rfl (dA (xmi rfl ?_))))))))
 refine xmi rfl (TL.gtr rfl rfl rfl rfl (fun q1=>?_) (fun q1=>?_))
 refine xmt rfl (xo rfl (xo rfl (xo rfl (xo rfl (xo rfl (xo rfl (xo rfl (xo rfl ?_))))))))
 refine xpT rfl (xat rfl (dR ?_))
 refine FQ.ret1 (v:=(.bool true)) (Bs:=[A _]) [0] rfl rfl rfl ⟨rfl,trivial⟩ ?_
 first | exact ⟨(by unfold zfV; dsimp only; rw [if_pos q1]),rfl⟩ | exact ⟨(by unfold zfV; dsimp only; rw [if_neg q1,if_pos q2]),rfl⟩ | exact ⟨(by unfold zfV; dsimp only; rw [if_neg q1,if_neg q2]),rfl⟩
 refine xmf rfl (xmi rfl (xmi rfl (TL.eql rfl rfl rfl rfl (fun q2=>?_) (fun q2=>?_))))
 refine xmt rfl (xmi rfl (xmi rfl (TL.lssV rfl rfl rfl rfl (TL.pickT (.bool _) rfl rfl rfl rfl (TL.pickF (.bool _) rfl rfl rfl rfl (xab rfl (dR ?_)))))))
 refine FQ.ret1 (v:=(.bool _)) (Bs:=[A _]) [0] rfl rfl rfl ⟨rfl,trivial⟩ ?_
 first | exact ⟨(by unfold zfV; dsimp only; rw [if_pos q1]),rfl⟩ | exact ⟨(by unfold zfV; dsimp only; rw [if_neg q1,if_pos q2]),rfl⟩ | exact ⟨(by unfold zfV; dsimp only; rw [if_neg q1,if_neg q2]),rfl⟩
 refine xmf rfl (xo rfl (xo rfl (xo rfl (xpF rfl (xpF rfl (xaf rfl (dR ?_)))))))
 refine FQ.ret1 (v:=(.bool false)) (Bs:=[A _]) [0] rfl rfl rfl ⟨rfl,trivial⟩ ?_
 first | exact ⟨(by unfold zfV; dsimp only; rw [if_pos q1]),rfl⟩ | exact ⟨(by unfold zfV; dsimp only; rw [if_neg q1,if_pos q2]),rfl⟩ | exact ⟨(by unfold zfV; dsimp only; rw [if_neg q1,if_neg q2]),rfl⟩
theorem zpk {S:Type} [MemLike S] {mt:TypeId} {mv:Value} {A:S→Assn} (hM:MemI Tryz.prog mt mv A) {l:Lay} (hl:l.Ok) {p:Pen} {σ:S} {a b r:Int} {k:Nat} {σ2:S} (h:merge l p k σ a b=some (r,σ2)):FnD Tryz.prog 185 [zbh l mt mv p,.int .i64 a,.int .i64 b] [A σ] (.int .i64 r) [A σ2]:=by
 induction k generalizing σ a b r σ2
 case zero=>simp [merge] at h
 case succ k ih =>
  refine Fn.enter (Tryz.func185) rfl rfl (fun w0 R=>?_)
  refine sA (xB 1 rfl (fun bk1=>(xai rfl (dS (TC.block (sA (xmi rfl (TL.eql rfl rfl rfl rfl (fun q1=>?_) (fun q1=>?_)))))))))
  refine xat rfl (dT rfl (xmi rfl (xai rfl (dR (TQ.blockRet (TQ.thenRet ?_))))))
  refine FQ.ret1 (v:=(.int _ _)) (Bs:=[A _]) [0] rfl rfl rfl ⟨rfl,trivial⟩ ?_
  rw [merge,if_pos q1] at h; cases h; exact ⟨rfl,rfl⟩
  refine xaf rfl (TL.done (TQ.then (TC.condF rfl (sA (xmi rfl (TL.eql rfl rfl rfl rfl (fun q2=>?_) (fun q2=>?_)))))))
  refine xat rfl (dT rfl (xmi rfl (xai rfl (dR (TQ.blockRet (TQ.thenRet ?_))))))
  refine FQ.ret1 (v:=(.int _ _)) (Bs:=[A _]) [0] rfl rfl rfl ⟨rfl,trivial⟩ ?_
  rw [merge,if_neg q1,if_pos q2] at h; cases h; exact ⟨rfl,rfl⟩
  refine xaf rfl (TL.done (TQ.then (TC.condF rfl (sA (xL6 1 zaf rfl rfl (xmi rfl (xmi rfl (TL.callD [0] [0] (zpU hM hl) ⟨rfl,rfl,rfl,trivial⟩ ⟨rfl,trivial⟩ zrO rfl rfl rfl rfl rfl trivial ?_))))))))
  refine TL.cases rfl (fun q3=>?_) (fun q3=>?_)
  refine xat rfl (TL.done (TQ.then (TC.condT rfl (TC.seq (TC.draw [(0,true),(1,true),(2,true),(3,true),(4,true),(6,true),(5,false),(7,false),(8,false)] [1] fc_m (by kernel_rfl) (xL6 1 zaf rfl rfl (xmi rfl (xL6 1 zaf rfl rfl ?_))))))))
  refine xL6 1 zaf rfl rfl (xmi rfl (xmi rfl (TL.callD [0] [0] (zdE hM hl) ⟨rfl,rfl,rfl,trivial⟩ ⟨rfl,trivial⟩ zdR rfl rfl rfl rfl rfl (kL1 rfl trivial) ?_)))
  rw [merge,if_neg q1,if_neg q2] at h
  dsimp only at h
  rw [if_pos q3] at h
  obtain ⟨⟨c,σ3⟩,h1,h9⟩:=Option.bind_eq_some_iff.1 h
  refine TL.callD [0] [0] (ih h1) ⟨rfl,rfl,rfl,trivial⟩ ⟨rfl,trivial⟩ zkl rfl rfl rfl rfl rfl (kL1 rfl trivial) (TL.callD [0] [0] (zkF hM hl) ⟨rfl,rfl,rfl,rfl,trivial⟩ ⟨rfl,trivial⟩ zir rfl rfl rfl rfl rfl (kL1 rfl trivial) (dA (xmi rfl (xai rfl (dR (TQ.blockRet (TQ.thenRet ?_)))))))
  refine FQ.ret1 (v:=(.int _ _)) (Bs:=[A _]) [0] rfl rfl rfl ⟨rfl,trivial⟩ ?_
  cases h9; exact ⟨rfl,rfl⟩
  refine xaf rfl (TL.done (TQ.then (TC.condF rfl (TC.skip (TQ.inBlock (TQ.then (TC.seq (TC.draw [(0,true),(1,true),(2,true),(3,true),(4,true),(5,true),(6,false),(7,false),(8,false)] [1] fc_m (by kernel_rfl) ?_))))))))
  refine xL6 1 zaf rfl rfl (xmi rfl (xL6 1 zaf rfl rfl (xmi rfl (xL6 1 zaf rfl rfl (xmi rfl (TL.callD [0] [0] (zdE hM hl) ⟨rfl,rfl,rfl,trivial⟩ ⟨rfl,trivial⟩ zdR rfl rfl rfl rfl rfl (kL1 rfl trivial) ?_))))))
  rw [merge,if_neg q1,if_neg q2] at h
  dsimp only at h
  rw [if_neg (by rw [q3]; decide)] at h
  obtain ⟨⟨c,σ3⟩,h1,h9⟩:=Option.bind_eq_some_iff.1 h
  refine TL.callD [0] [0] (ih h1) ⟨rfl,rfl,rfl,trivial⟩ ⟨rfl,trivial⟩ zkl rfl rfl rfl rfl rfl (kL1 rfl trivial) (TL.callD [0] [0] (zkF hM hl) ⟨rfl,rfl,rfl,rfl,trivial⟩ ⟨rfl,trivial⟩ zir rfl rfl rfl rfl rfl (kL1 rfl trivial) (dA (xmi rfl (xai rfl (dR ?_)))))
  refine FQ.ret1 (v:=(.int _ _)) (Bs:=[A _]) [0] rfl rfl rfl ⟨rfl,trivial⟩ ?_
  cases h9; exact ⟨rfl,rfl⟩
theorem zfc {S:Type} [MemLike S] {mt:TypeId} {mv:Value} {A:S→Assn} (hM:MemI Tryz.prog mt mv A) {l:Lay} (hl:l.Ok) {p:Pen} {σ:S} {a b r:Int} {k:Nat} {σ2:S} (h:zeA l p k σ a b=some (r,σ2)):FnD Tryz.prog 171 [zbh l mt mv p,.int .i64 a,.int .i64 b] [A σ] (.int .i64 r) [A σ2]:=by
 obtain ⟨⟨c,σ3⟩,h1,h9⟩:=Option.bind_eq_some_iff.1 h
 cases h9
 refine Fn.enter (Tryz.func171) rfl rfl (fun w0 R=>?_)
 refine sA (xB 1 rfl (fun bk1=>(xai rfl (dA (xL6 1 zaf rfl rfl (xmi rfl (xmi rfl (TL.callD [0] [0] (zpk hM hl h1) ⟨rfl,rfl,rfl,trivial⟩ ⟨rfl,trivial⟩ zkl rfl rfl rfl rfl rfl trivial (xai rfl ?_)))))))))
 refine dA (xL6 1 zaf rfl rfl (xmi rfl (TL.callD [0] [0] (zgP hM hl) ⟨rfl,rfl,rfl,trivial⟩ ⟨rfl,trivial⟩ zg5 rfl rfl rfl rfl rfl trivial (dA (xmi rfl (xai rfl (dR ?_)))))))
 refine FQ.ret1 (v:=(.int _ _)) (Bs:=[A _]) [0] rfl rfl rfl ⟨rfl,trivial⟩ ?_
 exact ⟨rfl,rfl⟩
theorem zm4 {S:Type} [MemLike S] {mt:TypeId} {mv:Value} {A:S→Assn} (hM:MemI Tryz.prog mt mv A) {l:Lay} (hl:l.Ok) {p:Pen} {σ:S} {x m:Int} {k:Nat} {σ2:S} (h0:0≤m) (h:zgM l k σ x m true=some σ2):FnD Tryz.prog 173 [zbh l mt mv p,.int .i64 x,.int .i64 m,.bool true] [A σ] (.tuple #[]) [A σ2]:=by
 unfold zgM at h
 dsimp only [zig] at h
 simp only [if_true,Bool.false_eq_true,if_false] at h
 refine Fn.enter (Tryz.func173) rfl rfl (fun w0 R=>?_)
 refine sA (xB 1 rfl (fun bk1=>(dS (TC.draw [(0,true),(1,true),(3,true),(4,true),(2,false),(5,true),(6,true)] [1] fc_m (by kernel_rfl) (xL6 1 zaf rfl rfl (xmi rfl (xmi rfl (TL.shl _ rfl rfl (by omega) rfl rfl rfl (TL.callD [0] [0] (zem hM hl) ⟨rfl,rfl,trivial⟩ ⟨rfl,trivial⟩ zfM rfl rfl rfl rfl rfl (kL1 rfl trivial) ?_)))))))))
 refine TL.andNot _ rfl rfl rfl rfl rfl (xai rfl (dB (xmt rfl (TL.done (TQ.then (TC.condT rfl (TC.region (xmi rfl ?_))))))))
 refine xmi rfl (TL.shl _ rfl rfl (by omega) rfl rfl rfl (TL.or _ rfl rfl rfl rfl rfl (xai rfl (dA (xL6 1 zaf rfl rfl (xmi rfl (xmi rfl (TL.callD [0] [0] (ze3 hM hl) ⟨rfl,rfl,rfl,trivial⟩ ⟨rfl,trivial⟩ zg2 rfl rfl rfl rfl rfl trivial ?_))))))))
 refine dA (xL6 1 zaf rfl rfl (xmi rfl (TL.callD [0] [0] (zdv hM hl) ⟨rfl,rfl,trivial⟩ ⟨rfl,trivial⟩ zfO rfl rfl rfl rfl rfl trivial (xai rfl (dK (TC.loopK (X:=Nat×S×Int) [4] [1] (fun y=>[(9,.int .i64 y.2.2)]) (fun y=>[(0,A y.2.1)]) (fun y=>zb8 l y.1 y.2.1 y.2.2=some σ2) (fun y=>y.1) ((k,_,_)) h ⟨rfl,trivial⟩ ⟨rfl,trivial⟩ (fun y hI=>?_)))))))
 obtain ⟨k,σ1,z⟩:=y
 rcases k with _ | k
 ·simp [zb8] at hI
 dsimp only at hI
 refine TC.sub (env':=[(9,_),(4,_)]) (L':=[(0,_),(1,_)]) ⟨rfl,rfl,trivial⟩ ⟨rfl,rfl,trivial⟩ (sB (xmi rfl (TL.neq rfl rfl rfl rfl (fun q1=>?_) (fun q1=>?_))))
 refine TL.done (TQ.then (TC.condT rfl (TC.skip (TQ.then (TC.seq (TC.block (TC.draw [(0,true),(1,true),(2,true),(3,true),(4,false),(5,false)] [1] fc_m (by kernel_rfl) (xL6 1 zaf rfl rfl ?_))))))))
 refine xmi rfl (xL6 1 zaf rfl rfl (xmi rfl (TL.callD [0] [0] (zem hM hl) ⟨rfl,rfl,trivial⟩ ⟨rfl,trivial⟩ zfM rfl rfl rfl rfl rfl (kL1 rfl trivial) (TL.callD [0] [0] (ze3 hM hl) ⟨rfl,rfl,rfl,trivial⟩ ⟨rfl,trivial⟩ zg2 rfl rfl rfl rfl rfl (kL1 rfl trivial) (dI (xL6 1 zaf rfl rfl (xmi rfl (TL.callD [0] [0] (zdv hM hl) ⟨rfl,rfl,trivial⟩ ⟨rfl,trivial⟩ zfO rfl rfl rfl rfl rfl trivial ?_))))))))
 refine xai rfl (TL.done (TQ.roundK ((k,_,_)) ⟨(by rw [zb8,if_pos q1] at hI; exact hI),Nat.lt_succ_self _⟩ ⟨rfl,trivial⟩ ⟨rfl,trivial⟩ (kE1 rfl trivial) (kL1 rfl trivial)))
 refine TL.done (TQ.then (TC.condF rfl (TC.exit (TQ.thenExit (TQ.thenExit (TQ.blockHere ?_))))))
 refine FQ.end0 (Bs:=[A _]) [0] rfl rfl ⟨rfl,trivial⟩ ?_
 rw [zb8,if_neg q1] at hI; cases hI; exact ⟨rfl,rfl⟩
theorem zlO {S:Type} [MemLike S] {mt:TypeId} {mv:Value} {A:S→Assn} (hM:MemI Tryz.prog mt mv A) {l:Lay} (hl:l.Ok) {p:Pen} {σ:S} {x m:Int} {k:Nat} {σ2:S} (h0:0≤m) (h:zgM l k σ x m false=some σ2):FnD Tryz.prog 173 [zbh l mt mv p,.int .i64 x,.int .i64 m,.bool false] [A σ] (.tuple #[]) [A σ2]:=by
 unfold zgM at h
 dsimp only [zig] at h
 simp only [if_true,Bool.false_eq_true,if_false] at h
 refine Fn.enter (Tryz.func173) rfl rfl (fun w0 R=>?_)
 refine sA (xB 1 rfl (fun bk1=>(dS (TC.draw [(0,true),(1,true),(3,true),(4,true),(2,false),(5,true),(6,true)] [1] fc_m (by kernel_rfl) (xL6 1 zaf rfl rfl (xmi rfl (xmi rfl (TL.shl _ rfl rfl (by omega) rfl rfl rfl (TL.callD [0] [0] (zem hM hl) ⟨rfl,rfl,trivial⟩ ⟨rfl,trivial⟩ zfM rfl rfl rfl rfl rfl (kL1 rfl trivial) ?_)))))))))
 refine TL.andNot _ rfl rfl rfl rfl rfl (xai rfl (dB (xmf rfl (dF rfl (xL6 1 zaf rfl rfl (xmi rfl (xmi rfl (TL.callD [0] [0] (ze3 hM hl) ⟨rfl,rfl,rfl,trivial⟩ ⟨rfl,trivial⟩ zg2 rfl rfl rfl rfl rfl trivial ?_))))))))
 refine dA (xL6 1 zaf rfl rfl (xmi rfl (TL.callD [0] [0] (zdv hM hl) ⟨rfl,rfl,trivial⟩ ⟨rfl,trivial⟩ zfO rfl rfl rfl rfl rfl trivial (xai rfl (dK (TC.loopK (X:=Nat×S×Int) [4] [1] (fun y=>[(9,.int .i64 y.2.2)]) (fun y=>[(0,A y.2.1)]) (fun y=>zb8 l y.1 y.2.1 y.2.2=some σ2) (fun y=>y.1) ((k,_,_)) h ⟨rfl,trivial⟩ ⟨rfl,trivial⟩ (fun y hI=>?_)))))))
 obtain ⟨k,σ1,z⟩:=y
 rcases k with _ | k
 ·simp [zb8] at hI
 dsimp only at hI
 refine TC.sub (env':=[(9,_),(4,_)]) (L':=[(0,_),(1,_)]) ⟨rfl,rfl,trivial⟩ ⟨rfl,rfl,trivial⟩ (sB (xmi rfl (TL.neq rfl rfl rfl rfl (fun q1=>?_) (fun q1=>?_))))
 refine TL.done (TQ.then (TC.condT rfl (TC.skip (TQ.then (TC.seq (TC.block (TC.draw [(0,true),(1,true),(2,true),(3,true),(4,false),(5,false)] [1] fc_m (by kernel_rfl) (xL6 1 zaf rfl rfl ?_))))))))
 refine xmi rfl (xL6 1 zaf rfl rfl (xmi rfl (TL.callD [0] [0] (zem hM hl) ⟨rfl,rfl,trivial⟩ ⟨rfl,trivial⟩ zfM rfl rfl rfl rfl rfl (kL1 rfl trivial) (TL.callD [0] [0] (ze3 hM hl) ⟨rfl,rfl,rfl,trivial⟩ ⟨rfl,trivial⟩ zg2 rfl rfl rfl rfl rfl (kL1 rfl trivial) (dI (xL6 1 zaf rfl rfl (xmi rfl (TL.callD [0] [0] (zdv hM hl) ⟨rfl,rfl,trivial⟩ ⟨rfl,trivial⟩ zfO rfl rfl rfl rfl rfl trivial ?_))))))))
 refine xai rfl (TL.done (TQ.roundK ((k,_,_)) ⟨(by rw [zb8,if_pos q1] at hI; exact hI),Nat.lt_succ_self _⟩ ⟨rfl,trivial⟩ ⟨rfl,trivial⟩ (kE1 rfl trivial) (kL1 rfl trivial)))
 refine TL.done (TQ.then (TC.condF rfl (TC.exit (TQ.thenExit (TQ.thenExit (TQ.blockHere ?_))))))
 refine FQ.end0 (Bs:=[A _]) [0] rfl rfl ⟨rfl,trivial⟩ ?_
 rw [zb8,if_neg q1] at hI; cases hI; exact ⟨rfl,rfl⟩
theorem zm5 {S:Type} [MemLike S] {mt:TypeId} {mv:Value} {A:S→Assn} (hM:MemI Tryz.prog mt mv A) {l:Lay} (hl:l.Ok) {p:Pen} {σ:S} {x m:Int} {on:Bool} {k:Nat} {σ2:S} (h0:0≤m) (h:zgM l k σ x m on=some σ2):FnD Tryz.prog 173 [zbh l mt mv p,.int .i64 x,.int .i64 m,.bool on] [A σ] (.tuple #[]) [A σ2]:=by
 cases on
 ·exact zlO hM hl h0 h
 ·exact zm4 hM hl h0 h
theorem zm3 {S:Type} [MemLike S] {mt:TypeId} {mv:Value} {A:S→Assn} (hM:MemI Tryz.prog mt mv A) {l:Lay} (hl:l.Ok) {p:Pen} {σ:S} {x m:Int} (h0:0≤m):FnD Tryz.prog 184 [zbh l mt mv p,.int .i64 x,.int .i64 m] [A σ] (.bool (zhz l σ x m)) [A (zfY l σ x)]:=by
 refine Fn.enter (Tryz.func184) rfl rfl (fun w0 R=>?_)
 refine sA (xB 1 rfl (fun bk1=>(xaf rfl (dA (xL6 1 zaf rfl rfl (xmi rfl (TL.callD [0] [0] (zem hM hl) ⟨rfl,rfl,trivial⟩ ⟨rfl,trivial⟩ zfM rfl rfl rfl rfl rfl trivial (xmi rfl (TL.shr _ rfl rfl (by omega) rfl rfl rfl ?_)))))))))
 refine TL.and _ rfl rfl rfl rfl rfl (TL.eqlV rfl rfl rfl rfl (xab rfl (dR ?_)))
 refine FQ.ret1 (v:=(.bool _)) (Bs:=[A _]) [0] rfl rfl rfl ⟨rfl,trivial⟩ ?_
 exact ⟨rfl,rfl⟩
theorem zlr {S:Type} [MemLike S] {mt:TypeId} {mv:Value} {A:S→Assn} (hM:MemI Tryz.prog mt mv A) {l:Lay} (hl:l.Ok) {p:Pen} {σ:S} {i u r:Int} {k:Nat} {σ2:S} (h:zhf l p k σ i u=some (r,σ2)):FnD Tryz.prog 172 [zbh l mt mv p,.int .i64 i,.int .i64 u] [A σ] (.int .i64 r) [A σ2]:=by
 unfold zhf at h
 dsimp only at h
 obtain ⟨⟨a,σa⟩,h1,h⟩:=Option.bind_eq_some_iff.1 h
 obtain ⟨⟨j,σb⟩,h2,h⟩:=Option.bind_eq_some_iff.1 h
 obtain ⟨⟨s,σc⟩,h3,h4⟩:=Option.bind_eq_some_iff.1 h
 dsimp only at h1 h2 h3 h4
 refine Fn.enter (Tryz.func172) rfl rfl (fun w0 R=>?_)
 refine sA (xB 1 rfl (fun bk1=>(xai rfl (dA (xf 0 zaH rfl (xf 0 zaB rfl (xL3 1 zaa rfl rfl (xmi rfl (xmi rfl ?_)))))))))
 refine TL.callD [] [] (zdo hl) ⟨rfl,rfl,rfl,trivial⟩ trivial zhM rfl rfl rfl rfl rfl trivial (xai rfl (dS (TC.draw [(0,true),(1,true),(2,true),(3,true),(4,true),(6,true),(7,true),(8,true),(5,false),(9,false),(10,false),(11,true),(12,true),(13,true),(14,true),(15,true)] [1] fc_m (by kernel_rfl) (xf 0 zaH rfl (xL6 1 zaf rfl rfl (xf 0 zaH rfl (xL6 1 zaf rfl rfl (xmi rfl ?_))))))))
 refine xf 0 zaH rfl (xL6 1 zaf rfl rfl (xmi rfl (TL.callD [0] [0] (zh3 hM hl h1) ⟨rfl,rfl,trivial⟩ ⟨rfl,trivial⟩ zlc rfl rfl rfl rfl rfl (kL1 rfl trivial) (TL.callD [0] [0] (zps hM hl h2) ⟨rfl,rfl,trivial⟩ ⟨rfl,trivial⟩ zrT rfl rfl rfl rfl rfl (kL1 rfl trivial) (TL.callD [0] [0] (zmv hM hl h3) ⟨rfl,rfl,rfl,trivial⟩ ⟨rfl,trivial⟩ zrS rfl rfl rfl rfl rfl (kL1 rfl trivial) (xmu rfl (xei rfl rfl (xei rfl rfl ?_))))))))
 refine xai rfl (xai rfl (dA (xf 0 zaH rfl (xL6 1 zaf rfl rfl (xmi rfl (xmi rfl (TL.callD [0] [0] (zfc hM hl h4) ⟨rfl,rfl,rfl,trivial⟩ ⟨rfl,trivial⟩ zit rfl rfl rfl rfl rfl trivial (xai rfl ?_))))))))
 refine dR ?_
 refine FQ.ret1 (v:=(.int _ _)) (Bs:=[A _]) [0] rfl rfl rfl ⟨rfl,trivial⟩ ?_
 exact ⟨rfl,rfl⟩
theorem zq1 {S:Type} [MemLike S] {mt:TypeId} {mv:Value} {A:S→Assn} (hM:MemI Tryz.prog mt mv A) {l:Lay} (hl:l.Ok) {p:Pen} {σ:S} {i u v:Int} {b:Bool} {k:Nat} {σ2:S} (h:same l k σ i u v=some (b,σ2)):FnD Tryz.prog 100 [zbh l mt mv p,.int .i64 i,.int .i64 u,.int .i64 v] [A σ] (.bool b) [A σ2]:=by
 unfold same at h
 obtain ⟨⟨a,σa⟩,h1,h⟩:=Option.bind_eq_some_iff.1 h
 obtain ⟨⟨c,σb⟩,h2,h⟩:=Option.bind_eq_some_iff.1 h
 dsimp only at h1 h2 h
 cases h
 refine Fn.enter (Tryz.func100) rfl rfl (fun w0 R=>?_)
 refine sA (xB 1 rfl (fun bk1=>(xaf rfl (dS (TC.draw [(0,true),(1,true),(2,true),(3,true),(4,true),(5,true),(6,true),(9,true),(10,true),(11,true),(12,true),(13,true),(14,true),(15,true),(7,false),(8,false),(16,false),(17,false),(18,true),(19,true)] [1] fc_m (by kernel_rfl) (xf 0 zaH rfl (xL6 1 zaf rfl rfl (xf 0 zaH rfl (xf 0 zaB rfl ?_)))))))))
 refine xL3 1 zaa rfl rfl (xmi rfl (xmi rfl (xf 0 zaH rfl (xL6 1 zaf rfl rfl (xf 0 zaH rfl (xf 0 zaB rfl (xL3 1 zaa rfl rfl (xmi rfl ?_))))))))
 refine xmi rfl (TL.callD [] [] (zdo hl) ⟨rfl,rfl,rfl,trivial⟩ trivial zhM rfl rfl rfl rfl rfl (kL1 rfl trivial) (TL.callD [0] [0] (zh3 hM hl h1) ⟨rfl,rfl,trivial⟩ ⟨rfl,trivial⟩ zlc rfl rfl rfl rfl rfl (kL1 rfl trivial) (TL.callD [] [] (zdo hl) ⟨rfl,rfl,rfl,trivial⟩ trivial zhM rfl rfl rfl rfl rfl (kL1 rfl trivial) (TL.callD [0] [0] (zh3 hM hl h2) ⟨rfl,rfl,trivial⟩ ⟨rfl,trivial⟩ zlc rfl rfl rfl rfl rfl (kL1 rfl trivial) (TL.eqlV rfl rfl rfl rfl (xab rfl (dR ?_)))))))
 refine FQ.ret1 (v:=(.bool _)) (Bs:=[A _]) [0] rfl rfl rfl ⟨rfl,trivial⟩ ?_
 exact ⟨rfl,rfl⟩
theorem zpO {mt:TypeId} {mv:Value} {l:Lay} (hl:l.Ok) {p:Pen} {i s:Int}:FnD Tryz.prog 170 [zbh l mt mv p,.int .i64 i,.int .i64 s] [] (.tuple #[.int .i64 (l.arc s i 0),.int .i64 (l.arc s i 1)]) []:=by
 refine Fn.enter (Tryz.func170) rfl rfl (fun w0 R=>?_)
 refine sA (xB 0 rfl (fun bk0=>(xai rfl (xai rfl (dS (TC.draw [(0,true),(1,true),(2,true),(3,true),(4,true),(6,true),(7,true),(8,true),(9,true),(10,true),(5,false),(11,false),(12,true),(13,true)] [0] fc_m (by kernel_rfl) (xf 0 zaH rfl (xf 0 zaB rfl (xL3 0 zaa rfl rfl ?_)))))))))
 refine xmi rfl (xmi rfl (xf 0 zaH rfl (xf 0 zaB rfl (xL3 0 zaa rfl rfl (xmi rfl (xmi rfl (TL.callD [] [] (zoH hl) ⟨rfl,rfl,rfl,rfl,trivial⟩ trivial zkm rfl rfl rfl rfl rfl (kL1 rfl trivial) (TL.callD [] [] (zoH hl) ⟨rfl,rfl,rfl,rfl,trivial⟩ trivial zkm rfl rfl rfl rfl rfl (kL1 rfl trivial) ?_))))))))
 refine xai rfl (xai rfl (dR ?_))
 refine FQ.ret2 (v:=(.int _ _)) (x:=(.int _ _)) (Bs:=[]) [] rfl rfl rfl rfl trivial ?_
 exact ⟨rfl,rfl⟩
theorem zrp {S:Type} [MemLike S] {mt:TypeId} {mv:Value} {A:S→Assn} (hM:MemI Tryz.prog mt mv A) {l:Lay} (hl:l.Ok) {p:Pen} {σ:S} {i s u v r:Int} {k:Nat} {σ2:S} (h:link l p k σ i s u v=some (r,σ2)):FnD Tryz.prog 141 [zbh l mt mv p,.int .i64 i,.int .i64 s,.int .i64 u,.int .i64 v] [A σ] (.int .i64 r) [A σ2]:=by
 unfold link at h
 obtain ⟨⟨a,σa⟩,h1,h⟩:=Option.bind_eq_some_iff.1 h
 obtain ⟨⟨x,σb⟩,h2,h⟩:=Option.bind_eq_some_iff.1 h
 obtain ⟨⟨b,σc⟩,h3,h⟩:=Option.bind_eq_some_iff.1 h
 obtain ⟨⟨y,σd⟩,h4,h5⟩:=Option.bind_eq_some_iff.1 h
 dsimp only at h1 h2 h3 h4 h5
 refine Fn.enter (Tryz.func141) rfl rfl (fun w0 R=>?_)
 refine sA (xB 1 rfl (fun bk1=>(xai rfl (dA (xL6 1 zdT rfl rfl (xmi rfl (xmi rfl (TL.callD [] [] (zpO hl) ⟨rfl,rfl,rfl,trivial⟩ trivial zrU rfl rfl rfl rfl rfl trivial (xmu rfl ?_)))))))))
 refine xei rfl rfl (xei rfl rfl (xai rfl (xai rfl (dS (TC.draw [(0,true),(1,true),(2,true),(3,true),(4,true),(6,true),(5,false),(7,false),(8,true)] [1] fc_m (by kernel_rfl) (xf 0 zaH rfl (xL6 1 zaf rfl rfl (xL6 1 zdT rfl rfl ?_))))))))
 refine xmi rfl (xmi rfl (xmi rfl (TL.callD [0] [0] (zlr hM hl h1) ⟨rfl,rfl,rfl,trivial⟩ ⟨rfl,trivial⟩ znN rfl rfl rfl rfl rfl (kL1 rfl trivial) (TL.callD [0] [0] (zfc hM hl h2) ⟨rfl,rfl,rfl,trivial⟩ ⟨rfl,trivial⟩ zit rfl rfl rfl rfl rfl (kL1 rfl trivial) (xai rfl (dS (TC.draw [(0,true),(1,true),(2,true),(3,true),(4,true),(5,true),(6,false),(7,false),(8,true)] [1] fc_m (by kernel_rfl) (xf 0 zaH rfl ?_))))))))
 refine xL6 1 zaf rfl rfl (xmi rfl (xL6 1 zdT rfl rfl (xmi rfl (xmi rfl (TL.callD [0] [0] (zlr hM hl h3) ⟨rfl,rfl,rfl,trivial⟩ ⟨rfl,trivial⟩ znN rfl rfl rfl rfl rfl (kL1 rfl trivial) (TL.callD [0] [0] (zfc hM hl h4) ⟨rfl,rfl,rfl,trivial⟩ ⟨rfl,trivial⟩ zit rfl rfl rfl rfl rfl (kL1 rfl trivial) (xai rfl (dA ?_))))))))
 refine xf 0 zaH rfl (xL6 1 zaf rfl rfl (xmi rfl (xmi rfl (TL.callD [0] [0] (zfc hM hl h5) ⟨rfl,rfl,rfl,trivial⟩ ⟨rfl,trivial⟩ zit rfl rfl rfl rfl rfl trivial (xai rfl (dR ?_))))))
 refine FQ.ret1 (v:=(.int _ _)) (Bs:=[A _]) [0] rfl rfl rfl ⟨rfl,trivial⟩ ?_
 exact ⟨rfl,rfl⟩
theorem zqB {b:Bool}:FnD Tryz.prog 137 [.bool b] [] (.int .u64 (bit b)) []:=by
 refine Fn.enter (Tryz.func137) rfl rfl (fun w0 R=>?_)
 refine sA (xai rfl (dB (xmb rfl (TL.cases rfl (fun q1=>?_) (fun q1=>?_)))))
 refine dT rfl (xai rfl (dRR ?_))
 refine FQ.ret1 (v:=(.int _ _)) (Bs:=[]) [] rfl rfl rfl trivial ?_
 cases b<;>first | exact ⟨rfl,rfl⟩ | (exfalso; simp at q1)
 refine dF rfl (xai rfl (dR ?_))
 refine FQ.ret1 (v:=(.int _ _)) (Bs:=[]) [] rfl rfl rfl trivial ?_
 cases b<;>first | exact ⟨rfl,rfl⟩ | (exfalso; simp at q1)
theorem znv {S:Type} [MemLike S] {mt:TypeId} {mv:Value} {A:S→Assn} (hM:MemI Tryz.prog mt mv A) {l:Lay} (hl:l.Ok) {σ:S} {u v:Int}:FnD Tryz.prog 73 [zjk l mt mv,.int .i64 u,.int .i64 v] [A σ] (.tuple #[.int .i64 (find l σ u v).slot,.bool (find l σ u v).tree,.bool (find l σ u v).ok]) [A (zpz l σ u v)]:=by
 refine Fn.enter (Tryz.func73) rfl rfl (fun w0 R=>?_)
 refine sA (xB 1 rfl (fun bk1=>(xai rfl (xaf rfl (xaf rfl (dS (TC.draw [(0,true),(1,true),(2,true),(3,true),(4,true),(5,true),(7,true),(8,true),(6,false),(9,false),(10,true)] [1] fc_m (by kernel_rfl) (xf 3 zbO rfl (xlc 1 zbK rfl rfl ?_)))))))))
 refine xf 0 za8 rfl (xL3 1 zaa rfl rfl (xmi rfl (xmi rfl (TL.ncI rfl rfl rfl (xmc rfl (TL.callD [] [] (zkq hl) ⟨rfl,rfl,rfl,trivial⟩ trivial zkp rfl rfl rfl rfl rfl (kL1 rfl trivial) (TL.mload 0 hM rfl rfl rfl rfl rfl (kL1 rfl trivial) (xai rfl ?_))))))))
 refine dB (xmi rfl (TL.eql rfl rfl rfl rfl (fun q1=>?_) (fun q1=>?_)))
 refine dT rfl (xai rfl (xaf rfl (xaf rfl (dRR ?_))))
 refine FQ.ret3 (v:=(.int _ _)) (x:=(.bool false)) (y:=(.bool false)) (Bs:=[A _]) [0] rfl rfl rfl rfl rfl ⟨rfl,trivial⟩ ?_
 first | exact ⟨(by unfold find; dsimp only; rw [if_pos q1]),rfl⟩ | exact ⟨(by unfold find; dsimp only; rw [if_neg q1]; rfl),rfl⟩
 refine dF rfl (xmi rfl (TL.shr _ rfl rfl (by decide) rfl rfl rfl (TL.conv _ rfl zeC zby (rfl) rfl rfl (TL.sub _ rfl rfl (rfl) rfl rfl (xmi rfl (TL.and _ rfl rfl rfl rfl rfl (TL.eqlV rfl rfl rfl rfl (xai rfl ?_))))))))
 refine xab rfl (xat rfl (dR ?_))
 refine FQ.ret3 (v:=(.int _ _)) (x:=(.bool _)) (y:=(.bool true)) (Bs:=[A _]) [0] rfl rfl rfl rfl rfl ⟨rfl,trivial⟩ ?_
 first | exact ⟨(by unfold find; dsimp only; rw [if_pos q1]),rfl⟩ | exact ⟨(by unfold find; dsimp only; rw [if_neg q1]; rfl),rfl⟩
theorem zsf {S:Type} [MemLike S] {mt:TypeId} {mv:Value} {A:S→Assn} (hM:MemI Tryz.prog mt mv A) {l:Lay} (hl:l.Ok) {σ:S} {s u v i:Int} {t:Bool}:FnD Tryz.prog 110 [zjk l mt mv,.int .i64 s,.int .i64 u,.int .i64 v,.int .i64 i,.bool t] [A σ] (.tuple #[]) [A (eput l σ s u v i t)]:=by
 refine Fn.enter (Tryz.func110) rfl rfl (fun w0 R=>?_)
 refine sA (xB 1 rfl (fun bk1=>(dS (TC.draw [(0,true),(1,true),(2,true),(3,true),(4,true),(6,true),(7,true),(8,true),(9,true),(10,true),(11,true),(12,true),(13,true),(14,true),(15,true),(16,true),(5,false),(17,false)] [1] fc_m (by kernel_rfl) (xf 3 zbO rfl (xlc 1 zbK rfl rfl (xf 0 za8 rfl (xL3 1 zaa rfl rfl (xmi rfl ?_)))))))))
 refine xmi rfl (xmi rfl (TL.min2 rfl rfl rfl rfl (TL.shl _ rfl rfl (by decide) rfl rfl rfl (xmi rfl (xmi rfl (TL.max2 rfl rfl rfl rfl (TL.or _ rfl rfl rfl rfl rfl (TL.conv _ rfl zeM zaX (rfl) rfl rfl ?_))))))))
 refine TL.ncI rfl rfl rfl (xmc rfl (TL.callD [] [] (zoe hl) ⟨rfl,rfl,trivial⟩ trivial zn2 rfl rfl rfl rfl rfl (kL1 rfl trivial) (TL.mstore 0 hM rfl rfl rfl (by first | exact zgn _ | exact zcY _ _ | exact MemLike.rng _ _ | decide | assumption) rfl rfl rfl (kL1 rfl trivial) (dS (TC.draw [(0,true),(1,true),(2,true),(3,true),(4,true),(6,true),(7,true),(8,true),(9,true),(5,false),(10,false)] [1] fc_m (by kernel_rfl) (xf 3 zbO rfl (xlc 1 zbK rfl rfl (xf 0 za8 rfl ?_))))))))
 refine xL3 1 zaa rfl rfl (xmi rfl (xmi rfl (TL.conv _ rfl zeM zaX (rfl) rfl rfl (TL.ncI rfl rfl rfl (xmc rfl (TL.callD [] [] (zk3 hl) ⟨rfl,rfl,trivial⟩ trivial zn1 rfl rfl rfl rfl rfl (kL1 rfl trivial) (TL.mstore 0 hM rfl rfl rfl (by first | exact zgn _ | exact zcY _ _ | exact MemLike.rng _ _ | decide | assumption) rfl rfl rfl (kL1 rfl trivial) (TL.done ?_))))))))
 refine TQ.then (TC.draw [(0,true),(1,true),(2,true),(3,true),(4,true),(5,true),(7,true),(8,true),(9,true),(10,true),(11,true),(14,true),(15,true),(6,false),(12,false),(13,true),(16,false)] [1] fc_m (by kernel_rfl) (xf 3 zbO rfl (xlc 1 zbK rfl rfl (xf 0 za8 rfl (xL3 1 zaa rfl rfl (xmi rfl (xmi rfl (xmi rfl ?_))))))))
 refine TL.add _ rfl rfl (rfl) rfl rfl (TL.conv _ rfl zeM zaX (rfl) rfl rfl (TL.shl _ rfl rfl (by decide) rfl rfl rfl (xmb rfl (TL.ncI rfl rfl rfl (xmc rfl (TL.callD [] [] (zkq hl) ⟨rfl,rfl,rfl,trivial⟩ trivial zkp rfl rfl rfl rfl rfl (kL1 rfl trivial) (TL.callD [] [] zqB ⟨rfl,trivial⟩ trivial zn0 rfl rfl rfl rfl rfl (kL1 rfl trivial) (TL.or _ rfl rfl rfl rfl rfl ?_))))))))
 refine TL.mstore 0 hM rfl rfl rfl (by first | exact zgn _ | exact zcY _ _ | exact MemLike.rng _ _ | decide | assumption) rfl rfl rfl (kL1 rfl trivial) (TL.done ?_)
 refine FQ.end0 (Bs:=[A _]) [0] rfl rfl ⟨rfl,trivial⟩ ?_
 exact ⟨rfl,rfl⟩
theorem zli {S:Type} [MemLike S] {mt:TypeId} {mv:Value} {A:S→Assn} (hM:MemI Tryz.prog mt mv A) {l:Lay} (hl:l.Ok) {σ:S} {s:Int}:FnD Tryz.prog 153 [zjk l mt mv,.int .i64 s] [A σ] (.tuple #[.int .i64 (zlZ l σ s),.int .i64 (zlY l σ s)]) [A (ziz l σ s)]:=by
 refine Fn.enter (Tryz.func153) rfl rfl (fun w0 R=>?_)
 refine sA (xB 1 rfl (fun bk1=>(xai rfl (xai rfl (dS (TC.draw [(0,true),(1,true),(2,true),(3,true),(4,true),(6,true),(7,true),(5,false),(8,false),(9,true),(10,true)] [1] fc_m (by kernel_rfl) (xf 3 zbO rfl (xlc 1 zbK rfl rfl (xf 0 za8 rfl ?_)))))))))
 refine xL3 1 zaa rfl rfl (xmi rfl (TL.ncI rfl rfl rfl (xmc rfl (TL.callD [] [] (zoe hl) ⟨rfl,rfl,trivial⟩ trivial zn2 rfl rfl rfl rfl rfl (kL1 rfl trivial) (TL.mload 0 hM rfl rfl rfl rfl rfl (kL1 rfl trivial) (TL.conv _ rfl zeC zby (rfl) rfl rfl (xai rfl (dA ?_))))))))
 refine xmi rfl (TL.shr _ rfl rfl (by decide) rfl rfl rfl (xmi rfl (TL.and _ rfl rfl rfl rfl rfl (xai rfl (xai rfl (dR ?_))))))
 refine FQ.ret2 (v:=(.int _ _)) (x:=(.int _ _)) (Bs:=[A _]) [0] rfl rfl rfl rfl ⟨rfl,trivial⟩ ?_
 exact ⟨rfl,rfl⟩
theorem zoi {S:Type} [MemLike S] {mt:TypeId} {mv:Value} {A:S→Assn} (hM:MemI Tryz.prog mt mv A) {l:Lay} (hl:l.Ok) {σ:S} {s:Int}:FnD Tryz.prog 125 [zjk l mt mv,.int .i64 s] [A σ] (edgV (eget l σ s)) [A (zeT l σ s)]:=by
 refine Fn.enter (Tryz.func125) rfl rfl (fun w0 R=>?_)
 refine sA (xB 1 rfl (fun bk1=>(TL.alloc 2 (cs:=#[.int .i64 0,.int .i64 0,.int .i64 0,.bool false]) ziq rfl rfl rfl (fun _=>trivial) (fun bk2=>(dA (xL4 1 zdf rfl rfl (xmi rfl (TL.callD [0] [0] (zli hM hl) ⟨rfl,rfl,trivial⟩ ⟨rfl,trivial⟩ znT rfl rfl rfl rfl rfl trivial (xmu rfl (xei rfl rfl ?_))))))))))
 refine xei rfl rfl (xai rfl (xai rfl (dA (xL4 1 zdf rfl rfl (xmi rfl (xmi rfl (TL.callD [0] [0] (znv hM hl) ⟨rfl,rfl,rfl,trivial⟩ ⟨rfl,trivial⟩ zql rfl rfl rfl rfl rfl trivial (xmu rfl ?_))))))))
 refine xei rfl rfl (TL.ext (.bool _) rfl rfl rfl rfl (TL.ext (.bool _) rfl rfl rfl rfl (xai rfl (xab rfl (xab rfl (dS (TC.draw [(0,true),(1,true),(2,true),(3,true),(4,true),(5,true),(6,true),(8,true),(9,true),(12,true),(7,false),(10,false),(11,true),(13,true),(14,false)] [1] fc_m (by kernel_rfl) (xmi rfl ?_))))))))
 refine xmi rfl (xf 3 zbO rfl (xlc 1 zbK rfl rfl (xf 0 za8 rfl (xL3 1 zaa rfl rfl (xmi rfl (TL.ncI rfl rfl rfl (xmc rfl (xmb rfl ?_))))))))
 refine TL.callD [] [] (zk3 hl) ⟨rfl,rfl,trivial⟩ trivial zn1 rfl rfl rfl rfl rfl (kL1 rfl trivial) (TL.mload 0 hM rfl rfl rfl rfl rfl (kL1 rfl trivial) (TL.conv _ rfl zeC zby (rfl) rfl rfl (TL.bld [.int .i64 0,.int .i64 0,.int .i64 0,.bool false] [(.int _ _),(.int _ _),(.int _ _),(.bool _)] [_,_,_,_] ziq zrH ⟨rfl,rfl,rfl,rfl,trivial⟩ ⟨rfl,rfl⟩ rfl rfl (TL.stW 2 4 [_,_,_,_] rfl rfl rfl rfl rfl rfl zfo rfl rfl (kL1 rfl trivial) (dR ?_)))))
 refine FQ.retG (rs:=[.cell 4 183]) [(.agg _)] (Bs:=[A _]) [0] rfl ⟨⟨_,_,_,_,_,2,rfl,rfl,.inr ⟨4,[_,_,_,_],zfo,rfl,rfl⟩⟩,trivial⟩ rfl rfl ⟨rfl,trivial⟩ ?_
 exact ⟨rfl,rfl⟩
theorem zpD {S:Type} [MemLike S] {mt:TypeId} {mv:Value} {A:S→Assn} (hM:MemI Tryz.prog mt mv A) {l:Lay} (hl:l.Ok) {σ:S} {s:Int} {t:Bool}:FnD Tryz.prog 140 [zjk l mt mv,.int .i64 s,.bool t] [A σ] (.tuple #[]) [A (zhl l σ s t)]:=by
 refine Fn.enter (Tryz.func140) rfl rfl (fun w0 R=>?_)
 refine sA (xB 1 rfl (fun bk1=>(dA (xL4 1 zdf rfl rfl (xmi rfl (TL.callD [0] [0] (zli hM hl) ⟨rfl,rfl,trivial⟩ ⟨rfl,trivial⟩ znT rfl rfl rfl rfl rfl trivial (xmu rfl (xei rfl rfl (xei rfl rfl ?_)))))))))
 refine xai rfl (xai rfl (TL.done (TQ.then (TC.draw [(0,true),(1,true),(2,true),(3,true),(4,true),(5,true),(7,true),(8,true),(9,true),(10,true),(11,true),(14,true),(15,true),(6,false),(12,false),(13,true),(16,false)] [1] fc_m (by kernel_rfl) (xf 3 zbO rfl (xlc 1 zbK rfl rfl (xf 0 za8 rfl (xL3 1 zaa rfl rfl ?_))))))))
 refine xmi rfl (xmi rfl (xmi rfl (TL.add _ rfl rfl (rfl) rfl rfl (TL.conv _ rfl zeM zaX (rfl) rfl rfl (TL.shl _ rfl rfl (by decide) rfl rfl rfl (xmb rfl (TL.ncI rfl rfl rfl (xmc rfl ?_))))))))
 refine TL.callD [] [] (zkq hl) ⟨rfl,rfl,rfl,trivial⟩ trivial zkp rfl rfl rfl rfl rfl (kL1 rfl trivial) (TL.callD [] [] zqB ⟨rfl,trivial⟩ trivial zn0 rfl rfl rfl rfl rfl (kL1 rfl trivial) (TL.or _ rfl rfl rfl rfl rfl (TL.mstore 0 hM rfl rfl rfl (by first | exact zgn _ | exact zcY _ _ | exact MemLike.rng _ _ | decide | assumption) rfl rfl rfl (kL1 rfl trivial) (TL.done ?_))))
 refine FQ.end0 (Bs:=[A _]) [0] rfl rfl ⟨rfl,trivial⟩ ?_
 exact ⟨rfl,rfl⟩
theorem zoM {S:Type} [MemLike S] {mt:TypeId} {mv:Value} {A:S→Assn} (hM:MemI Tryz.prog mt mv A) {l:Lay} (hl:l.Ok) {p:Pen} {σ:S} {c:Int}:FnD Tryz.prog 165 [adjV l mt mv p,.int .i64 c] [A σ] (.int .i64 (aget σ c)) [A (MemLike.ld σ c)]:=by
 refine Fn.enter (Tryz.func165) rfl rfl (fun w0 R=>?_)
 refine sA (xB 1 rfl (fun bk1=>(xai rfl (dA (xf 6 za7 rfl (xf 3 zbO rfl (xlc 1 zbK rfl rfl (xmi rfl (TL.mload 0 hM rfl rfl rfl rfl rfl trivial ?_)))))))))
 refine TL.conv _ rfl zeC zby (rfl) rfl rfl (xai rfl (dR ?_))
 refine FQ.ret1 (v:=(.int _ _)) (Bs:=[A _]) [0] rfl rfl rfl ⟨rfl,trivial⟩ ?_
 exact ⟨rfl,rfl⟩
theorem zhg {S:Type} [MemLike S] {mt:TypeId} {mv:Value} {A:S→Assn} (hM:MemI Tryz.prog mt mv A) {l:Lay} (hl:l.Ok) {p:Pen} {σ:S} {c v:Int}:FnD Tryz.prog 166 [adjV l mt mv p,.int .i64 c,.int .i64 v] [A σ] (.tuple #[]) [A (MemLike.st σ c (IntKind.u64.wrap v))]:=by
 refine Fn.enter (Tryz.func166) rfl rfl (fun w0 R=>?_)
 refine sA (xB 1 rfl (fun bk1=>(dG (xf 6 za7 rfl (xf 3 zbO rfl (xlc 1 zbK rfl rfl (xmi rfl (xmi rfl (TL.conv _ rfl zeM zaX (rfl) rfl rfl ?_)))))))))
 refine TL.mstore 0 hM rfl rfl rfl (by first | exact zgn _ | exact zcY _ _ | exact MemLike.rng _ _ | decide | assumption) rfl rfl rfl trivial (TL.done ?_)
 refine FQ.end0 (Bs:=[A _]) [0] rfl rfl ⟨rfl,trivial⟩ ?_
 exact ⟨rfl,rfl⟩
theorem zmx {s d:Int}:FnD Tryz.prog 139 [.int .i64 s,.int .i64 d] [] (.int .i64 (side s d)) []:=by
 refine Fn.enter (Tryz.func139) rfl rfl (fun w0 R=>?_)
 refine sA (xai rfl (dA (xmi rfl (TL.mul _ rfl rfl (rfl) rfl rfl (xmi rfl (TL.add _ rfl rfl (rfl) rfl rfl (TL.add _ rfl rfl (rfl) rfl rfl (xai rfl ?_))))))))
 refine dR ?_
 refine FQ.ret1 (v:=(.int _ _)) (Bs:=[]) [] rfl rfl rfl trivial ?_
 exact ⟨rfl,rfl⟩
theorem zpP {mt:TypeId} {mv:Value} {l:Lay} (hl:l.Ok) {p:Pen} {x:Int}:FnD Tryz.prog 167 [adjV l mt mv p,.int .i64 x] [] (.int .i64 (za5 l x)) []:=by
 refine Fn.enter (Tryz.func167) rfl rfl (fun w0 R=>?_)
 refine sA (xB 0 rfl (fun bk0=>(xai rfl (dA (xf 6 za7 rfl (xf 0 za8 rfl (xL3 0 zaa rfl rfl (xmi rfl (TL.sub _ rfl rfl (rfl) rfl rfl ?_)))))))))
 refine TL.quo _ rfl rfl (by omega) (quo2 _) rfl rfl (xmi rfl (TL.sub _ rfl rfl (rfl) rfl rfl (TL.rem _ rfl rfl (by omega) (rfl) rfl rfl (TL.callD [] [] (zrn hl) ⟨rfl,rfl,rfl,trivial⟩ trivial zrR rfl rfl rfl rfl rfl trivial (xai rfl (dR ?_))))))
 refine FQ.ret1 (v:=(.int _ _)) (Bs:=[]) [] rfl rfl rfl trivial ?_
 exact ⟨rfl,rfl⟩
theorem zls {mt:TypeId} {mv:Value} {l:Lay} (hl:l.Ok) {p:Pen} {x:Int}:FnD Tryz.prog 168 [adjV l mt mv p,.int .i64 x] [] (.int .i64 (zaN l x)) []:=by
 refine Fn.enter (Tryz.func168) rfl rfl (fun w0 R=>?_)
 refine sA (xB 0 rfl (fun bk0=>(xai rfl (dA (xf 6 za7 rfl (xf 0 za8 rfl (xL3 0 zaa rfl rfl (xmi rfl (TL.sub _ rfl rfl (rfl) rfl rfl ?_)))))))))
 refine TL.quo _ rfl rfl (by omega) (quo2 _) rfl rfl (xmi rfl (TL.sub _ rfl rfl (rfl) rfl rfl (TL.rem _ rfl rfl (by omega) (rfl) rfl rfl (TL.callD [] [] (zra hl) ⟨rfl,rfl,rfl,trivial⟩ trivial zrQ rfl rfl rfl rfl rfl trivial (xai rfl (dR ?_))))))
 refine FQ.ret1 (v:=(.int _ _)) (Bs:=[]) [] rfl rfl rfl trivial ?_
 exact ⟨rfl,rfl⟩
theorem zlt {S:Type} [MemLike S] {mt:TypeId} {mv:Value} {A:S→Assn} (hM:MemI Tryz.prog mt mv A) {l:Lay} (hl:l.Ok) {p:Pen} {σ:S} {v i:Int} {k:Nat} {σ2:S} (h:zhh l k σ v i=some σ2):FnD Tryz.prog 169 [adjV l mt mv p,.int .i64 v,.int .i64 i] [A σ] (.tuple #[]) [A σ2]:=by
 unfold zhh at h
 dsimp only at h
 refine Fn.enter (Tryz.func169) rfl rfl (fun w0 R=>?_)
 refine sA (xB 1 rfl (fun bk1=>(dA (xf 6 za7 rfl (xf 0 za8 rfl (xL3 1 zaa rfl rfl (xmi rfl (xmi rfl (TL.callD [] [] (zdo hl) ⟨rfl,rfl,rfl,trivial⟩ trivial zhM rfl rfl rfl rfl rfl trivial ?_)))))))))
 refine xai rfl (dS (TC.draw [(0,true),(1,true),(2,true),(3,true),(4,true),(5,true),(6,false),(7,false),(8,true),(9,true)] [1] fc_m (by kernel_rfl) (xL10 1 zba rfl rfl (xf 6 za7 rfl (xf 0 za8 rfl (xL3 1 zaa rfl rfl (xmi rfl (xmi rfl ?_))))))))
 refine TL.callD [] [] (znj hl) ⟨rfl,rfl,rfl,trivial⟩ trivial znR rfl rfl rfl rfl rfl (kL1 rfl trivial) (TL.callD [0] [0] (zoM hM hl) ⟨rfl,rfl,trivial⟩ ⟨rfl,trivial⟩ znQ rfl rfl rfl rfl rfl (kL1 rfl trivial) (TL.neqV rfl rfl rfl rfl (xab rfl (dA (xmb rfl (xf 0 zcS rfl (xf 0 zaH rfl (xL6 1 zaf rfl rfl ?_))))))))
 refine xmi rfl (TL.callD [0] [0] (zm3 hM hl (by decide)) ⟨rfl,rfl,rfl,trivial⟩ ⟨rfl,trivial⟩ zrP rfl rfl rfl rfl rfl trivial (TL.neqB rfl rfl fc_b4 rfl rfl (TL.cases rfl (fun q1=>?_) (fun q1=>?_))))
 refine TL.done (TQ.then (TC.condT rfl (TC.region (xf 0 zcS rfl (xf 0 zaH rfl (xL6 1 zaf rfl rfl (xmi rfl (xmb rfl ?_))))))))
 refine TL.callD [0] [0] (zm5 hM hl (by decide) (by rw [if_pos (by simpa using q1)] at h; exact h)) ⟨rfl,rfl,rfl,rfl,trivial⟩ ⟨rfl,trivial⟩ znM rfl rfl rfl rfl rfl trivial (TL.done ?_)
 refine FQ.end0 (Bs:=[A _]) [0] rfl rfl ⟨rfl,trivial⟩ ?_
 exact ⟨rfl,rfl⟩
 refine TL.done (TQ.then (TC.condF rfl (TC.skip ?_)))
 refine FQ.end0 (Bs:=[A _]) [0] rfl rfl ⟨rfl,trivial⟩ ?_
 rw [if_neg (fun hc=>by revert q1 hc; cases zhz l (MemLike.ld σ (l.head v i)) (l.vertex i v) 0<;>simp<;>omega)] at h; cases h; exact ⟨rfl,rfl⟩
theorem zmM {S:Type} [MemLike S] {mt:TypeId} {mv:Value} {A:S→Assn} (hM:MemI Tryz.prog mt mv A) {l:Lay} (hl:l.Ok) {p:Pen} {σ:S} {x v i:Int} {k:Nat} {σ2:S} (h:push l k σ x v i=some σ2):FnD Tryz.prog 138 [adjV l mt mv p,.int .i64 x,.int .i64 v,.int .i64 i] [A σ] (.tuple #[]) [A σ2]:=by
 unfold push at h
 dsimp only at h
 refine Fn.enter (Tryz.func138) rfl rfl (fun w0 R=>?_)
 refine sA (xB 1 rfl (fun bk1=>(dA (xf 6 za7 rfl (xf 0 za8 rfl (xL3 1 zaa rfl rfl (xmi rfl (xmi rfl (TL.callD [] [] (znj hl) ⟨rfl,rfl,rfl,trivial⟩ trivial znR rfl rfl rfl rfl rfl trivial ?_)))))))))
 refine xai rfl (dA (xL10 1 zba rfl rfl (xmi rfl (TL.callD [0] [0] (zoM hM hl) ⟨rfl,rfl,trivial⟩ ⟨rfl,trivial⟩ znQ rfl rfl rfl rfl rfl trivial (xai rfl (dS (TC.draw [(0,true),(1,true),(2,true),(4,true),(3,false),(5,false)] [1] fc_m (by kernel_rfl) (xL10 1 zba rfl rfl ?_))))))))
 refine xL10 1 zba rfl rfl (xmi rfl (xmi rfl (TL.callD [] [] (zpP hl) ⟨rfl,rfl,trivial⟩ trivial zrV rfl rfl rfl rfl rfl (kL1 rfl trivial) (TL.callD [0] [0] (zhg hM hl) ⟨rfl,rfl,rfl,trivial⟩ ⟨rfl,trivial⟩ zg4 rfl rfl rfl rfl rfl (kL1 rfl trivial) (dS (TC.draw [(0,true),(1,true),(2,true),(3,false),(4,false)] [1] fc_m (by kernel_rfl) (xL10 1 zba rfl rfl (xL10 1 zba rfl rfl ?_))))))))
 refine xmi rfl (TL.callD [] [] (zls hl) ⟨rfl,rfl,trivial⟩ trivial znP rfl rfl rfl rfl rfl (kL1 rfl trivial) (TL.callD [0] [0] (zhg hM hl) ⟨rfl,rfl,rfl,trivial⟩ ⟨rfl,trivial⟩ zg4 rfl rfl rfl rfl rfl (kL1 rfl trivial) (dB (xmi rfl (TL.neq rfl rfl rfl rfl (fun q1=>?_) (fun q1=>?_))))))
 refine TL.done (TQ.then (TC.condT rfl (TC.draw [(0,true),(1,true),(2,true),(4,true),(3,false),(5,false)] [1] fc_m (by kernel_rfl) (xL10 1 zba rfl rfl (xL10 1 zba rfl rfl (xmi rfl (xmi rfl (TL.callD [] [] (zls hl) ⟨rfl,rfl,trivial⟩ trivial znP rfl rfl rfl rfl rfl (kL1 rfl trivial) ?_))))))))
 refine TL.callD [0] [0] (zhg hM hl) ⟨rfl,rfl,rfl,trivial⟩ ⟨rfl,trivial⟩ zg4 rfl rfl rfl rfl rfl (kL1 rfl trivial) (dA (xL10 1 zba rfl rfl (xmi rfl (xmi rfl (TL.callD [0] [0] (zhg hM hl) ⟨rfl,rfl,rfl,trivial⟩ ⟨rfl,trivial⟩ zg4 rfl rfl rfl rfl rfl trivial (dG (xL10 1 zba rfl rfl (xmi rfl ?_))))))))
 refine xmi rfl (TL.callD [0] [0] (zlt hM hl (by rw [if_pos q1] at h; exact h)) ⟨rfl,rfl,rfl,trivial⟩ ⟨rfl,trivial⟩ znO rfl rfl rfl rfl rfl trivial (TL.done ?_))
 refine FQ.end0 (Bs:=[A _]) [0] rfl rfl ⟨rfl,trivial⟩ ?_
 exact ⟨rfl,rfl⟩
 refine dF rfl (xL10 1 zba rfl rfl (xmi rfl (xmi rfl (TL.callD [0] [0] (zhg hM hl) ⟨rfl,rfl,rfl,trivial⟩ ⟨rfl,trivial⟩ zg4 rfl rfl rfl rfl rfl trivial (dG (xL10 1 zba rfl rfl (xmi rfl (xmi rfl ?_))))))))
 refine TL.callD [0] [0] (zlt hM hl (by rw [if_neg q1] at h; exact h)) ⟨rfl,rfl,rfl,trivial⟩ ⟨rfl,trivial⟩ znO rfl rfl rfl rfl rfl trivial (TL.done ?_)
 refine FQ.end0 (Bs:=[A _]) [0] rfl rfl ⟨rfl,trivial⟩ ?_
 exact ⟨rfl,rfl⟩
theorem zoI {S:Type} [MemLike S] {mt:TypeId} {mv:Value} {A:S→Assn} (hM:MemI Tryz.prog mt mv A) {l:Lay} (hl:l.Ok) {p:Pen} {σ:S} {s:Int} {k:Nat} {σ2:S} (h:add l k σ s=some σ2):FnD Tryz.prog 111 [adjV l mt mv p,.int .i64 s] [A σ] (.tuple #[]) [A σ2]:=by
 unfold add at h
 dsimp only at h
 obtain ⟨σ1,h1,h2⟩:=Option.bind_eq_some_iff.1 h
 refine Fn.enter (Tryz.func111) rfl rfl (fun w0 R=>?_)
 refine sA (xB 1 rfl (fun bk1=>(dA (xf 6 za7 rfl (xL4 1 zdf rfl rfl (xmi rfl (TL.callD [0] [0] (zoi hM hl) ⟨rfl,rfl,trivial⟩ ⟨rfl,trivial⟩ zn5 rfl rfl rfl rfl rfl trivial (TL.alloc 2 (cs:=#[.int .i64 0,.int .i64 0,.int .i64 0,.bool false]) ziq rfl rfl rfl (fun _=>trivial) (fun bk2=>(TL.stW 2 4 [_,_,_,_] rfl rfl rfl rfl rfl rfl zfo rfl rfl trivial ?_))))))))))
 refine dS (TC.draw [(0,true),(1,true),(3,true),(4,true),(5,true),(6,true),(2,false),(7,false)] [1,2] fc_m (by kernel_rfl) (xL10 1 zba rfl rfl (xmi rfl (xf 0 zgX rfl (xli 2 zae rfl rfl (xf 2 zdP rfl (xli 2 zae rfl rfl (TL.callD [] [] zmx ⟨rfl,rfl,trivial⟩ trivial znY rfl rfl rfl rfl rfl (kL2 rfl rfl trivial) ?_))))))))
 refine TL.callD [0] [0] (zmM hM hl h1) ⟨rfl,rfl,rfl,rfl,trivial⟩ ⟨rfl,trivial⟩ znZ rfl rfl rfl rfl rfl (kL2 rfl rfl trivial) (TL.done (TQ.then (TC.draw [(0,true),(1,true),(3,true),(4,true),(5,true),(6,true),(2,false),(7,false)] [1,2] fc_m (by kernel_rfl) (xL10 1 zba rfl rfl (xmi rfl (xf 1 zgW rfl (xli 2 zae rfl rfl (xf 2 zdP rfl ?_))))))))
 refine xli 2 zae rfl rfl (TL.callD [] [] zmx ⟨rfl,rfl,trivial⟩ trivial znY rfl rfl rfl rfl rfl (kL2 rfl rfl trivial) (TL.callD [0] [0] (zmM hM hl h2) ⟨rfl,rfl,rfl,rfl,trivial⟩ ⟨rfl,trivial⟩ znZ rfl rfl rfl rfl rfl (kL2 rfl rfl trivial) (TL.done ?_)))
 refine FQ.end0 (Bs:=[A _]) [0] rfl rfl ⟨rfl,trivial⟩ ?_
 exact ⟨rfl,rfl⟩
theorem zpl {S:Type} [MemLike S] {mt:TypeId} {mv:Value} {A:S→Assn} (hM:MemI Tryz.prog mt mv A) {l:Lay} (hl:l.Ok) {p:Pen} {σ:S} {s i:Int} {on:Bool} {k:Nat} {σ2:S} (h:lmark l k σ s i on=some σ2):FnD Tryz.prog 142 [adjV l mt mv p,.int .i64 s,.int .i64 i,.bool on] [A σ] (.tuple #[]) [A σ2]:=by
 unfold lmark at h
 refine Fn.enter (Tryz.func142) rfl rfl (fun w0 R=>?_)
 refine sA (xB 1 rfl (fun bk1=>(TL.done (TQ.then (TC.draw [(0,true),(1,true),(2,true),(3,true),(4,true),(5,true),(6,true),(7,true),(8,true),(9,true),(11,true),(10,false),(12,false)] [1] fc_m (by kernel_rfl) (xf 0 zbz rfl (xf 0 zcS rfl (xf 0 zaH rfl (xL6 1 zaf rfl rfl ?_)))))))))
 refine xf 0 zbz rfl (xf 6 za7 rfl (xf 0 za8 rfl (xL3 1 zaa rfl rfl (xmi rfl (xmi rfl (xmb rfl (TL.callD [] [] (zoH hl) ⟨rfl,rfl,rfl,rfl,trivial⟩ trivial zkm rfl rfl rfl rfl rfl (kL1 rfl trivial) (TL.callD [0] [0] (zm5 hM hl (by decide) h) ⟨rfl,rfl,rfl,rfl,trivial⟩ ⟨rfl,trivial⟩ znM rfl rfl rfl rfl rfl (kL1 rfl trivial) ?_))))))))
 refine TL.done ?_
 refine FQ.end0 (Bs:=[A _]) [0] rfl rfl ⟨rfl,trivial⟩ ?_
 exact ⟨rfl,rfl⟩
theorem zpd {S:Type} [MemLike S] {mt:TypeId} {mv:Value} {A:S→Assn} (hM:MemI Tryz.prog mt mv A) {l:Lay} (hl:l.Ok) {p:Pen} {σ:S} {s:Int} {k:Nat} {σ2:S} (h:plant l p k σ s=some σ2):FnD Tryz.prog 112 [adjV l mt mv p,.int .i64 s] [A σ] (.tuple #[]) [A σ2]:=by
 unfold plant at h
 dsimp only at h
 obtain ⟨σ1,h1,h2⟩:=Option.bind_eq_some_iff.1 h
 refine Fn.enter (Tryz.func112) rfl rfl (fun w0 R=>?_)
 refine sA (xB 1 rfl (fun bk1=>(dA (xf 0 zbz rfl (xf 6 za7 rfl (xL4 1 zdf rfl rfl (xmi rfl (TL.callD [0] [0] (zoi hM hl) ⟨rfl,rfl,trivial⟩ ⟨rfl,trivial⟩ zn5 rfl rfl rfl rfl rfl trivial (TL.alloc 2 (cs:=#[.int .i64 0,.int .i64 0,.int .i64 0,.bool false]) ziq rfl rfl rfl (fun _=>trivial) (fun bk2=>?_))))))))))
 refine TL.stW 2 4 [_,_,_,_] rfl rfl rfl rfl rfl rfl zfo rfl rfl trivial (dA (xf 0 zbz rfl (xf 6 za7 rfl (xL4 1 zdf rfl rfl (xmi rfl (TL.callD [0] [0] (zpD hM hl) ⟨rfl,rfl,rfl,trivial⟩ ⟨rfl,trivial⟩ zr1 rfl rfl rfl rfl rfl trivial (dB (xf 2 zdP rfl ?_))))))))
 refine xli 2 zae rfl rfl (TL.add _ rfl rfl (rfl) rfl rfl (xmi rfl (dK (TC.loopK (X:=Nat×S×Int) [1,2,4,18] [1,2] (fun y=>[(19,.int .i64 y.2.2)]) (fun y=>[(0,A y.2.1)]) (fun y=>zdu l p s (eget l σ s).u (eget l σ s).v y.1 k y.2.1 y.2.2 (IntKind.i64.wrap ((eget l σ s).level+1))=some σ1) (fun y=>y.1) ((k,_,0)) h1 ⟨rfl,trivial⟩ ⟨rfl,trivial⟩ (fun y hI=>?_)))))
 obtain ⟨j,σ3,z⟩:=y
 rcases j with _ | j
 ·simp [zdu] at hI
 dsimp only at hI
 refine TC.sub (env':=[(19,_),(1,_),(2,_),(4,_),(18,_)]) (L':=[(0,_),(1,_),(2,_)]) ⟨rfl,rfl,rfl,rfl,rfl,trivial⟩ ⟨rfl,rfl,rfl,trivial⟩ (sA (TL.lss rfl rfl rfl rfl (fun q1=>?_) (fun q1=>?_)))
 refine dS (TC.condT rfl (TC.skip (TQ.then (TC.seq (TC.block (sA (xmi rfl (xai rfl ?_))))))))
 refine dG (xf 0 zbz rfl (xf 0 zcS rfl (xL6 1 zdT rfl rfl (xmi rfl (xmi rfl (xf 0 zgX rfl (xli 2 zae rfl rfl (xf 1 zgW rfl ?_))))))))
 refine xli 2 zae rfl rfl ?_
 rw [zdu,if_pos q1] at hI
 obtain ⟨⟨r,σ4⟩,h3,h4⟩:=Option.bind_eq_some_iff.1 hI
 refine TL.callD [0] [0] (zrp hM hl h3) ⟨rfl,rfl,rfl,rfl,rfl,trivial⟩ ⟨rfl,trivial⟩ zr0 rfl rfl rfl rfl rfl trivial (dI (TL.add _ rfl rfl (rfl) rfl rfl (xmi rfl (TL.done (TQ.roundK ((j,_,_)) ⟨h4,Nat.lt_succ_self _⟩ ⟨rfl,trivial⟩ ⟨rfl,trivial⟩ (kE4 rfl rfl rfl rfl trivial) (kL2 rfl rfl trivial))))))
 refine dS (TC.condF rfl (TC.exit (TQ.thenExit (TQ.thenExit (TQ.blockHere (TQ.then (TC.region (xL10 1 zjg rfl rfl ?_))))))))
 refine xmi rfl (xf 2 zdP rfl (xli 2 zae rfl rfl ?_))
 rw [zdu,if_neg q1] at hI
 cases hI
 refine TL.callD [0] [0] (zpl hM hl h2) ⟨rfl,rfl,rfl,rfl,trivial⟩ ⟨rfl,trivial⟩ zrZ rfl rfl rfl rfl rfl trivial (TL.done ?_)
 refine FQ.end0 (Bs:=[A _]) [0] rfl rfl ⟨rfl,trivial⟩ ?_
 exact ⟨rfl,rfl⟩
theorem zpt {mt:TypeId} {mv:Value} {l:Lay} {p:Pen}:FnD Tryz.prog 37 [layV l,.iface mt mv,.agg #[.int .i64 p.thread,.int .i64 p.tag]] [] (adjV l mt mv p) []:=by
 refine Fn.enter (Tryz.func37) rfl rfl (fun w0 R=>?_)
 refine sA (xB 0 rfl (fun bk0=>(xB 1 rfl (fun bk1=>(TL.alloc 2 (cs:=#[.int .i64 0,.int .i64 0,.int .i64 0,.nilIface,.int .i64 0,.int .i64 0,.int .i64 0,.int .i64 0,.int .i64 0,.nilIface]) znz rfl rfl rfl (fun _=>trivial) (fun bk2=>(dA (xL3 0 zaa rfl rfl (xmc rfl (xL2 1 zcq rfl rfl (TL.bld [.int .i64 0,.int .i64 0,.int .i64 0,.nilIface,.int .i64 0,.int .i64 0] [(.agg _),(.iface _ _),(.agg _)] [_,_,_,_,_,_] zjc znE ⟨rfl,rfl,rfl,trivial⟩ ⟨rfl,rfl⟩ rfl rfl ?_)))))))))))
 refine TL.bld [.int .i64 0,.int .i64 0,.int .i64 0,.nilIface,.int .i64 0,.int .i64 0] [(.agg _)] [_,_,_,_,_,_] zqd ztd ⟨rfl,trivial⟩ ⟨rfl,rfl⟩ rfl rfl (TL.alloc 3 (cs:=#[.int .i64 0,.int .i64 0,.int .i64 0,.nilIface,.int .i64 0,.int .i64 0]) zqd rfl rfl rfl (fun _=>trivial) (fun bk3=>(TL.stW 3 6 [_,_,_,_,_,_] rfl rfl rfl rfl rfl rfl zdT rfl rfl trivial (dA (xL6 3 zdT rfl rfl (xL3 0 zaa rfl rfl (xmc rfl (TL.bld [.int .i64 0,.int .i64 0,.int .i64 0,.nilIface] [(.agg _),(.iface _ _)] [_,_,_,_] zs5 ztc ⟨rfl,rfl,trivial⟩ ⟨rfl,rfl⟩ rfl rfl ?_))))))))
 refine TL.bld [.int .i64 0,.int .i64 0,.int .i64 0,.nilIface,.int .i64 0,.int .i64 0,.int .i64 0,.int .i64 0,.int .i64 0,.nilIface] [(.agg _),(.agg _)] [_,_,_,_,_,_,_,_,_,_] zs4 ztb ⟨rfl,rfl,trivial⟩ ⟨rfl,rfl⟩ rfl rfl (TL.bld [.int .i64 0,.int .i64 0,.int .i64 0,.nilIface,.int .i64 0,.int .i64 0,.int .i64 0,.int .i64 0,.int .i64 0,.nilIface] [(.agg _)] [_,_,_,_,_,_,_,_,_,_] zs3 zta ⟨rfl,trivial⟩ ⟨rfl,rfl⟩ rfl rfl (TL.bld [.int .i64 0,.int .i64 0,.int .i64 0,.nilIface,.int .i64 0,.int .i64 0,.int .i64 0,.int .i64 0,.int .i64 0,.nilIface] [(.agg _)] [_,_,_,_,_,_,_,_,_,_] znz zs9 ⟨rfl,trivial⟩ ⟨rfl,rfl⟩ rfl rfl ?_))
 refine TL.stW 2 10 [_,_,_,_,_,_,_,_,_,_] rfl rfl rfl rfl rfl rfl zdA rfl rfl trivial (dR ?_)
 refine FQ.retG (rs:=[.cell 6 49]) [(.agg _)] (Bs:=[]) [] rfl ⟨⟨_,_,_,_,_,2,rfl,rfl,.inr ⟨10,[_,_,_,_,_,_,_,_,_,_],zdA,rfl,rfl⟩⟩,trivial⟩ rfl rfl trivial ?_
 exact ⟨rfl,rfl⟩
theorem znf {S:Type} [MemLike S] {mt:TypeId} {mv:Value} {A:S→Assn} (hM:MemI Tryz.prog mt mv A) {l:Lay} (hl:l.Ok) {p:Pen} {σ:S} {u v:Int} {b:Bool} {k:Nat} {σ2:S} (h:same l k σ 0 u v=some (b,σ2)):FnD Tryz.prog 42 [adjV l mt mv p,.int .i64 u,.int .i64 v] [A σ] (.bool b) [A σ2]:=by
 refine Fn.enter (Tryz.func42) rfl rfl (fun w0 R=>?_)
 refine sA (xB 1 rfl (fun bk1=>(xaf rfl (dA (xf 0 zcR rfl (xf 0 zbz rfl (xf 0 zcS rfl (xL6 1 zdT rfl rfl (xmi rfl ?_)))))))))
 refine xmi rfl (TL.callD [0] [0] (zq1 hM hl h) ⟨rfl,rfl,rfl,rfl,trivial⟩ ⟨rfl,trivial⟩ zsd rfl rfl rfl rfl rfl trivial (xab rfl (dR ?_)))
 refine FQ.ret1 (v:=(.bool _)) (Bs:=[A _]) [0] rfl rfl rfl ⟨rfl,trivial⟩ ?_
 exact ⟨rfl,rfl⟩
theorem zlS {S:Type} [MemLike S] {mt:TypeId} {mv:Value} {A:S→Assn} (hM:MemI Tryz.prog mt mv A) {l:Lay} (hl:l.Ok) {p:Pen} {σ:S} {s u v:Int} {b:Bool} {k:Nat} {σ2:S} (h:zdL l p k σ s u v=some (b,σ2)):FnD Tryz.prog 74 [adjV l mt mv p,.int .i64 s,.int .i64 u,.int .i64 v] [A σ] (.bool b) [A σ2]:=by
 unfold zdL at h
 obtain ⟨⟨j,σ1⟩,h1,h⟩:=Option.bind_eq_some_iff.1 h
 dsimp only at h
 refine Fn.enter (Tryz.func74) rfl rfl (fun w0 R=>?_)
 refine sA (xB 1 rfl (fun bk1=>(xaf rfl (dA (xL10 1 zdA rfl rfl (xmi rfl (xmi rfl (TL.callD [0] [0] (znf hM hl h1) ⟨rfl,rfl,rfl,trivial⟩ ⟨rfl,trivial⟩ zts rfl rfl rfl rfl rfl trivial (xab rfl ?_)))))))))
 refine dA (xf 0 zcR rfl (xf 0 zbz rfl (xf 6 za7 rfl (xL4 1 zdf rfl rfl (xmi rfl (xmi rfl (xmi rfl (TL.callD [0] [0] (zsf hM hl) ⟨rfl,rfl,rfl,rfl,rfl,rfl,trivial⟩ ⟨rfl,trivial⟩ zsa rfl rfl rfl rfl rfl trivial ?_))))))))
 refine dB (xmb rfl (TL.cases rfl (fun q1=>?_) (fun q1=>?_)))
 refine TL.done (TQ.then (TC.condT rfl (TC.region (xf 0 zcR rfl (xf 0 zbz rfl (xL10 1 zba rfl rfl (xmi rfl ?_)))))))
 rw [if_pos (by simpa using q1)] at h
 obtain ⟨σ3,h2,h3⟩:=Option.bind_eq_some_iff.1 h
 cases h3
 refine TL.callD [0] [0] (zoI hM hl h2) ⟨rfl,rfl,trivial⟩ ⟨rfl,trivial⟩ zr9 rfl rfl rfl rfl rfl trivial (dA (xmb rfl (TL.not _ _ rfl rfl rfl rfl (xab rfl (dR ?_)))))
 refine FQ.ret1 (v:=(.bool _)) (Bs:=[A _]) [0] rfl rfl rfl ⟨rfl,trivial⟩ ?_
 first | exact ⟨by rw [q1]; rfl,rfl⟩ | exact ⟨by simp [*],rfl⟩
 refine TL.done (TQ.then (TC.condF rfl (TC.region (xf 0 zcR rfl (xL10 1 zjg rfl rfl (xmi rfl ?_))))))
 rw [if_neg (by simpa using q1)] at h
 obtain ⟨σ3,h2,h3⟩:=Option.bind_eq_some_iff.1 h
 cases h3
 refine TL.callD [0] [0] (zpd hM hl h2) ⟨rfl,rfl,trivial⟩ ⟨rfl,trivial⟩ zr8 rfl rfl rfl rfl rfl trivial (dA (xmb rfl (TL.not _ _ rfl rfl rfl rfl (xab rfl (dR ?_)))))
 refine FQ.ret1 (v:=(.bool _)) (Bs:=[A _]) [0] rfl rfl rfl ⟨rfl,trivial⟩ ?_
 first | exact ⟨by rw [q1]; rfl,rfl⟩ | exact ⟨by simp [*],rfl⟩
theorem at_Li {ab mb N cap:Nat} {c:Cnt} {i:Int} (h0:0≤i) (h1:i<N):FnD Tryz.prog 89 [.pointer (some ⟨ab,0,none⟩),.int .i64 i,.pointer (some ⟨ab,1,none⟩)] [arO ab mb (N) cap 140 c] (.pointer (some ⟨mb,0+i.toNat * 1,none⟩)) [arO ab mb (N) cap 140 c.ld]:=by
 refine Fn.enter (Tryz.func89) rfl rfl (fun w0 R=>?_)
 refine sA (TL.asg (.pointer none) rfl rfl rfl (dB (xmi rfl (TL.lssF rfl rfl (by omega) rfl rfl (xmf rfl (xmi rfl (xmp rfl (xN0 rfl ?_))))))))
 refine xf 0 zaM rfl (xls 0 zcx rfl rfl (xz zas rfl (TL.geqF rfl rfl (by omega) rfl rfl (xpF rfl (dF rfl (xmp rfl (xN0 rfl (xli 0 zae rfl rfl ?_))))))))
 refine TL.add _ rfl rfl (rfl) rfl rfl (xN0 rfl (TL.st 0 #[_,_,_,_,_,_] (.int _ _) rfl rfl rfl rfl rfl rfl zae rfl rfl trivial (dA (xmp rfl (xN0 rfl (xf 0 zaM rfl (xls 0 zcx rfl rfl (xmi rfl ?_))))))))
 refine TL.ia _ rfl rfl zas (by omega) (by omega) rfl rfl rfl (xap rfl (dR ?_))
 refine FQ.ret1 (v:=(.pointer (some ⟨_,_,none⟩))) (Bs:=[_]) [0] rfl rfl rfl ⟨rfl,trivial⟩ ?_
 exact ⟨rfl,rfl⟩
theorem at_Si {ab mb N cap:Nat} {c:Cnt} {i:Int} (h0:0≤i) (h1:i<N):FnD Tryz.prog 89 [.pointer (some ⟨ab,0,none⟩),.int .i64 i,.pointer (some ⟨ab,2,none⟩)] [arO ab mb (N) cap 140 c] (.pointer (some ⟨mb,0+i.toNat * 1,none⟩)) [arO ab mb (N) cap 140 c.st]:=by
 refine Fn.enter (Tryz.func89) rfl rfl (fun w0 R=>?_)
 refine sA (TL.asg (.pointer none) rfl rfl rfl (dB (xmi rfl (TL.lssF rfl rfl (by omega) rfl rfl (xmf rfl (xmi rfl (xmp rfl (xN0 rfl ?_))))))))
 refine xf 0 zaM rfl (xls 0 zcx rfl rfl (xz zas rfl (TL.geqF rfl rfl (by omega) rfl rfl (xpF rfl (dF rfl (xmp rfl (xN0 rfl (xli 0 zae rfl rfl ?_))))))))
 refine TL.add _ rfl rfl (rfl) rfl rfl (xN0 rfl (TL.st 0 #[_,_,_,_,_,_] (.int _ _) rfl rfl rfl rfl rfl rfl zae rfl rfl trivial (dA (xmp rfl (xN0 rfl (xf 0 zaM rfl (xls 0 zcx rfl rfl (xmi rfl ?_))))))))
 refine TL.ia _ rfl rfl zas (by omega) (by omega) rfl rfl rfl (xap rfl (dR ?_))
 refine FQ.ret1 (v:=(.pointer (some ⟨_,_,none⟩))) (Bs:=[_]) [0] rfl rfl rfl ⟨rfl,trivial⟩ ?_
 exact ⟨rfl,rfl⟩
theorem at_Xi {ab mb N cap:Nat} {c:Cnt} {i:Int} (h0:0≤i) (h1:i<N):FnD Tryz.prog 89 [.pointer (some ⟨ab,0,none⟩),.int .i64 i,.pointer (some ⟨ab,3,none⟩)] [arO ab mb (N) cap 140 c] (.pointer (some ⟨mb,0+i.toNat * 1,none⟩)) [arO ab mb (N) cap 140 c.sw]:=by
 refine Fn.enter (Tryz.func89) rfl rfl (fun w0 R=>?_)
 refine sA (TL.asg (.pointer none) rfl rfl rfl (dB (xmi rfl (TL.lssF rfl rfl (by omega) rfl rfl (xmf rfl (xmi rfl (xmp rfl (xN0 rfl ?_))))))))
 refine xf 0 zaM rfl (xls 0 zcx rfl rfl (xz zas rfl (TL.geqF rfl rfl (by omega) rfl rfl (xpF rfl (dF rfl (xmp rfl (xN0 rfl (xli 0 zae rfl rfl ?_))))))))
 refine TL.add _ rfl rfl (rfl) rfl rfl (xN0 rfl (TL.st 0 #[_,_,_,_,_,_] (.int _ _) rfl rfl rfl rfl rfl rfl zae rfl rfl trivial (dA (xmp rfl (xN0 rfl (xf 0 zaM rfl (xls 0 zcx rfl rfl (xmi rfl ?_))))))))
 refine TL.ia _ rfl rfl zas (by omega) (by omega) rfl rfl rfl (xap rfl (dR ?_))
 refine FQ.ret1 (v:=(.pointer (some ⟨_,_,none⟩))) (Bs:=[_]) [0] rfl rfl rfl ⟨rfl,trivial⟩ ?_
 exact ⟨rfl,rfl⟩
theorem at_Mi {ab mb N cap:Nat} {c:Cnt} {i:Int} (h0:0≤i) (h1:i<N):FnD Tryz.prog 89 [.pointer (some ⟨ab,0,none⟩),.int .i64 i,.pointer (some ⟨ab,4,none⟩)] [arO ab mb (N) cap 140 c] (.pointer (some ⟨mb,0+i.toNat * 1,none⟩)) [arO ab mb (N) cap 140 c.ms]:=by
 refine Fn.enter (Tryz.func89) rfl rfl (fun w0 R=>?_)
 refine sA (TL.asg (.pointer none) rfl rfl rfl (dB (xmi rfl (TL.lssF rfl rfl (by omega) rfl rfl (xmf rfl (xmi rfl (xmp rfl (xN0 rfl ?_))))))))
 refine xf 0 zaM rfl (xls 0 zcx rfl rfl (xz zas rfl (TL.geqF rfl rfl (by omega) rfl rfl (xpF rfl (dF rfl (xmp rfl (xN0 rfl (xli 0 zae rfl rfl ?_))))))))
 refine TL.add _ rfl rfl (rfl) rfl rfl (xN0 rfl (TL.st 0 #[_,_,_,_,_,_] (.int _ _) rfl rfl rfl rfl rfl rfl zae rfl rfl trivial (dA (xmp rfl (xN0 rfl (xf 0 zaM rfl (xls 0 zcx rfl rfl (xmi rfl ?_))))))))
 refine TL.ia _ rfl rfl zas (by omega) (by omega) rfl rfl rfl (xap rfl (dR ?_))
 refine FQ.ret1 (v:=(.pointer (some ⟨_,_,none⟩))) (Bs:=[_]) [0] rfl rfl rfl ⟨rfl,trivial⟩ ?_
 exact ⟨rfl,rfl⟩
theorem at_o {ab mb N cap k:Nat} {c:Cnt} {i:Int} (h:¬(0≤i∧i<N)):FnD Tryz.prog 89 [.pointer (some ⟨ab,0,none⟩),.int .i64 i,.pointer (some ⟨ab,k,none⟩)] [arO ab mb (N) cap 140 c] (.pointer none) [arO ab mb (N) cap 140 c]:=by
 refine Fn.enter (Tryz.func89) rfl rfl (fun w0 R=>?_)
 refine sA (TL.asg (.pointer none) rfl rfl rfl (dB (xmi rfl (TL.lss rfl rfl rfl rfl (fun q1=>?_) (fun q1=>?_)))))
 refine xmt rfl (xo rfl (xo rfl (xo rfl (xo rfl (xo rfl (xo rfl (xo rfl (xpT rfl ?_))))))))
 refine dT rfl (TL.asg (.pointer none) rfl rfl rfl (dRR ?_))
 refine FQ.ret1 (v:=(.pointer none)) (Bs:=[_]) [0] rfl rfl rfl ⟨rfl,trivial⟩ ?_
 exact ⟨rfl,rfl⟩
 refine xmf rfl (xmi rfl (xmp rfl (xN0 rfl (xf 0 zaM rfl (xls 0 zcx rfl rfl (xz zas rfl (TL.geq rfl rfl rfl rfl (fun q2=>?_) (fun q2=>?_))))))))
 refine xpH rfl (dT rfl (TL.asg (.pointer none) rfl rfl rfl (dRR ?_)))
 refine FQ.ret1 (v:=(.pointer none)) (Bs:=[_]) [0] rfl rfl rfl ⟨rfl,trivial⟩ ?_
 exact ⟨rfl,rfl⟩
 refine xpF rfl (TL.done (TQ.then (TC.condF rfl (TC.skip (TQ.then (TC.seq ?_))))))
 exact absurd (by omega:False) id
theorem zsv {ab mb cap:Nat} {rs:Array Value} {σ:Array UInt64} {c:Cnt} {i:Int} (h0:0≤i) (h1:i<σ.size):FnD Tryz.prog 31 [.pointer (some ⟨ab,0,none⟩),.int .i64 i] [arO ab mb (σ.size) cap 140 c,pt mb (.cells (encM (σ)++rs) 71)] (.tuple #[.int .u64 (MemLike.get σ i),.int .i64 0]) [arO ab mb (σ.size) cap 140 c.ld,pt mb (.cells (encM (σ)++rs) 71)]:=by
 refine Fn.enter (Tryz.func31) rfl rfl (fun w0 R=>?_)
 refine sA (xai rfl (xai rfl (dA (xmp rfl (xmi rfl (xmp rfl (xN0 rfl (xf 1 zbg rfl ?_))))))))
 refine xf 0 zcP rfl (TL.callD [0] [0] (at_Li h0 h1) ⟨rfl,rfl,rfl,trivial⟩ ⟨rfl,trivial⟩ zeF rfl rfl rfl rfl rfl trivial (xap rfl (dB (xmp rfl (TL.nilP false rfl rfl zdm rfl rfl rfl (dF rfl (xmp rfl (xN0 rfl ?_))))))))
 refine TL.ldM 1 rfl rfl (by omega) (by omega) zeD rfl rfl (xai rfl (xai rfl (dR ?_)))
 refine FQ.ret2 (v:=(.int _ _)) (x:=(.int _ _)) (Bs:=[_,_]) [0,1] rfl rfl rfl rfl ⟨rfl,rfl,trivial⟩ ?_
 exact ⟨rfl,rfl⟩
theorem zsu {ab mb cap:Nat} {rs:Array Value} {σ:Array UInt64} {c:Cnt} {i:Int} (h:¬(0≤i∧i<σ.size)):FnD Tryz.prog 31 [.pointer (some ⟨ab,0,none⟩),.int .i64 i] [arO ab mb (σ.size) cap 140 c,pt mb (.cells (encM (σ)++rs) 71)] (.tuple #[.int .u64 (MemLike.get σ i),.int .i64 20]) [arO ab mb (σ.size) cap 140 c,pt mb (.cells (encM (σ)++rs) 71)]:=by
 refine Fn.enter (Tryz.func31) rfl rfl (fun w0 R=>?_)
 refine sA (xai rfl (xai rfl (dA (xmp rfl (xmi rfl (xmp rfl (xN0 rfl (xf 1 zbg rfl ?_))))))))
 refine xf 0 zcP rfl (TL.callD [0] [0] (at_o h) ⟨rfl,rfl,rfl,trivial⟩ ⟨rfl,trivial⟩ zeF rfl rfl rfl rfl rfl trivial (TL.asg (.pointer none) rfl rfl rfl (dB (TL.mv (.pointer none) rfl rfl rfl (TL.nilP true rfl rfl zdm rfl rfl rfl (dT rfl (xai rfl (xai rfl ?_))))))))
 refine dRR ?_
 refine FQ.ret2 (v:=(.int _ _)) (x:=(.int _ _)) (Bs:=[_,_]) [0,1] rfl rfl rfl rfl ⟨rfl,rfl,trivial⟩ ?_
 exact ⟨by rw [zhi,if_neg h],rfl⟩
theorem zpY {ab mb cap:Nat} {rs:Array Value} {σ:Array UInt64} {c:Cnt} {i:Int} (h0:0≤i) (h1:i<σ.size) {y:Int} (hv:0≤y∧y<18446744073709551616):FnD Tryz.prog 55 [.pointer (some ⟨ab,0,none⟩),.int .i64 i,.int .u64 y] [arO ab mb (σ.size) cap 140 c,pt mb (.cells (encM (σ)++rs) 71)] (.int .i64 0) [arO ab mb (σ.size) cap 140 c.st,pt mb (.cells (encM (MemLike.st σ i y)++rs) 71)]:=by
 refine Fn.enter (Tryz.func55) rfl rfl (fun w0 R=>?_)
 refine sA (xai rfl (dA (xmp rfl (xmi rfl (xmp rfl (xN0 rfl (xf 1 zbg rfl (xf 1 zcO rfl ?_))))))))
 refine TL.callD [0] [0] (at_Si h0 h1) ⟨rfl,rfl,rfl,trivial⟩ ⟨rfl,trivial⟩ zeF rfl rfl rfl rfl rfl trivial (xap rfl (dB (xmp rfl (TL.nilP false rfl rfl zdm rfl rfl rfl (dF rfl (xmp rfl (xmi rfl (xN0 rfl ?_))))))))
 refine TL.stM 1 rfl rfl rfl (by omega) (by omega) (by omega) zeD rfl rfl trivial (dA (xai rfl (dR ?_)))
 refine FQ.ret1 (v:=(.int _ _)) (Bs:=[_,_]) [0,1] rfl rfl rfl ⟨rfl,rfl,trivial⟩ ?_
 exact ⟨rfl,rfl⟩
theorem zpX {ab mb cap:Nat} {rs:Array Value} {σ:Array UInt64} {c:Cnt} {i:Int} (h:¬(0≤i∧i<σ.size)) {y:Int} (hv:0≤y∧y<18446744073709551616):FnD Tryz.prog 55 [.pointer (some ⟨ab,0,none⟩),.int .i64 i,.int .u64 y] [arO ab mb (σ.size) cap 140 c,pt mb (.cells (encM (σ)++rs) 71)] (.int .i64 20) [arO ab mb (σ.size) cap 140 c,pt mb (.cells (encM (MemLike.st σ i y)++rs) 71)]:=by
 have hst:(MemLike.st σ i y:Array UInt64)=σ:=by rw [zmc,if_neg h]
 refine Fn.enter (Tryz.func55) rfl rfl (fun w0 R=>?_)
 refine sA (xai rfl (dA (xmp rfl (xmi rfl (xmp rfl (xN0 rfl (xf 1 zbg rfl (xf 1 zcO rfl ?_))))))))
 refine TL.callD [0] [0] (at_o h) ⟨rfl,rfl,rfl,trivial⟩ ⟨rfl,trivial⟩ zeF rfl rfl rfl rfl rfl trivial (TL.asg (.pointer none) rfl rfl rfl (dB (TL.mv (.pointer none) rfl rfl rfl (TL.nilP true rfl rfl zdm rfl rfl rfl (dT rfl (xai rfl (dRR ?_)))))))
 refine FQ.ret1 (v:=(.int _ _)) (Bs:=[_,_]) [0,1] rfl rfl rfl ⟨rfl,rfl,trivial⟩ ?_
 exact ⟨rfl,by rw [hst]⟩
theorem zst {ab mb cap:Nat} {rs:Array Value} {σ:Array UInt64} {c:Cnt} {i:Int} (h0:0≤i) (h1:i<σ.size) {z:Int} (hz:0≤z∧z<18446744073709551616) {y:Int} (hv:0≤y∧y<18446744073709551616) (h2:MemLike.get σ i=z):FnD Tryz.prog 118 [.pointer (some ⟨ab,0,none⟩),.int .i64 i,.int .u64 z,.int .u64 y] [arO ab mb (σ.size) cap 140 c,pt mb (.cells (encM (σ)++rs) 71)] (.tuple #[.bool true,.int .i64 0]) [arO ab mb (σ.size) cap 140 c.sw,pt mb (.cells (encM (MemLike.st σ i y)++rs) 71)]:=by
 refine Fn.enter (Tryz.func118) rfl rfl (fun w0 R=>?_)
 refine sA (xaf rfl (xai rfl (dA (xmp rfl (xN0 rfl (xf 1 zbg rfl (xf 3 zch rfl (xap rfl ?_))))))))
 refine dB (xmi rfl (TL.geqT rfl rfl (by omega) rfl rfl (xmt rfl (xmi rfl (xmp rfl (xN0 rfl (xf 0 zaM rfl (TL.ld 0 (.slice (some ⟨_,_,none⟩) _ _) rfl rfl rfl zcx rfl rfl ?_))))))))
 refine xz zas rfl (TL.lssT rfl rfl (by omega) rfl rfl (xpT rfl (xmt rfl (xmp rfl (xN0 rfl (xf 0 zaM rfl (TL.ld 0 (.slice (some ⟨_,_,none⟩) _ _) rfl rfl rfl zcx rfl rfl (xmi rfl ?_))))))))
 refine TL.ia _ rfl rfl zas (by omega) (by omega) rfl rfl rfl (TL.ldM 1 rfl rfl (by omega) (by omega) zeD rfl rfl (xmi rfl (TL.eqlT rfl rfl h2 rfl rfl (xpT rfl (TL.done (TQ.then (TC.condT rfl (TC.region ?_))))))))
 refine xmp rfl (xN0 rfl (xf 1 zbg rfl (xf 2 zcN rfl (xap rfl (dA (xmp rfl (xmi rfl (xmp rfl ?_))))))))
 refine TL.callD [0] [0] (at_Xi h0 h1) ⟨rfl,rfl,rfl,trivial⟩ ⟨rfl,trivial⟩ zeF rfl rfl rfl rfl rfl trivial (xap rfl (dB (xmp rfl (TL.nilP false rfl rfl zdm rfl rfl rfl (TL.done (TQ.then (TC.condF rfl (TC.skip ?_))))))))
 refine TQ.then (sB (xmp rfl (xN0 rfl (TL.ldM 1 rfl rfl (by omega) (by omega) zeD rfl rfl (xmi rfl (TL.neqF rfl rfl (fun h=>h h2) rfl rfl (dF rfl (xmp rfl ?_))))))))
 refine xmi rfl (xN0 rfl (TL.stM 1 rfl rfl rfl (by omega) (by omega) (by omega) zeD rfl rfl trivial (dA (xat rfl (xai rfl (dR ?_))))))
 refine FQ.ret2 (v:=(.bool true)) (x:=(.int _ _)) (Bs:=[_,_]) [0,1] rfl rfl rfl rfl ⟨rfl,rfl,trivial⟩ ?_
 exact ⟨rfl,rfl⟩
theorem zss {ab mb cap:Nat} {rs:Array Value} {σ:Array UInt64} {c:Cnt} {i:Int} (h0:0≤i) (h1:i<σ.size) {z:Int} (hz:0≤z∧z<18446744073709551616) {y:Int} (hv:0≤y∧y<18446744073709551616) (h2:MemLike.get σ i≠z):FnD Tryz.prog 118 [.pointer (some ⟨ab,0,none⟩),.int .i64 i,.int .u64 z,.int .u64 y] [arO ab mb (σ.size) cap 140 c,pt mb (.cells (encM (σ)++rs) 71)] (.tuple #[.bool false,.int .i64 0]) [arO ab mb (σ.size) cap 140 c.ms,pt mb (.cells (encM (σ)++rs) 71)]:=by
 refine Fn.enter (Tryz.func118) rfl rfl (fun w0 R=>?_)
 refine sA (xaf rfl (xai rfl (dA (xmp rfl (xN0 rfl (xf 1 zbg rfl (xf 3 zch rfl (xap rfl ?_))))))))
 refine dB (xmi rfl (TL.geqT rfl rfl (by omega) rfl rfl (xmt rfl (xmi rfl (xmp rfl (xN0 rfl (xf 0 zaM rfl (TL.ld 0 (.slice (some ⟨_,_,none⟩) _ _) rfl rfl rfl zcx rfl rfl ?_))))))))
 refine xz zas rfl (TL.lssT rfl rfl (by omega) rfl rfl (xpT rfl (xmt rfl (xmp rfl (xN0 rfl (xf 0 zaM rfl (TL.ld 0 (.slice (some ⟨_,_,none⟩) _ _) rfl rfl rfl zcx rfl rfl (xmi rfl ?_))))))))
 refine TL.ia _ rfl rfl zas (by omega) (by omega) rfl rfl rfl (TL.ldM 1 rfl rfl (by omega) (by omega) zeD rfl rfl (xmi rfl (TL.eqlF rfl rfl h2 rfl rfl (xpG rfl (dF rfl (xmp rfl (xmi rfl (xmp rfl ?_))))))))
 refine TL.callD [0] [0] (at_Mi h0 h1) ⟨rfl,rfl,rfl,trivial⟩ ⟨rfl,trivial⟩ zeF rfl rfl rfl rfl rfl trivial (xap rfl (dB (xmp rfl (TL.nilP false rfl rfl zdm rfl rfl rfl (TL.done (TQ.then (TC.condF rfl (TC.skip ?_))))))))
 refine TQ.then (sB (xmp rfl (xN0 rfl (TL.ldM 1 rfl rfl (by omega) (by omega) zeD rfl rfl (xmi rfl (TL.neqT rfl rfl h2 rfl rfl (dT rfl (xaf rfl ?_))))))))
 refine xai rfl (dRR ?_)
 refine FQ.ret2 (v:=(.bool false)) (x:=(.int _ _)) (Bs:=[_,_]) [0,1] rfl rfl rfl rfl ⟨rfl,rfl,trivial⟩ ?_
 exact ⟨rfl,rfl⟩
theorem zsr {ab mb cap:Nat} {rs:Array Value} {σ:Array UInt64} {c:Cnt} {i:Int} (h:¬(0≤i∧i<σ.size)) {z:Int} (hz:0≤z∧z<18446744073709551616) {y:Int} (hv:0≤y∧y<18446744073709551616):FnD Tryz.prog 118 [.pointer (some ⟨ab,0,none⟩),.int .i64 i,.int .u64 z,.int .u64 y] [arO ab mb (σ.size) cap 140 c,pt mb (.cells (encM (σ)++rs) 71)] (.tuple #[.bool false,.int .i64 20]) [arO ab mb (σ.size) cap 140 c,pt mb (.cells (encM (σ)++rs) 71)]:=by
 refine Fn.enter (Tryz.func118) rfl rfl (fun w0 R=>?_)
 refine sA (xaf rfl (xai rfl (dA (xmp rfl (xN0 rfl (xf 1 zbg rfl (xf 3 zch rfl (xap rfl ?_))))))))
 refine dB (xmi rfl (TL.geq rfl rfl rfl rfl (fun q1=>?_) (fun q1=>?_)))
 refine xmt rfl (xmi rfl (xmp rfl (xN0 rfl (xf 0 zaM rfl (TL.ld 0 (.slice (some ⟨_,_,none⟩) _ _) rfl rfl rfl zcx rfl rfl (xz zas rfl (TL.lss rfl rfl rfl rfl (fun q2=>?_) (fun q2=>?_))))))))
 refine xpT rfl (xmt rfl (xmp rfl (xN0 rfl (xf 0 zaM rfl (TL.ld 0 (.slice (some ⟨_,_,none⟩) _ _) rfl rfl rfl zcx rfl rfl (xmi rfl (TL.ia _ rfl rfl zas (by omega) (by omega) rfl rfl rfl (TL.ldM 1 rfl rfl (by omega) (by omega) zeD rfl rfl ?_))))))))
 refine xmi rfl (TL.eql rfl rfl rfl rfl (fun q3=>?_) (fun q3=>?_))
 refine xpT rfl (TL.done (TQ.then (TC.condT rfl (TC.region (xmp rfl (xN0 rfl (xf 1 zbg rfl (xf 2 zcN rfl ?_))))))))
 refine xap rfl (dA (xmp rfl (xmi rfl (xmp rfl (TL.callD [0] [0] (at_o h) ⟨rfl,rfl,rfl,trivial⟩ ⟨rfl,trivial⟩ zeF rfl rfl rfl rfl rfl trivial (TL.asg (.pointer none) rfl rfl rfl (dB (TL.mv (.pointer none) rfl rfl rfl ?_))))))))
 refine TL.nilP true rfl rfl zdm rfl rfl rfl (dT rfl (xaf rfl (xai rfl (dRR ?_))))
 refine FQ.ret2 (v:=(.bool false)) (x:=(.int _ _)) (Bs:=[_,_]) [0,1] rfl rfl rfl rfl ⟨rfl,rfl,trivial⟩ ?_
 exact ⟨rfl,rfl⟩
 refine xpG rfl (dF rfl (xmp rfl (xmi rfl (xmp rfl (TL.callD [0] [0] (at_o h) ⟨rfl,rfl,rfl,trivial⟩ ⟨rfl,trivial⟩ zeF rfl rfl rfl rfl rfl trivial (TL.asg (.pointer none) rfl rfl rfl (dB (TL.mv (.pointer none) rfl rfl rfl ?_))))))))
 refine TL.nilP true rfl rfl zdm rfl rfl rfl (dT rfl (xaf rfl (xai rfl (dRR ?_))))
 refine FQ.ret2 (v:=(.bool false)) (x:=(.int _ _)) (Bs:=[_,_]) [0,1] rfl rfl rfl rfl ⟨rfl,rfl,trivial⟩ ?_
 exact ⟨rfl,rfl⟩
 refine xpG rfl (xmf rfl (xo rfl (xo rfl (xo rfl (xo rfl (xo rfl (xo rfl (xo rfl ?_))))))))
 refine xo rfl (xo rfl (xpF rfl (dF rfl (xmp rfl (xmi rfl (xmp rfl (TL.callD [0] [0] (at_o h) ⟨rfl,rfl,rfl,trivial⟩ ⟨rfl,trivial⟩ zeF rfl rfl rfl rfl rfl trivial (TL.asg (.pointer none) rfl rfl rfl ?_))))))))
 refine dB (TL.mv (.pointer none) rfl rfl rfl (TL.nilP true rfl rfl zdm rfl rfl rfl (dT rfl (xaf rfl (xai rfl (dRR ?_))))))
 refine FQ.ret2 (v:=(.bool false)) (x:=(.int _ _)) (Bs:=[_,_]) [0,1] rfl rfl rfl rfl ⟨rfl,rfl,trivial⟩ ?_
 exact ⟨rfl,rfl⟩
 refine xmf rfl (xo rfl (xo rfl (xo rfl (xo rfl (xo rfl (xo rfl (xo rfl (xpF rfl ?_))))))))
 refine xmf rfl (xo rfl (xo rfl (xo rfl (xo rfl (xo rfl (xo rfl (xo rfl (xo rfl ?_))))))))
 refine xo rfl (xpF rfl (dF rfl (xmp rfl (xmi rfl (xmp rfl (TL.callD [0] [0] (at_o h) ⟨rfl,rfl,rfl,trivial⟩ ⟨rfl,trivial⟩ zeF rfl rfl rfl rfl rfl trivial (TL.asg (.pointer none) rfl rfl rfl (dB ?_))))))))
 refine TL.mv (.pointer none) rfl rfl rfl (TL.nilP true rfl rfl zdm rfl rfl rfl (dT rfl (xaf rfl (xai rfl (dRR ?_)))))
 refine FQ.ret2 (v:=(.bool false)) (x:=(.int _ _)) (Bs:=[_,_]) [0,1] rfl rfl rfl rfl ⟨rfl,rfl,trivial⟩ ?_
 exact ⟨rfl,rfl⟩
theorem zhj {ab mb:Nat} {σ:Array UInt64} {c:Cnt} {i:Int}:FnD Tryz.prog 31 [.pointer (some ⟨ab,0,none⟩),.int .i64 i] [arenaC ab mb 140 71 (σ) (c)] (.tuple #[.int .u64 (MemLike.get σ i),.int .i64 (if 0≤i∧i<σ.size then 0 else 20)]) [arenaC ab mb 140 71 (σ) (cntL σ i c)]:=by
 unfold cntL
 by_cases h:0≤i∧i<σ.size
 ·rw [if_pos h,if_pos h]; exact Fn.arenaC rfl fun cap rs=>zsv h.1 h.2
 ·rw [if_neg h,if_neg h]; exact Fn.arenaC rfl fun cap rs=>zsu h
theorem zfT {ab mb:Nat} {σ:Array UInt64} {c:Cnt} {i v:Int} (hv:0≤v∧v<18446744073709551616):FnD Tryz.prog 55 [.pointer (some ⟨ab,0,none⟩),.int .i64 i,.int .u64 v] [arenaC ab mb 140 71 (σ) (c)] (.int .i64 (if 0≤i∧i<σ.size then 0 else 20)) [arenaC ab mb 140 71 (MemLike.st σ i v) (cntS σ i c)]:=by
 unfold cntS
 by_cases h:0≤i∧i<σ.size
 ·rw [if_pos h,if_pos h]; exact Fn.arenaC (zdW _ _ _) fun cap rs=>zpY h.1 h.2 hv
 ·rw [if_neg h,if_neg h]; exact Fn.arenaC (zdW _ _ _) fun cap rs=>zpX h hv
theorem ziD {ab mb:Nat} {σ:Array UInt64} {i:Int}:FnD Tryz.prog 31 [.pointer (some ⟨ab,0,none⟩),.int .i64 i] [zar ab mb 140 71 (σ)] (.tuple #[.int .u64 (MemLike.get σ i),.int .i64 (if 0≤i∧i<σ.size then 0 else 20)]) [zar ab mb 140 71 (σ)]:=Fn.arena fun _=>⟨_,zhj⟩
theorem zft {ab mb:Nat} {σ:Array UInt64} {i v:Int} (hv:0≤v∧v<18446744073709551616):FnD Tryz.prog 55 [.pointer (some ⟨ab,0,none⟩),.int .i64 i,.int .u64 v] [zar ab mb 140 71 (σ)] (.int .i64 (if 0≤i∧i<σ.size then 0 else 20)) [zar ab mb 140 71 (MemLike.st σ i v)]:=Fn.arena fun _=>⟨_,zfT hv⟩
theorem zoG {ab mb:Nat} {σ:Array UInt64} {c:Cnt} {i z y:Int} (h0:0≤i) (h1:i<σ.size) (h2:MemLike.get σ i=z) (hz:0≤z∧z<18446744073709551616) (hv:0≤y∧y<18446744073709551616):FnD Tryz.prog 118 [.pointer (some ⟨ab,0,none⟩),.int .i64 i,.int .u64 z,.int .u64 y] [arenaC ab mb 140 71 (σ) (c)] (.tuple #[.bool true,.int .i64 0]) [arenaC ab mb 140 71 (MemLike.st σ i y) (c.sw)] :=
 Fn.arenaC (zdW _ _ _) fun cap rs=>zst h0 h1 hz hv h2
theorem zl8 {ab mb:Nat} {σ:Array UInt64} {c:Cnt} {i z y:Int} (h0:0≤i) (h1:i<σ.size) (h2:MemLike.get σ i≠z) (hz:0≤z∧z<18446744073709551616) (hv:0≤y∧y<18446744073709551616):FnD Tryz.prog 118 [.pointer (some ⟨ab,0,none⟩),.int .i64 i,.int .u64 z,.int .u64 y] [arenaC ab mb 140 71 (σ) (c)] (.tuple #[.bool false,.int .i64 0]) [arenaC ab mb 140 71 (σ) (c.ms)] :=
 Fn.arenaC rfl fun cap rs=>zss h0 h1 hz hv h2
theorem zoF {ab mb:Nat} {σ:Array UInt64} {c:Cnt} {i z y:Int} (h:¬(0≤i∧i<σ.size)) (hz:0≤z∧z<18446744073709551616) (hv:0≤y∧y<18446744073709551616):FnD Tryz.prog 118 [.pointer (some ⟨ab,0,none⟩),.int .i64 i,.int .u64 z,.int .u64 y] [arenaC ab mb 140 71 (σ) (c)] (.tuple #[.bool false,.int .i64 20]) [arenaC ab mb 140 71 (σ) (c)] :=
 Fn.arenaC rfl fun cap rs=>zsr h hz hv
def zhY (σ:Array UInt64) (i z y:Int):Bool×Array UInt64:=if (0≤i∧i<σ.size)∧MemLike.get σ i=z then (true,MemLike.st σ i y) else (false,σ)
theorem zpN {ab mb:Nat} {σ:Array UInt64} {c:Cnt} {i z y:Int} (hz:0≤z∧z<18446744073709551616) (hv:0≤y∧y<18446744073709551616):FnD Tryz.prog 118 [.pointer (some ⟨ab,0,none⟩),.int .i64 i,.int .u64 z,.int .u64 y] [arenaC ab mb 140 71 (σ) (c)] (.tuple #[.bool (zhY σ i z y).1,.int .i64 (if 0≤i∧i<σ.size then 0 else 20)]) [arenaC ab mb 140 71 ((zhY σ i z y).2) (cntX σ i z c)]:=by
 unfold zhY cntX
 by_cases h:0≤i∧i<σ.size
 ·by_cases h2:MemLike.get σ i=z
  ·rw [if_pos ⟨h,h2⟩,if_pos h,if_pos h,if_pos h2]; exact zoG h.1 h.2 h2 hz hv
  ·rw [if_neg (fun q=>h2 q.2),if_pos h,if_pos h,if_neg h2]; exact zl8 h.1 h.2 h2 hz hv
 ·rw [if_neg (fun q=>h q.1),if_neg h,if_neg h]; exact zoF h hz hv
theorem zpc {ab mb:Nat} {σ:Array UInt64} {i:Int}:FnD Tryz.prog 214 [.agg #[.pointer (some ⟨ab,0,none⟩)],.int .i64 i] [zar ab mb 140 71 (σ)] (.int .u64 (MemLike.get σ i)) [zar ab mb 140 71 (σ)]:=by
 refine Fn.enter (Tryz.func214) rfl rfl (fun w0 R=>?_)
 refine sA (xB 1 rfl (fun bk1=>(xai rfl (dA (xf 0 zhG rfl (xlp 1 zf4 rfl rfl (xmi rfl (TL.callD [0] [0] ziD ⟨rfl,rfl,trivial⟩ ⟨rfl,trivial⟩ zje rfl rfl rfl rfl rfl trivial (xmu rfl ?_)))))))))
 refine xei rfl rfl (xei rfl rfl (xai rfl (xai rfl (dA (xmi rfl (xai rfl (dR ?_)))))))
 refine FQ.ret1 (v:=(.int _ _)) (Bs:=[zar ab mb 140 71 (σ)]) [0] rfl rfl rfl ⟨rfl,trivial⟩ ?_
 exact ⟨rfl,rfl⟩
theorem zmR {ab mb:Nat} {σ:Array UInt64} {i:Int} {y:Int} (hv:0≤y∧y<18446744073709551616):FnD Tryz.prog 215 [.agg #[.pointer (some ⟨ab,0,none⟩)],.int .i64 i,.int .u64 y] [zar ab mb 140 71 (σ)] (.tuple #[]) [zar ab mb 140 71 (MemLike.st σ i y)]:=by
 refine Fn.enter (Tryz.func215) rfl rfl (fun w0 R=>?_)
 refine sA (xB 1 rfl (fun bk1=>(dG (xf 0 zhG rfl (xlp 1 zf4 rfl rfl (xmi rfl (xmi rfl (TL.callD [0] [0] (zft hv) ⟨rfl,rfl,rfl,trivial⟩ ⟨rfl,trivial⟩ zhL rfl rfl rfl rfl rfl trivial (TL.done ?_)))))))))
 refine FQ.end0 (Bs:=[_]) [0] rfl rfl ⟨rfl,trivial⟩ ?_
 exact ⟨rfl,rfl⟩
theorem zd7 {ab mb:Nat}:MemI (S:=Array UInt64) Tryz.prog 88 (.agg #[.pointer (some ⟨ab,0,none⟩)]) (zar ab mb 140 71) :=
 ⟨⟨214,_,zkW (by kernel_rfl) (by kernel_rfl),fun _ _=>zpc⟩,⟨215,_,zkW (by kernel_rfl) (by kernel_rfl),fun _ _ _ hv=>zmR hv⟩⟩
theorem zsp {N:Nat} (hN:N≤16384):Go.Eng.Fn Tryz.prog 92 [.int .i64 ((N:Nat):Int)] [] (fun v Bs=>∃ ab mb,v=.tuple #[.pointer (some ⟨ab,0,none⟩),.int .i64 0]∧Bs=[arenaC ab mb 140 71 (Array.replicate N 0) (⟨0,0,0,0,0⟩)]):=by
 refine Fn.enter (Tryz.func92) rfl rfl (fun w0 R=>?_)
 refine sA (TL.asg (.pointer none) rfl rfl rfl (xai rfl (dB (xmi rfl (TL.lssF rfl rfl (by omega) rfl rfl (xmf rfl (xmi rfl (TL.gtrF rfl rfl (by omega) rfl rfl ?_))))))))
 refine xpF rfl (dF rfl (xmi rfl (TL.mkS 0 rfl rfl zkc zsZ rfl (by omega) rfl rfl (fun bk0=>⟨trivial,?_⟩))))
 refine TL.bld [.slice none 0 0,.int .i64 0,.int .i64 0,.int .i64 0,.int .i64 0,.int .i64 0] [(.slice _ _ _)] [_,_,_,_,_,_] zrC zrJ ⟨rfl,trivial⟩ ⟨rfl,rfl⟩ rfl rfl (xB 1 rfl (fun bk1=>(xap rfl (xai rfl (dR (TQ.conseq 0 (B:=pt _ (.cells (encM (Array.replicate N 0)++#[]) 71)) rfl (fun h hh=>by rw [←zpF,Array.append_empty]; exact hh) (TQ.arenaC 1 0 (N:=N) (c:=⟨0,0,0,0,0⟩) (by simp) rfl rfl (by decide) ?_)))))))
 refine FQ.ret2 (v:=(.pointer (some ⟨_,_,none⟩))) (x:=(.int _ _)) (Bs:=[_]) [1] rfl rfl rfl rfl ⟨rfl,trivial⟩ ?_
 exact ⟨_,_,rfl,rfl⟩
theorem zgh {ab:Nat}:FnD Tryz.prog 38 [.pointer (some ⟨ab,0,none⟩)] [] (.agg #[.pointer (some ⟨ab,0,none⟩)]) []:=by
 refine Fn.enter (Tryz.func38) rfl rfl (fun w0 R=>?_)
 refine sA (TL.alloc 0 (cs:=#[.pointer none]) znx rfl rfl rfl (fun _=>trivial) (fun bk0=>(dA (xmp rfl (TL.bld [.pointer none] [(.pointer (some ⟨_,_,none⟩))] [_] znx zs7 ⟨rfl,trivial⟩ ⟨rfl,rfl⟩ rfl rfl (TL.stW 0 1 [_] rfl rfl rfl rfl rfl rfl zdS rfl rfl trivial (dR ?_)))))))
 refine FQ.retG (rs:=[.cell 2 88]) [(.agg _)] (Bs:=[]) [] rfl ⟨⟨_,_,_,_,_,0,rfl,rfl,.inr ⟨1,[_],zdS,rfl,rfl⟩⟩,trivial⟩ rfl rfl trivial ?_
 exact ⟨rfl,rfl⟩
theorem zsx {x:Int}:FnD Tryz.prog 115 [.int .i64 x] [] (wdV (wofI x)) []:=by
 refine Fn.enter (Tryz.func115) rfl rfl (fun w0 R=>?_)
 refine sA (TL.alloc 0 (cs:=#[.int .i64 0,.int .i64 0,.int .i64 0,.int .i64 0]) zbt rfl rfl rfl (fun _=>trivial) (fun bk0=>(dA (xmi rfl (TL.max2 rfl rfl rfl rfl (TL.min2 rfl rfl rfl rfl (xai rfl (dA (xmi rfl ?_)))))))))
 refine xmi rfl (TL.bld [.int .i64 0,.int .i64 0,.int .i64 0,.int .i64 0] [(.int _ _),(.int _ _)] [_,_,_,_] zbt zfK ⟨rfl,rfl,trivial⟩ ⟨rfl,rfl⟩ rfl rfl (TL.stW 0 4 [_,_,_,_] rfl rfl rfl rfl rfl rfl zan rfl rfl trivial (dR ?_)))
 refine FQ.retG (rs:=[.cell 2 175]) [(.agg _)] (Bs:=[]) [] rfl ⟨⟨_,_,_,_,_,0,rfl,rfl,.inr ⟨4,[_,_,_,_],zan,rfl,rfl⟩⟩,trivial⟩ rfl rfl trivial ?_
 exact ⟨rfl,rfl⟩
theorem zqT {tag:Int} {dn:Bool} (h:0≤tag∧tag≤16777215):FnD Tryz.prog 133 [.int .i64 tag,.bool dn] [] (.tuple #[.int .u64 (zbD tag dn),.int .i64 0]) []:=by
 refine Fn.enter (Tryz.func133) rfl rfl (fun w0 R=>?_)
 refine sA (xai rfl (xai rfl (dB (xmi rfl (TL.callD [] [] zdn ⟨rfl,rfl,trivial⟩ trivial zfN rfl rfl rfl rfl rfl trivial ?_)))))
 rw [decide_eq_true h]
 refine xnt rfl (dF rfl (xmi rfl (TL.conv _ rfl zeM zaX (rfl) rfl rfl (TL.shl _ rfl rfl (by decide) rfl rfl rfl (xai rfl (dB (xmb rfl (TL.cases rfl (fun q1=>?_) (fun q1=>?_)))))))))
 refine TL.done (TQ.then (TC.condT rfl (TC.region (xmi rfl (TL.or _ rfl rfl rfl rfl rfl (xai rfl (dA (xmi rfl ?_))))))))
 refine xai rfl (xai rfl (dR ?_))
 refine FQ.ret2 (v:=(.int _ _)) (x:=(.int _ _)) (Bs:=[]) [] rfl rfl rfl rfl trivial ?_
 first | exact ⟨by unfold zbD; rw [if_pos q1]; rfl,rfl⟩ | exact ⟨by unfold zbD; rw [if_neg (by rw [q1]; decide)]; rfl,rfl⟩
 refine dF rfl (xmi rfl (xai rfl (xai rfl (dR ?_))))
 refine FQ.ret2 (v:=(.int _ _)) (x:=(.int _ _)) (Bs:=[]) [] rfl rfl rfl rfl trivial ?_
 first | exact ⟨by unfold zbD; rw [if_pos q1]; rfl,rfl⟩ | exact ⟨by unfold zbD; rw [if_neg (by rw [q1]; decide)]; rfl,rfl⟩
theorem zqS {tag:Int} {dn:Bool} (h:¬(0≤tag∧tag≤16777215)):FnD Tryz.prog 133 [.int .i64 tag,.bool dn] [] (.tuple #[.int .u64 0,.int .i64 11]) []:=by
 refine Fn.enter (Tryz.func133) rfl rfl (fun w0 R=>?_)
 refine sA (xai rfl (xai rfl (dB (xmi rfl (TL.callD [] [] zdn ⟨rfl,rfl,trivial⟩ trivial zfN rfl rfl rfl rfl rfl trivial ?_)))))
 rw [decide_eq_false h]
 refine xnf rfl (dT rfl (xai rfl (xai rfl (dRR ?_))))
 refine FQ.ret2 (v:=(.int _ _)) (x:=(.int _ _)) (Bs:=[]) [] rfl rfl rfl rfl trivial ?_
 exact ⟨rfl,rfl⟩
theorem zsC {v:Int}:FnD Tryz.prog 159 [.int .u64 v] [] (.tuple #[.int .i64 (tagV v).1,.bool (tagV v).2.1,.int .i64 (if (tagV v).2.2=true then 0 else 21)]) []:=by
 refine Fn.enter (Tryz.func159) rfl rfl (fun w0 R=>?_)
 refine sA (xai rfl (xaf rfl (xai rfl (dB (xmi rfl (TL.shr _ rfl rfl (by decide) rfl rfl rfl (TL.gtr rfl rfl rfl rfl (fun q1=>?_) (fun q1=>?_))))))))
 refine dT rfl (xai rfl (xaf rfl (xai rfl (dRR ?_))))
 refine FQ.ret3 (v:=(.int _ _)) (x:=(.bool false)) (y:=(.int _ _)) (Bs:=[]) [] rfl rfl rfl rfl rfl trivial ?_
 have q:shrU v 1 > 16777215:=q1
 exact ⟨by unfold tagV; rw [if_pos q]; rfl,rfl⟩
 refine dF rfl (xmi rfl (TL.shr _ rfl rfl (by decide) rfl rfl rfl (TL.conv _ rfl zeC zby (rfl) rfl rfl (xmi rfl (TL.and _ rfl rfl rfl rfl rfl (TL.eqlV rfl rfl rfl rfl (xai rfl (xab rfl ?_))))))))
 refine xai rfl (dR ?_)
 refine FQ.ret3 (v:=(.int _ _)) (x:=(.bool _)) (y:=(.int _ _)) (Bs:=[]) [] rfl rfl rfl rfl rfl trivial ?_
 have q:¬(shrU v 1 > 16777215):=q1
 exact ⟨by unfold tagV; rw [if_neg q]; rfl,rfl⟩
theorem zmh {o m t g:Int} {tag:Int} {dn:Bool}:FnD Tryz.prog 160 [.agg #[.int .i64 o,.int .i64 m,.int .i64 t,.int .i64 g],.int .i64 tag,.bool dn] [] (.int .i64 (zeB (⟨o,m,t,g⟩:Wd) tag dn)) []:=by
 refine Fn.enter (Tryz.func160) rfl rfl (fun w0 R=>?_)
 refine sA (xB 0 rfl (fun bk0=>(xai rfl (dB (xL4 0 zan rfl rfl (TL.callD [] [] zgF ⟨rfl,trivial⟩ trivial zko rfl rfl rfl rfl rfl trivial (TL.casesP rfl (fun q1=>?_) (fun q1=>?_))))))))
 refine xmt rfl (xo rfl (xo rfl (xo rfl (xo rfl (xpT rfl (xmt rfl (xo rfl (xo rfl ?_))))))))
 refine xo rfl (xo rfl (xo rfl (xo rfl (xo rfl (xpT rfl (dT rfl (xf 1 za0 rfl (xli 0 zae rfl rfl ?_))))))))
 refine xai rfl (dRR ?_)
 refine FQ.ret1 (v:=(.int _ _)) (Bs:=[]) [] rfl rfl rfl trivial ?_
 exact ⟨iE (by unfold zeB; rw [if_pos (.inl q1)]),rfl⟩
 refine xmf rfl (xmi rfl (xf 3 zcj rfl (xli 0 zae rfl rfl (TL.gtr rfl rfl rfl rfl (fun q2=>?_) (fun q2=>?_)))))
 refine xpH rfl (xmt rfl (xo rfl (xo rfl (xo rfl (xo rfl (xo rfl (xo rfl (xo rfl ?_))))))))
 refine xpT rfl (dT rfl (xf 1 za0 rfl (xli 0 zae rfl rfl (xai rfl (dRR ?_)))))
 refine FQ.ret1 (v:=(.int _ _)) (Bs:=[]) [] rfl rfl rfl trivial ?_
 exact ⟨iE (by unfold zeB; rw [if_pos (.inr (.inl q2))]),rfl⟩
 refine xpF rfl (xmf rfl (xmi rfl (xf 3 zcj rfl (xli 0 zae rfl rfl (TL.eql rfl rfl rfl rfl (fun q3=>?_) (fun q3=>?_))))))
 refine xmt rfl (xmb rfl (TL.cases rfl (fun q4=>?_) (fun q4=>?_)))
 refine xpT rfl (xpH rfl (dT rfl (xf 1 za0 rfl (xli 0 zae rfl rfl (xai rfl (dRR ?_))))))
 refine FQ.ret1 (v:=(.int _ _)) (Bs:=[]) [] rfl rfl rfl trivial ?_
 exact ⟨iE (by unfold zeB; rw [if_pos (.inr (.inr ⟨q3,q4⟩))]),rfl⟩
 refine xpG rfl (xpF rfl (dF rfl (xf 0 zbf rfl (xli 0 zae rfl rfl (xai rfl (dR ?_))))))
 refine FQ.ret1 (v:=(.int _ _)) (Bs:=[]) [] rfl rfl rfl trivial ?_
 exact ⟨iE (by unfold zeB; rw [if_neg (fun h=>h.elim q1 (fun h=>h.elim q2 (fun h=>by have:=h.2; rw [q4] at this; cases this)))]),rfl⟩
 refine xmf rfl (xo rfl (xpF rfl (xpF rfl (dF rfl (xf 0 zbf rfl (xli 0 zae rfl rfl (xai rfl (dR ?_))))))))
 refine FQ.ret1 (v:=(.int _ _)) (Bs:=[]) [] rfl rfl rfl trivial ?_
 exact ⟨iE (by unfold zeB; rw [if_neg (fun h=>h.elim q1 (fun h=>h.elim q2 (fun h=>q3 h.1)))]),rfl⟩
theorem zi1 {l:Lay} (hl:l.Ok) {t:Int}:FnD Tryz.prog 53 [layV l,.int .i64 t] [] (.int .i64 (l.state t)) []:=by
 have hb:=za3 hl
 refine Fn.enter (Tryz.func53) rfl rfl (fun w0 R=>?_)
 refine sA (xB 0 rfl (fun bk0=>(xai rfl (dB (xmi rfl (TL.sub _ rfl rfl (rfl) rfl rfl (xf 2 zdy rfl (xli 0 zae rfl rfl (TL.callD [] [] za4 ⟨rfl,rfl,trivial⟩ trivial zbw rfl rfl rfl rfl rfl trivial ?_)))))))))
 refine TL.casesP rfl (fun q1=>?_) (fun q1=>?_)
 refine xnt rfl (dF rfl (xmi rfl (TL.sub _ rfl rfl (rfl) rfl rfl (xai rfl (dR ?_)))))
 refine FQ.ret1 (v:=(.int _ _)) (Bs:=[]) [] rfl rfl rfl trivial ?_
 first | exact ⟨iE (by unfold Lay.state; rw [if_pos (by omega)]),rfl⟩ | exact ⟨iE (by unfold Lay.state; rw [if_neg (by omega)]),rfl⟩
 refine xnf rfl (dT rfl (xai rfl (dRR ?_)))
 refine FQ.ret1 (v:=(.int _ _)) (Bs:=[]) [] rfl rfl rfl trivial ?_
 first | exact ⟨iE (by unfold Lay.state; rw [if_pos (by omega)]),rfl⟩ | exact ⟨iE (by unfold Lay.state; rw [if_neg (by omega)]),rfl⟩
theorem zkZ {l:Lay} (hl:l.Ok) {s:Int}:FnD Tryz.prog 121 [layV l,.int .i64 s] [] (.int .i64 (l.of s 0)) []:=by
 have hb:=za3 hl
 refine Fn.enter (Tryz.func121) rfl rfl (fun w0 R=>?_)
 refine sA (xB 0 rfl (fun bk0=>(xai rfl (dA (xL3 0 zaa rfl rfl (xmi rfl (TL.callD [] [] (zm0 hl (by omega)) ⟨rfl,rfl,rfl,trivial⟩ trivial zg6 rfl rfl rfl rfl rfl trivial (xai rfl (dR ?_)))))))))
 refine FQ.ret1 (v:=(.int _ _)) (Bs:=[]) [] rfl rfl rfl trivial ?_
 exact ⟨rfl,rfl⟩
theorem zlL {o m t g:Int} {v:Int}:FnD Tryz.prog 130 [.agg #[.int .i64 o,.int .i64 m,.int .i64 t,.int .i64 g],.int .u64 v] [] (.int .i64 (zcc (⟨o,m,t,g⟩:Wd) v)) []:=by
 refine Fn.enter (Tryz.func130) rfl rfl (fun w0 R=>?_)
 refine sA (xB 0 rfl (fun bk0=>(xai rfl (dA (xmi rfl (TL.callD [] [] zsC ⟨rfl,trivial⟩ trivial zrX rfl rfl rfl rfl rfl trivial (xmu rfl (xei rfl rfl (TL.ext (.bool _) rfl rfl rfl rfl ?_)))))))))
 refine xei rfl rfl (xai rfl (xab rfl (xai rfl (dB (xmi rfl (TL.neq rfl rfl rfl rfl (fun q1=>?_) (fun q1=>?_)))))))
 refine dT rfl (xai rfl (dRR ?_))
 refine FQ.ret1 (v:=(.int _ _)) (Bs:=[]) [] rfl rfl rfl trivial ?_
 first | exact ⟨iE (by unfold zcc; rw [if_neg (fun hc=>q1 ((zjh (e:=21) (by decide)).2 hc))]),rfl⟩ | exact ⟨iE (by unfold zcc; rw [if_pos ((zjh (e:=21) (by decide)).1 (by omega))]),rfl⟩
 refine dF rfl (xL4 0 zan rfl rfl (xmi rfl (xmb rfl (TL.callD [] [] zmh ⟨rfl,rfl,rfl,trivial⟩ trivial zrW rfl rfl rfl rfl rfl trivial (xai rfl (dR ?_))))))
 refine FQ.ret1 (v:=(.int _ _)) (Bs:=[]) [] rfl rfl rfl trivial ?_
 first | exact ⟨iE (by unfold zcc; rw [if_neg (fun hc=>q1 ((zjh (e:=21) (by decide)).2 hc))]),rfl⟩ | exact ⟨iE (by unfold zcc; rw [if_pos ((zjh (e:=21) (by decide)).1 (by omega))]),rfl⟩
theorem zjo {o m t g:Int}:FnD Tryz.prog 114 [.agg #[.int .i64 o,.int .i64 m,.int .i64 t,.int .i64 g]] [] (wdV (wofI m)) []:=by
 refine Fn.enter (Tryz.func114) rfl rfl (fun w0 R=>?_)
 refine sA (xB 0 rfl (fun bk0=>(TL.alloc 1 (cs:=#[.int .i64 0,.int .i64 0,.int .i64 0,.int .i64 0]) zbt rfl rfl rfl (fun _=>trivial) (fun bk1=>(dA (xf 1 za0 rfl (xli 0 zae rfl rfl (TL.callD [] [] zsx ⟨rfl,trivial⟩ trivial zr7 rfl rfl rfl rfl rfl trivial (TL.stW 1 4 [_,_,_,_] rfl rfl rfl rfl rfl rfl zan rfl rfl trivial (dR ?_))))))))))
 refine FQ.retG (rs:=[.cell 2 175]) [(.agg _)] (Bs:=[]) [] rfl ⟨⟨_,_,_,_,_,1,rfl,rfl,.inr ⟨4,[_,_,_,_],zan,rfl,rfl⟩⟩,trivial⟩ rfl rfl trivial ?_
 exact ⟨rfl,rfl⟩
theorem zov {S:Type} [MemLike S] {mt:TypeId} {mv:Value} {A:S→Assn} (hM:MemI Tryz.prog mt mv A) {σ:S} {c:Int} (h:(zac (MemLike.get σ c)).2=false):FnD Tryz.prog 113 [.iface mt mv,.int .i64 c,.func (.func 114) #[] #[]] [A σ] (.tuple #[]) [A (MemLike.ld σ c)]:=by
 refine Fn.enter (Tryz.func113) rfl rfl (fun w0 R=>?_)
 refine sA (xmc rfl (xmi rfl (TL.mload 0 hM rfl rfl rfl rfl rfl trivial (TL.callD [] [] zcr ⟨rfl,trivial⟩ trivial zee rfl rfl rfl rfl rfl trivial (xmu rfl (TL.ext (.agg _) rfl rfl rfl rfl (xei rfl rfl (TL.alloc 1 (cs:=#[.int .i64 0,.int .i64 0,.int .i64 0,.int .i64 0]) zbt rfl rfl rfl (fun _=>trivial) (fun bk1=>?_)))))))))
 refine TL.stW 1 4 [_,_,_,_] rfl rfl rfl rfl rfl rfl zan rfl rfl trivial (xai rfl (dB (xmi rfl (TL.neqT rfl rfl (by rw [h]; decide) rfl rfl (TL.done (TQ.then (TC.condT rfl (TC.ret ?_))))))))
 refine TQ.thenRet ?_
 refine FQ.ret0 (Bs:=[A (MemLike.ld σ c)]) [0] rfl rfl ⟨rfl,trivial⟩ ?_
 exact ⟨rfl,rfl⟩
theorem zou {S:Type} [MemLike S] {mt:TypeId} {mv:Value} {A:S→Assn} (hM:MemI Tryz.prog mt mv A) {σ:S} {c:Int} (h:(zac (MemLike.get σ c)).2=true) (h2:(wofI (zac (MemLike.get σ c)).1.new).right=false):FnD Tryz.prog 113 [.iface mt mv,.int .i64 c,.func (.func 114) #[] #[]] [A σ] (.tuple #[]) [A (MemLike.ld σ c)]:=by
 refine Fn.enter (Tryz.func113) rfl rfl (fun w0 R=>?_)
 refine sA (xmc rfl (xmi rfl (TL.mload 0 hM rfl rfl rfl rfl rfl trivial (TL.callD [] [] zcr ⟨rfl,trivial⟩ trivial zee rfl rfl rfl rfl rfl trivial (xmu rfl (TL.ext (.agg _) rfl rfl rfl rfl (xei rfl rfl (TL.alloc 1 (cs:=#[.int .i64 0,.int .i64 0,.int .i64 0,.int .i64 0]) zbt rfl rfl rfl (fun _=>trivial) (fun bk1=>?_)))))))))
 refine TL.stW 1 4 [_,_,_,_] rfl rfl rfl rfl rfl rfl zan rfl rfl trivial (xai rfl (dB (xmi rfl (TL.neqF rfl rfl (by rw [h]; decide) rfl rfl (dF rfl (TL.mv (.func _ _ _) rfl rfl rfl (xL4 1 zan rfl rfl (TL.callC (c1:=[]) (c2:=[]) (vs:=[_]) [] [] rfl zjo ⟨rfl,trivial⟩ trivial zn8 rfl rfl rfl rfl rfl trivial ?_))))))))
 refine TL.callD [] [] zh8 ⟨rfl,trivial⟩ trivial ziv rfl rfl rfl rfl rfl trivial (xmu rfl (xei rfl rfl (xei rfl rfl (xai rfl (xai rfl (dA (xmi rfl (TL.eqlF rfl rfl (by rw [h2]; decide) rfl rfl ?_))))))))
 refine TL.done (TQ.then (TC.condF rfl (TC.skip ?_)))
 refine FQ.end0 (Bs:=[A (MemLike.ld σ c)]) [0] rfl rfl ⟨rfl,trivial⟩ ?_
 exact ⟨rfl,rfl⟩
theorem zot {S:Type} [MemLike S] {mt:TypeId} {mv:Value} {A:S→Assn} (hM:MemI Tryz.prog mt mv A) {σ:S} {c:Int} (h:(zac (MemLike.get σ c)).2=true) (h2:(wofI (zac (MemLike.get σ c)).1.new).right=true):FnD Tryz.prog 113 [.iface mt mv,.int .i64 c,.func (.func 114) #[] #[]] [A σ] (.tuple #[]) [A (MemLike.st (MemLike.ld σ c) c (wofI (zac (MemLike.get σ c)).1.new).pack)]:=by
 refine Fn.enter (Tryz.func113) rfl rfl (fun w0 R=>?_)
 refine sA (xmc rfl (xmi rfl (TL.mload 0 hM rfl rfl rfl rfl rfl trivial (TL.callD [] [] zcr ⟨rfl,trivial⟩ trivial zee rfl rfl rfl rfl rfl trivial (xmu rfl (TL.ext (.agg _) rfl rfl rfl rfl (xei rfl rfl (TL.alloc 1 (cs:=#[.int .i64 0,.int .i64 0,.int .i64 0,.int .i64 0]) zbt rfl rfl rfl (fun _=>trivial) (fun bk1=>?_)))))))))
 refine TL.stW 1 4 [_,_,_,_] rfl rfl rfl rfl rfl rfl zan rfl rfl trivial (xai rfl (dB (xmi rfl (TL.neqF rfl rfl (by rw [h]; decide) rfl rfl (dF rfl (TL.mv (.func _ _ _) rfl rfl rfl (xL4 1 zan rfl rfl (TL.callC (c1:=[]) (c2:=[]) (vs:=[_]) [] [] rfl zjo ⟨rfl,trivial⟩ trivial zn8 rfl rfl rfl rfl rfl trivial ?_))))))))
 refine TL.callD [] [] zh8 ⟨rfl,trivial⟩ trivial ziv rfl rfl rfl rfl rfl trivial (xmu rfl (xei rfl rfl (xei rfl rfl (xai rfl (xai rfl (dA (xmi rfl (TL.eqlT rfl rfl (by rw [h2]; decide) rfl rfl ?_))))))))
 refine TL.done (TQ.then (TC.condT rfl (TC.region (xmc rfl (xmi rfl (xmi rfl (TL.mstore 0 hM rfl rfl rfl (by rw [h2]; exact zcY _ _) rfl rfl rfl trivial (TL.done ?_))))))))
 refine FQ.end0 (Bs:=[A _]) [0] rfl rfl ⟨rfl,trivial⟩ ?_
 exact ⟨rfl,by rw [h2]; rfl⟩
theorem zl2 {S:Type} [MemLike S] {mt:TypeId} {mv:Value} {A:S→Assn} (hM:MemI Tryz.prog mt mv A) {σ:S} {c:Int}:FnD Tryz.prog 113 [.iface mt mv,.int .i64 c,.func (.func 114) #[] #[]] [A σ] (.tuple #[]) [A (zaU σ c)]:=by
 unfold zaU
 cases h:(zac (MemLike.get σ c)).2
 ·exact zov hM h
 ·rw [if_pos rfl]
  cases h2:(wofI (zac (MemLike.get σ c)).1.new).right
  ·exact zou hM h h2
  ·exact zot hM h h2
theorem zlp {S:Type} [MemLike S] {mt:TypeId} {mv:Value} {A:S→Assn} (hM:MemI Tryz.prog mt mv A) {σ:S} {p:Pen} {c:Int}:FnD Tryz.prog 75 [.agg #[.int .i64 p.thread,.int .i64 p.tag],.iface mt mv,.int .i64 c] [A σ] (.tuple #[]) [A (zaU σ c)]:=by
 refine Fn.enter (Tryz.func75) rfl rfl (fun w0 R=>?_)
 refine sA (xB 1 rfl (fun bk1=>(dG (xmc rfl (xmi rfl (TL.callD [0] [0] (zl2 hM) ⟨rfl,rfl,rfl,trivial⟩ ⟨rfl,trivial⟩ zn9 rfl rfl rfl rfl rfl trivial (TL.done ?_)))))))
 refine FQ.end0 (Bs:=[A (zaU σ c)]) [0] rfl rfl ⟨rfl,trivial⟩ ?_
 exact ⟨rfl,rfl⟩
theorem zo6 {S:Type} [MemLike S] {mt:TypeId} {mv:Value} {A:S→Assn} (hM:MemI Tryz.prog mt mv A) {fS:FuncId} (hfS:zf8 Tryz.prog mt "Store" fS=true) {l:Lay} (hl:l.Ok) {p:Pen} {σ:S} {tag:Int} {dn:Bool} (h:0≤tag∧tag≤16777215):FnD Tryz.prog 104 [.agg #[.int .i64 p.thread,.int .i64 p.tag],.iface mt mv,layV l,.int .i64 tag,.bool dn] [A σ] (.tuple #[]) [A (MemLike.st σ (l.state p.thread) (zbD tag dn))]:=by
 refine Fn.enter (Tryz.func104) rfl rfl (fun w0 R=>?_)
 refine sA (xB 1 rfl (fun bk1=>(xB 2 rfl (fun bk2=>(dA (xmi rfl (xmb rfl (TL.callD [] [] (zqT h) ⟨rfl,rfl,trivial⟩ trivial zn4 rfl rfl rfl rfl rfl trivial (xmu rfl (xei rfl rfl ?_))))))))))
 refine xei rfl rfl (xai rfl (xai rfl (dA (xmi rfl (TL.eqlT rfl rfl (by decide) rfl rfl (TL.done (TQ.then (TC.condT rfl ?_))))))))
 refine TC.draw [(0,true),(1,true),(2,true),(3,true),(5,true),(6,true),(7,true),(8,true),(4,false),(9,false)] [1,2] fc_m (by kernel_rfl) (xmc rfl (xL3 2 zaa rfl rfl (xf 0 zdx rfl (xli 1 zae rfl rfl (xmi rfl (TL.mf (xs:=[_]) (ys:=[]) [_] [] ⟨rfl,trivial⟩ trivial rfl rfl (TL.ncM hfS rfl rfl rfl (xmc rfl ?_))))))))
 refine TL.callD [] [] (zi1 hl) ⟨rfl,rfl,trivial⟩ trivial zqm rfl rfl rfl rfl rfl (kL2 rfl rfl trivial) (TL.mstore 0 hM rfl rfl rfl (zdp h _) rfl rfl rfl (kL2 rfl rfl trivial) (TL.done ?_))
 refine FQ.end0 (Bs:=[A _]) [0] rfl rfl ⟨rfl,trivial⟩ ?_
 exact ⟨rfl,rfl⟩
theorem zo5 {S:Type} [MemLike S] {mt:TypeId} {mv:Value} {A:S→Assn} (hM:MemI Tryz.prog mt mv A) {fS:FuncId} (hfS:zf8 Tryz.prog mt "Store" fS=true) {l:Lay} (hl:l.Ok) {p:Pen} {σ:S} {tag:Int} {dn:Bool} (h:¬(0≤tag∧tag≤16777215)):FnD Tryz.prog 104 [.agg #[.int .i64 p.thread,.int .i64 p.tag],.iface mt mv,layV l,.int .i64 tag,.bool dn] [A σ] (.tuple #[]) [A (σ)]:=by
 refine Fn.enter (Tryz.func104) rfl rfl (fun w0 R=>?_)
 refine sA (xB 1 rfl (fun bk1=>(xB 2 rfl (fun bk2=>(dA (xmi rfl (xmb rfl (TL.callD [] [] (zqS h) ⟨rfl,rfl,trivial⟩ trivial zn4 rfl rfl rfl rfl rfl trivial (xmu rfl (xei rfl rfl ?_))))))))))
 refine xei rfl rfl (xai rfl (xai rfl (dA (xmi rfl (TL.eqlF rfl rfl (by decide) rfl rfl (TL.done (TQ.then (TC.condF rfl ?_))))))))
 refine TC.skip ?_
 refine FQ.end0 (Bs:=[A _]) [0] rfl rfl ⟨rfl,trivial⟩ ?_
 exact ⟨rfl,rfl⟩
theorem ziT {S:Type} [MemLike S] {mt:TypeId} {mv:Value} {A:S→Assn} (hM:MemI Tryz.prog mt mv A) {fS:FuncId} (hfS:zf8 Tryz.prog mt "Store" fS=true) {l:Lay} (hl:l.Ok) {p:Pen} {σ:S} {tag:Int} {dn:Bool}:FnD Tryz.prog 104 [.agg #[.int .i64 p.thread,.int .i64 p.tag],.iface mt mv,layV l,.int .i64 tag,.bool dn] [A σ] (.tuple #[]) [A (zaS l p σ tag dn)]:=by
 unfold zaS
 by_cases h:0≤tag∧tag≤16777215
 ·rw [if_pos h]; exact zo6 hM hfS hl h
 ·rw [if_neg h]; exact zo5 hM hfS hl h
theorem zlM {S:Type} [MemLike S] {mt:TypeId} {mv:Value} {A:S→Assn} (hM:MemI Tryz.prog mt mv A) {fS:FuncId} (hfS:zf8 Tryz.prog mt "Store" fS=true) {l:Lay} (hl:l.Ok) {p:Pen} {σ:S}:FnD Tryz.prog 49 [.agg #[.int .i64 p.thread,.int .i64 p.tag],.iface mt mv,layV l] [A σ] (.tuple #[]) [A (zaS l p σ p.tag true)]:=by
 refine Fn.enter (Tryz.func49) rfl rfl (fun w0 R=>?_)
 refine sA (xB 1 rfl (fun bk1=>(xB 2 rfl (fun bk2=>(dG (xL2 1 zcq rfl rfl (xmc rfl (xL3 2 zaa rfl rfl (xf 1 zcT rfl (xli 1 zae rfl rfl ?_))))))))))
 refine TL.callD [0] [0] (ziT hM hfS hl) ⟨rfl,rfl,rfl,rfl,rfl,trivial⟩ ⟨rfl,trivial⟩ zoa rfl rfl rfl rfl rfl trivial (TL.done ?_)
 refine FQ.end0 (Bs:=[A (zaS l p σ p.tag true)]) [0] rfl rfl ⟨rfl,trivial⟩ ?_
 exact ⟨rfl,rfl⟩
theorem zrc {S:Type} [MemLike S] {mt:TypeId} {mv:Value} {A:S→Assn} (hM:MemI Tryz.prog mt mv A) {fS:FuncId} (hfS:zf8 Tryz.prog mt "Store" fS=true) {l:Lay} (hl:l.Ok) {p:Pen} {σ:S}:FnD Tryz.prog 76 [.agg #[.int .i64 p.thread,.int .i64 p.tag],.iface mt mv,layV l] [A σ] (.tuple #[]) [A (zaS l p σ (IntKind.i64.wrap (p.tag+1)) false)]:=by
 refine Fn.enter (Tryz.func76) rfl rfl (fun w0 R=>?_)
 refine sA (xB 1 rfl (fun bk1=>(xB 2 rfl (fun bk2=>(dG (xL2 1 zcq rfl rfl (xmc rfl (xL3 2 zaa rfl rfl (xf 1 zcT rfl (xli 1 zae rfl rfl ?_))))))))))
 refine TL.add _ rfl rfl (rfl) rfl rfl (TL.callD [0] [0] (ziT hM hfS hl) ⟨rfl,rfl,rfl,rfl,rfl,trivial⟩ ⟨rfl,trivial⟩ zoa rfl rfl rfl rfl rfl trivial (TL.done ?_))
 refine FQ.end0 (Bs:=[A (zaS l p σ (IntKind.i64.wrap (p.tag+1)) false)]) [0] rfl rfl ⟨rfl,trivial⟩ ?_
 exact ⟨rfl,rfl⟩
theorem zel {l:Lay} {c:Int}:Go.Eng.Fn Tryz.prog 97 [layV l,.int .i64 c] [] (fun v Bs=>∃ lb,v=.pointer (some ⟨lb,0,none⟩)∧Bs=[zjR 189 lb l (zc9 c)]):=by
 refine Fn.enter (Tryz.func97) rfl rfl (fun w0 R=>?_)
 refine sA (xB 0 rfl (fun bk0=>(TL.asg (.pointer none) rfl rfl rfl (dA (xL3 0 zaa rfl rfl (xmi rfl (TL.bld [.int .i64 0,.int .i64 0,.int .i64 0,.int .i64 0,.int .i64 0,.int .i64 0,.int .i64 0,.int .i64 0,.bool false,.bool false,.int .i64 0] [(.agg _),(.int _ _)] [_,_,_,_,_,_,_,_,_,_,_] zrA zrG ⟨rfl,rfl,trivial⟩ ⟨rfl,rfl⟩ rfl rfl (xB 1 rfl (fun bk1=>(xap rfl ?_))))))))))
 refine dR ?_
 refine FQ.ret1 (v:=(.pointer (some ⟨_,_,none⟩))) (Bs:=[_]) [1] rfl rfl rfl ⟨rfl,trivial⟩ ?_
 exact ⟨_,rfl,rfl⟩
theorem zlQ {l:Lay} {lb:Nat} {k:LookS}:FnD Tryz.prog 99 [.pointer (some ⟨lb,0,none⟩)] [zjR 189 lb l (k)] (.int .i64 k.value) [zjR 189 lb l (k)]:=by
 refine Fn.enter (Tryz.func99) rfl rfl (fun w0 R=>?_)
 refine sA (xai rfl (dA (xmp rfl (xN0 rfl (xf 10 zde rfl (xli 0 zae rfl rfl (xai rfl (dR ?_))))))))
 refine FQ.ret1 (v:=(.int _ _)) (Bs:=[_]) [0] rfl rfl rfl ⟨rfl,trivial⟩ ?_
 exact ⟨rfl,rfl⟩
theorem znb {l:Lay} (hl:l.Ok) {lb ab mb:Nat} {k:LookS} {σ:Array UInt64} {c:Cnt}:FnD Tryz.prog 98 [.pointer (some ⟨lb,0,none⟩),.pointer (some ⟨ab,0,none⟩)] [zjR 189 lb l (k),arenaC ab mb 140 71 (σ) (c)] (.bool (k.step l σ).done) [zjR 189 lb l (k.step l σ),arenaC ab mb 140 71 (σ) (k.cnt l σ c)]:=by
 refine Fn.enter (Tryz.func98) rfl rfl (fun w0 R=>?_)
 refine sA (xaf rfl (dS (TC.block (sA (xmp rfl (xN0 rfl (xf 9 zbv rfl (xlb 0 zc4 rfl rfl ?_))))))))
 refine xab rfl (TL.done (TQ.then (TC.cond rfl (fun q1=>?_) (fun q1=>?_))))
 refine TC.skip (TQ.inBlock (TQ.then (sA (xmp rfl (xN0 rfl (xf 9 zbv rfl (xlb 0 zc4 rfl rfl (xab rfl ?_))))))))
 refine dR ?_
 refine FQ.ret1 (v:=(.bool _)) (Bs:=[_,_]) [0,1] rfl rfl rfl ⟨rfl,rfl,trivial⟩ ?_
 rw [LookS.step_d q1,LookS.cnt_d q1]; exact ⟨rfl,rfl⟩
 refine sA (xmp rfl (xN0 rfl (xf 8 zgV rfl (xlb 0 zc4 rfl rfl (xab rfl (TL.done (TQ.then (TC.cond rfl (fun q2=>?_) (fun q2=>?_)))))))))
 refine TC.seq (TC.draw [(0,true),(1,true),(2,true),(3,true),(4,true),(5,true),(6,true),(7,true),(8,true),(9,true),(10,false),(11,false),(12,true),(13,true),(14,true),(15,true),(16,true)] [0] fc_m (by kernel_rfl) (xmp rfl (xmp rfl (xN0 rfl (xf 0 zkf rfl (xL3 0 zaa rfl rfl (xmp rfl (xN0 rfl ?_))))))))
 refine xf 4 zeN rfl (xf 2 zc5 rfl (xli 0 zae rfl rfl (TL.callD [] [] (zi1 hl) ⟨rfl,rfl,trivial⟩ trivial zqm rfl rfl rfl rfl rfl (kL1 rfl trivial) (TL.callD [1] [1] zhj ⟨rfl,rfl,trivial⟩ ⟨rfl,trivial⟩ zje rfl rfl rfl rfl rfl (kL1 rfl trivial) (xmu rfl (xei rfl rfl (xei rfl rfl (xai rfl ?_))))))))
 refine xai rfl (dG (xmp rfl (xmp rfl (xmp rfl (xN0 rfl (xf 4 zeN rfl (xL4 0 zan rfl rfl (xmi rfl ?_))))))))
 refine TL.callD [] [] zlL ⟨rfl,rfl,trivial⟩ trivial zr2 rfl rfl rfl rfl rfl trivial (xN0 rfl (xf 10 zde rfl (TL.st 0 #[_,_,_,_,_,_,_,_,_,_,_] (.int _ _) rfl rfl rfl rfl rfl rfl zae rfl rfl trivial (xN0 rfl (xf 9 zbv rfl (TL.st 0 #[_,_,_,_,_,_,_,_,_,_,_] (.bool true) rfl rfl rfl rfl rfl rfl zc4 rfl rfl trivial (TL.done (TQ.inBlock ?_))))))))
 refine TQ.then (sA (xmp rfl (xN0 rfl (xf 9 zbv rfl (xlt 0 zc4 rfl rfl (xat rfl (dR ?_)))))))
 refine FQ.ret1 (v:=(.bool true)) (Bs:=[_,_]) [0,1] rfl rfl rfl ⟨rfl,rfl,trivial⟩ ?_
 rw [LookS.step_h q1 q2,LookS.cnt_h q1 q2]; exact ⟨rfl,rfl⟩
 refine sA (xmp rfl (xmp rfl (xN0 rfl (xf 3 zke rfl (xli 0 zae rfl rfl (TL.callD [1] [1] zhj ⟨rfl,rfl,trivial⟩ ⟨rfl,trivial⟩ zje rfl rfl rfl rfl rfl trivial (xmu rfl (xei rfl rfl ?_))))))))
 refine xei rfl rfl (xai rfl (xai rfl (dA (xmi rfl (TL.callD [] [] zcr ⟨rfl,trivial⟩ trivial zee rfl rfl rfl rfl rfl trivial (xmu rfl (TL.ext (.agg _) rfl rfl rfl rfl (xei rfl rfl ?_))))))))
 refine TL.alloc 2 (cs:=#[.int .i64 0,.int .i64 0,.int .i64 0,.int .i64 0]) zbt rfl rfl rfl (fun _=>trivial) (fun bk2=>(TL.stW 2 4 [_,_,_,_] rfl rfl rfl rfl rfl rfl zan rfl rfl trivial (xai rfl (dA (xmp rfl (xmp rfl (xL4 2 zan rfl rfl (xN0 rfl (xf 4 zeN rfl ?_)))))))))
 refine TL.stA 0 4 #[_,_,_,_,_,_,_,_,_,_,_] [_,_,_,_] rfl rfl rfl rfl rfl rfl rfl zan rfl rfl trivial (xN0 rfl (xf 8 zgV rfl (TL.st 0 #[_,_,_,_,_,_,_,_,_,_,_] (.bool true) rfl rfl rfl rfl rfl rfl zc4 rfl rfl trivial (dA (xmi rfl (TL.neq rfl rfl rfl rfl (fun q3=>?_) (fun q3=>?_)))))))
 refine xmt rfl (xo rfl (xo rfl (xpT rfl (TL.done (TQ.then (TC.condT rfl (TC.region (xmp rfl ?_))))))))
 refine xmp rfl (xf 1 za0 rfl (xli 2 zae rfl rfl (xN0 rfl (xf 10 zde rfl (TL.st 0 #[_,_,_,_,_,_,_,_,_,_,_] (.int _ _) rfl rfl rfl rfl rfl rfl zae rfl rfl trivial (xN0 rfl (xf 9 zbv rfl (TL.st 0 #[_,_,_,_,_,_,_,_,_,_,_] (.bool true) rfl rfl rfl rfl rfl rfl zc4 rfl rfl trivial ?_))))))))
 refine TL.done (TQ.inBlock (TQ.then (sA (xmp rfl (xN0 rfl (xf 9 zbv rfl (xlt 0 zc4 rfl rfl (xat rfl ?_))))))))
 refine dR ?_
 refine FQ.ret1 (v:=(.bool true)) (Bs:=[_,_]) [0,1] rfl rfl rfl ⟨rfl,rfl,trivial⟩ ?_
 rw [LookS.step_0 q1 q2 (.inl (ztx q3)),LookS.cnt_0 q1 q2]; exact ⟨rfl,rfl⟩
 refine xmf rfl (xL4 2 zan rfl rfl (TL.callD [] [] zgF ⟨rfl,trivial⟩ trivial zko rfl rfl rfl rfl rfl trivial (TL.casesP rfl (fun q4=>?_) (fun q4=>?_))))
 refine xpH rfl (TL.done (TQ.then (TC.condT rfl (TC.region (xmp rfl (xmp rfl (xf 1 za0 rfl (xli 2 zae rfl rfl ?_))))))))
 refine xN0 rfl (xf 10 zde rfl (TL.st 0 #[_,_,_,_,_,_,_,_,_,_,_] (.int _ _) rfl rfl rfl rfl rfl rfl zae rfl rfl trivial (xN0 rfl (xf 9 zbv rfl (TL.st 0 #[_,_,_,_,_,_,_,_,_,_,_] (.bool true) rfl rfl rfl rfl rfl rfl zc4 rfl rfl trivial (TL.done (TQ.inBlock (TQ.then ?_))))))))
 refine sA (xmp rfl (xN0 rfl (xf 9 zbv rfl (xlt 0 zc4 rfl rfl (xat rfl (dR ?_))))))
 refine FQ.ret1 (v:=(.bool true)) (Bs:=[_,_]) [0,1] rfl rfl rfl ⟨rfl,rfl,trivial⟩ ?_
 rw [LookS.step_0 q1 q2 (.inr q4),LookS.cnt_0 q1 q2]; exact ⟨rfl,rfl⟩
 refine xpF rfl (TL.done (TQ.then (TC.condF rfl (TC.skip (TQ.inBlock (TQ.then (sA (xmp rfl ?_))))))))
 refine xN0 rfl (xf 9 zbv rfl (xlb 0 zc4 rfl rfl (xab rfl (dR ?_))))
 refine FQ.ret1 (v:=(.bool _)) (Bs:=[_,_]) [0,1] rfl rfl rfl ⟨rfl,rfl,trivial⟩ ?_
 rw [LookS.step_n q1 q2 (ztw (by decide) q3) q4,LookS.cnt_0 q1 q2]; exact ⟨rfl,rfl⟩
theorem zm7 {l:Lay} (hl:l.Ok)  : FnD Tryz.prog 91 [layV l] [] (.bool true) []:=by
 have hb:=za3 hl
 refine Fn.enter (Tryz.func91) rfl rfl (fun w0 R=>?_)
 refine sA (xB 0 rfl (fun bk0=>(xaf rfl (dA (xf 0 zaz rfl (xli 0 zae rfl rfl (TL.sub _ rfl rfl (wr64 (by omega)) rfl rfl (TL.callD [] [] za4 ⟨rfl,rfl,trivial⟩ trivial zbw rfl rfl rfl rfl rfl trivial (TL.casesP rfl (fun q1=>?_) (fun q1=>?_))))))))))
 refine xmt rfl (xf 1 zbl rfl (xli 0 zae rfl rfl (TL.callD [] [] za4 ⟨rfl,rfl,trivial⟩ trivial zbw rfl rfl rfl rfl rfl trivial (TL.casesP rfl (fun q2=>?_) (fun q2=>?_)))))
 refine xpT rfl (xmt rfl (xf 2 zdy rfl (xli 0 zae rfl rfl (TL.sub _ rfl rfl (wr64 (by omega)) rfl rfl (TL.callD [] [] za4 ⟨rfl,rfl,trivial⟩ trivial zbw rfl rfl rfl rfl rfl trivial (TL.pickT (.bool _) rfl rfl rfl rfl (xab rfl (dR ?_))))))))
 refine FQ.ret1 (v:=(.bool _)) (Bs:=[]) [] rfl rfl rfl trivial ?_
 first | exact ⟨congrArg Value.bool (decide_eq_true (by omega)),rfl⟩ | (exfalso; omega)
 refine xpG rfl (xmf rfl (xo rfl (xo rfl (xo rfl (xo rfl (xpF rfl (xaf rfl (dR ?_))))))))
 refine FQ.ret1 (v:=(.bool false)) (Bs:=[]) [] rfl rfl rfl trivial ?_
 first | exact ⟨congrArg Value.bool (decide_eq_true (by omega)),rfl⟩ | (exfalso; omega)
 refine xmf rfl (xo rfl (xo rfl (xo rfl (xpF rfl (xmf rfl (xo rfl (xo rfl (xo rfl ?_))))))))
 refine xo rfl (xpF rfl (xaf rfl (dR ?_)))
 refine FQ.ret1 (v:=(.bool false)) (Bs:=[]) [] rfl rfl rfl trivial ?_
 first | exact ⟨congrArg Value.bool (decide_eq_true (by omega)),rfl⟩ | (exfalso; omega)
end Go.Proofs.YtjnpjkfliochbaaGreat
