import Derived.Test.YtjnpjkfliochbaaGreatEngE
import Derived.Test.YtjnpjkfliochbaaGreatProg
import Derived.KernelRfl
import Derived.Tactics2
import Derived.StillTactics
import Derived.Laws.Tables
set_option linter.unusedVariables false
set_option linter.unusedSimpArgs false
set_option maxRecDepth 20000
namespace Go.Proofs.YtjnpjkfliochbaaGreat
open Go.Eng Go.Tm
open Go.Eng Go.Tm
abbrev layV (l:Lay):Value:=.agg #[.int .i64 l.V,.int .i64 l.S,.int .i64 l.T]
abbrev zrF (t:Thing):Value:=.agg #[.bool t.arc,.int .i64 t.level,.int .i64 t.vertex,.int .i64 t.slot,.int .i64 t.side]
abbrev wdV (w:Wd):Value:=.agg #[.int .i64 w.old,.int .i64 w.new,.int .i64 w.thread,.int .i64 w.tag]
theorem zqD {x:Int} (_h0:0≤x) (_h1:x≤16):0≤levI x∧levI x≤5:=by
 unfold levI
 repeat' split
 all_goals omega
theorem zrT {s:ByteArray} {x:Int} (h0:0≤x) (h1:x≤16) (hs:(List.range 17).map (fun i=>(s[i]?).map (·.toNat))=[0,1,2,2,3,3,3,3,4,4,4,4,4,4,4,4,5].map some):(s[x.toNat]?).map (fun b=>(b.toNat:Int))=some (levI x):=by
 have hx:x.toNat<17:=by omega
 have h2:=congrArg (fun l=>l[x.toNat]?) hs
 simp only [List.getElem?_map,List.getElem?_range hx,Option.map_some] at h2
 have h3:x=(x.toNat:Int):=by omega
 rw [h3,Int.toNat_natCast]
 generalize x.toNat=i at *
 have:i=0∨i=1∨i=2∨i=3∨i=4∨i=5∨i=6∨i=7∨i=8∨i=9∨i=10∨i=11∨i=12∨i=13∨i=14∨i=15∨i=16:=by omega
 cases hb:s[i]? with
 | none=>rw [hb] at h2; rcases this with rfl | rfl | rfl | rfl | rfl | rfl | rfl | rfl | rfl | rfl | rfl | rfl | rfl | rfl | rfl | rfl | rfl<;>simp at h2
 | some b=>rw [hb] at h2; rcases this with rfl | rfl | rfl | rfl | rfl | rfl | rfl | rfl | rfl | rfl | rfl | rfl | rfl | rfl | rfl | rfl | rfl<;>simp at h2<;>simp [h2,levI]
theorem zeX {l:Lay} (h:l.Ok):1≤(l.V:Int)∧(l.V:Int)≤16∧(l.S:Int)≤48∧1≤(l.T:Int)∧(l.T:Int)≤8:=by
 obtain ⟨h1,h2,h3,h4,h5⟩:=h; omega
theorem zrQ {l:Lay} (h:l.Ok):1≤l.lev∧l.lev≤5:=by
 have:=zeX h
 unfold Lay.lev levI
 repeat' split
 all_goals omega
theorem zbn {l:Lay} (h:l.Ok):(1≤(l.V:Int)∧(l.V:Int)≤16∧(l.S:Int)≤48∧1≤(l.T:Int)∧(l.T:Int)≤8)∧(1≤l.lev∧l.lev≤5)∧l.arcs=2 * l.lev∧l.free=l.T∧(0≤l.lev * l.V∧l.lev * l.V≤5 * 16)∧(0≤(l.V:Int) * l.lev∧(l.V:Int) * l.lev≤16 * 5) ∧
  (0≤(l.S:Int) * l.arcs∧(l.S:Int) * l.arcs≤48 * 10)∧l.nodes=l.lev * l.V+l.S * l.arcs∧l.heads=l.T+1+l.S * 7∧l.edges=l.heads+l.V * l.lev∧(0≤(l.V:Int) * (l.V - 1)∧(l.V:Int) * (l.V - 1)≤16 * 15) ∧
  l.base=l.edges+(l.V:Int) * (l.V - 1) / 2∧l.cells=l.base+l.nodes * 7:=by
 have h1:=zeX h
 have h2:=zrQ h
 have h3:l.arcs=2 * l.lev:=rfl
 exact ⟨h1,h2,h3,rfl,zdi (by omega) (by omega) (by omega) (by omega),zdi (by omega) (by omega) (by omega) (by omega),zdi (by omega) (by omega) (by omega) (by omega),rfl,rfl,rfl,zdi (by omega) (by omega) (by omega) (by omega),rfl,rfl⟩
theorem zmx {a b:Int} (h0:0≤a) (hb:0<b) (ha:a<9223372036854775808):IntKind.i64.wrap (a.tdiv b)=a / b:=by
 rw [Int.tdiv_eq_ediv_of_nonneg h0]
 exact wr64 ⟨by have:=Int.ediv_nonneg h0 (Int.le_of_lt hb); omega,by have:=Int.ediv_le_self b h0; omega⟩
theorem zql {a b:Int} (h0:0≤a):a.tmod b=a % b:=Int.tmod_eq_emod_of_nonneg h0
theorem ze5 {x V:Int} (h0:0≤x) (h1:x<V) (h2:V≤16):0≤x * (2 * V - x - 1)∧x * (2 * V - x - 1)≤16 * 32:=zdi h0 (by omega) (by omega) (by omega)
abbrev zbc (l:Lay) (mt:TypeId) (mv:Value) (p:Pen):Value:=.agg #[.int .i64 l.V,.int .i64 l.S,.int .i64 l.T,.iface mt mv,.int .i64 p.thread,.int .i64 p.tag]
abbrev zgh (l:Lay) (mt:TypeId) (mv:Value):Value:=.agg #[.int .i64 l.V,.int .i64 l.S,.int .i64 l.T,.iface mt mv]
abbrev adjV (l:Lay) (mt:TypeId) (mv:Value) (p:Pen):Value:=.agg #[.int .i64 l.V,.int .i64 l.S,.int .i64 l.T,.iface mt mv,.int .i64 p.thread,.int .i64 p.tag,.int .i64 l.V,.int .i64 l.S,.int .i64 l.T,.iface mt mv]
theorem zkZ (l:Lay) (x m:Int):0≤zeJ l x m∧zeJ l x m<18446744073709551616:=by
 unfold zeJ; split<;>exact zc1 _ _
theorem zlG {S:Type} [MemLike S] (l:Lay) (σ:S) (x m:Int) (i:Nat):0≤(zdJ l σ x m i).1∧(zdJ l σ x m i).1<18446744073709551616:=by
 cases i with
 | zero=>exact zkZ _ _ _
 | succ i=>exact zc1 _ _
abbrev edgV (e:Edg):Value:=.agg #[.int .i64 e.u,.int .i64 e.v,.int .i64 e.level,.bool e.tree]
theorem quo2 (z:Int):IntKind.i64.wrap ((IntKind.i64.wrap z).tdiv 2)=(IntKind.i64.wrap z).tdiv 2:=by
 have h:-9223372036854775808≤IntKind.i64.wrap z∧IntKind.i64.wrap z<9223372036854775808:=by
  rw [IntKind.wrap_i64]; omega
 generalize IntKind.i64.wrap z=y at *
 refine wr64 ?_
 have h1:=Int.mul_tdiv_add_tmod y 2
 have h2:=Int.tmod_lt_of_pos y (show (0:Int)<2 by omega)
 have h3:=Int.lt_tmod_of_pos y (show (0:Int)<2 by omega)
 omega
theorem zes:(Tryz.prog.underlying 71).isSome=true:=by kernel_rfl
theorem zo8:intB Tryz.prog 5 .u8=true:=by kernel_rfl
theorem zr5:Tryz.prog.underlying 9=some .string:=by kernel_rfl
theorem fc_u5:(Tryz.prog.underlying 5).isSome=true:=by kernel_rfl
theorem zbY:intB Tryz.prog 3 .i64=true:=by kernel_rfl
theorem zrh:zaq Tryz.prog 145=true:=by kernel_rfl
theorem zaJ:fldB Tryz.prog 23 0 0=true:=by kernel_rfl
theorem zac:zb3 Tryz.prog 3=true:=by kernel_rfl
theorem zfA:(Tryz.prog.underlying 3).isSome=true:=by kernel_rfl
theorem zkk:intB Tryz.prog 170 .u64=true:=by kernel_rfl
theorem zrm:zaq Tryz.prog 116=true:=by kernel_rfl
theorem zaa:aggB Tryz.prog 23 3=true:=by kernel_rfl
theorem zeP:zaq Tryz.prog 77=true:=by kernel_rfl
theorem fc_m:Tryz.prog.follows .mixedOrders=true:=by kernel_rfl
theorem zby:fldB Tryz.prog 23 1 1=true:=by kernel_rfl
theorem zlb:zaq Tryz.prog 78=true:=by kernel_rfl
theorem zbI:zaq Tryz.prog 102=true:=by kernel_rfl
theorem zeD:fldB Tryz.prog 23 2 2=true:=by kernel_rfl
theorem ziP:zaq Tryz.prog 122=true:=by kernel_rfl
theorem zhi:zaq Tryz.prog 149=true:=by kernel_rfl
theorem znJ:zaq Tryz.prog 148=true:=by kernel_rfl
theorem znU:zaq Tryz.prog 120=true:=by kernel_rfl
theorem zbE:zaq Tryz.prog 17=true:=by kernel_rfl
theorem zpO:zaq Tryz.prog 88=true:=by kernel_rfl
theorem zbw:zbJ Tryz.prog 94=some (.agg #[.bool false,.int .i64 0,.int .i64 0,.int .i64 0,.int .i64 0]):=by kernel_rfl
theorem znp:zbd Tryz.prog 94 [(0,1),(1,1),(2,1),(3,1),(4,1)]=true:=by kernel_rfl
theorem zaQ:aggB Tryz.prog 94 5=true:=by kernel_rfl
theorem zcJ:fldB Tryz.prog 175 2 2=true:=by kernel_rfl
theorem zbu:fldB Tryz.prog 175 0 0=true:=by kernel_rfl
theorem zf3:zaq Tryz.prog 163=true:=by kernel_rfl
theorem za1:fldB Tryz.prog 175 1 1=true:=by kernel_rfl
theorem zcI:fldB Tryz.prog 175 3 3=true:=by kernel_rfl
theorem zav:aggB Tryz.prog 175 4=true:=by kernel_rfl
theorem ziO:zaq Tryz.prog 132=true:=by kernel_rfl
theorem znF:zaq Tryz.prog 162=true:=by kernel_rfl
theorem zbh:intB Tryz.prog 71 .u64=true:=by kernel_rfl
theorem zbt:zbJ Tryz.prog 175=some (.agg #[.int .i64 0,.int .i64 0,.int .i64 0,.int .i64 0]):=by kernel_rfl
theorem zku:zaq Tryz.prog 161=true:=by kernel_rfl
theorem zfY:zbd Tryz.prog 175 [(0,1),(1,1),(2,1),(3,1)]=true:=by kernel_rfl
theorem zdS:fldB Tryz.prog 37 0 0=true:=by kernel_rfl
theorem zc9:fldB Tryz.prog 37 1 1=true:=by kernel_rfl
theorem zdC:zaq Tryz.prog 131=true:=by kernel_rfl
theorem znP:zaq Tryz.prog 134=true:=by kernel_rfl
theorem ziM:zaq Tryz.prog 143=true:=by kernel_rfl
theorem znW:zaq Tryz.prog 113=true:=by kernel_rfl
theorem zbb:fldB Tryz.prog 39 1 3=true:=by kernel_rfl
theorem zbN:zb3 Tryz.prog 35=true:=by kernel_rfl
theorem zaM:fldB Tryz.prog 39 0 0=true:=by kernel_rfl
theorem zaW:zaq Tryz.prog 54=true:=by kernel_rfl
theorem zb1:zaq Tryz.prog 47=true:=by kernel_rfl
theorem zaS:fldB Tryz.prog 94 1 1=true:=by kernel_rfl
theorem zad:aggB Tryz.prog 39 6=true:=by kernel_rfl
theorem znK:zaq Tryz.prog 146=true:=by kernel_rfl
theorem zcN:zaq Tryz.prog 107=true:=by kernel_rfl
theorem zdm:zaq Tryz.prog 147=true:=by kernel_rfl
theorem zhZ:fldB Tryz.prog 39 2 4=true:=by kernel_rfl
theorem zar:aggB Tryz.prog 37 2=true:=by kernel_rfl
theorem zcO:zaq Tryz.prog 106=true:=by kernel_rfl
theorem ziL:zaq Tryz.prog 150=true:=by kernel_rfl
theorem zhV:fldB Tryz.prog 94 0 0=true:=by kernel_rfl
theorem zbq:zb3 Tryz.prog 4=true:=by kernel_rfl
theorem znI:zaq Tryz.prog 152=true:=by kernel_rfl
theorem zqP:zbJ Tryz.prog 128=some (.agg #[.int .i64 0,.int .i64 0]):=by kernel_rfl
theorem zfC:zjC Tryz.prog 128 2 3 1=true:=by kernel_rfl
theorem zhd:zaq Tryz.prog 195=true:=by kernel_rfl
theorem zq2:zaq Tryz.prog 196=true:=by kernel_rfl
theorem zhh:zaq Tryz.prog 151=true:=by kernel_rfl
theorem zf4:zaq Tryz.prog 119=true:=by kernel_rfl
theorem ziI:zaq Tryz.prog 188=true:=by kernel_rfl
theorem zf0:zaq Tryz.prog 186=true:=by kernel_rfl
theorem zhe:zaq Tryz.prog 187=true:=by kernel_rfl
theorem zkp:zaq Tryz.prog 189=true:=by kernel_rfl
theorem ziH:zaq Tryz.prog 194=true:=by kernel_rfl
theorem zq3:zaq Tryz.prog 193=true:=by kernel_rfl
theorem zkq:zaq Tryz.prog 185=true:=by kernel_rfl
theorem zny:zaq Tryz.prog 197=true:=by kernel_rfl
theorem znA:zaq Tryz.prog 184=true:=by kernel_rfl
theorem zat:fldB Tryz.prog 41 0 0=true:=by kernel_rfl
theorem zgg:zaq Tryz.prog 51=true:=by kernel_rfl
theorem zhb:zaq Tryz.prog 86=true:=by kernel_rfl
theorem zkr:zaq Tryz.prog 175=true:=by kernel_rfl
theorem zeb:zaq Tryz.prog 176=true:=by kernel_rfl
theorem zf1:zaq Tryz.prog 171=true:=by kernel_rfl
theorem zq5:zaq Tryz.prog 190=true:=by kernel_rfl
theorem zks:zaq Tryz.prog 174=true:=by kernel_rfl
theorem zb7:aggB Tryz.prog 41 6=true:=by kernel_rfl
theorem znE:zaq Tryz.prog 170=true:=by kernel_rfl
theorem znD:zaq Tryz.prog 172=true:=by kernel_rfl
theorem zhj:zaq Tryz.prog 123=true:=by kernel_rfl
theorem zbx:fldB Tryz.prog 43 1 3=true:=by kernel_rfl
theorem zaL:fldB Tryz.prog 43 0 0=true:=by kernel_rfl
theorem ziQ:zaq Tryz.prog 109=true:=by kernel_rfl
theorem znO:zaq Tryz.prog 135=true:=by kernel_rfl
theorem zkw:zaq Tryz.prog 136=true:=by kernel_rfl
theorem znN:zaq Tryz.prog 137=true:=by kernel_rfl
theorem zer:zbJ Tryz.prog 183=some (.agg #[.int .i64 0,.int .i64 0,.int .i64 0,.bool false]):=by kernel_rfl
theorem zaP:aggB Tryz.prog 43 4=true:=by kernel_rfl
theorem znH:zaq Tryz.prog 153=true:=by kernel_rfl
theorem zdv:zaq Tryz.prog 73=true:=by kernel_rfl
theorem zqV:zbd Tryz.prog 183 [(0,1),(1,1),(2,1),(3,1)]=true:=by kernel_rfl
theorem zcW:aggB Tryz.prog 183 4=true:=by kernel_rfl
theorem zas:fldB Tryz.prog 45 1 6=true:=by kernel_rfl
theorem zq7:zaq Tryz.prog 182=true:=by kernel_rfl
theorem zq6:zaq Tryz.prog 183=true:=by kernel_rfl
theorem zax:aggB Tryz.prog 45 10=true:=by kernel_rfl
theorem ziK:zaq Tryz.prog 164=true:=by kernel_rfl
theorem zhg:zaq Tryz.prog 165=true:=by kernel_rfl
theorem zbp:fldB Tryz.prog 45 0 0=true:=by kernel_rfl
theorem zsp:zl3 Tryz.prog 4=true:=by kernel_rfl
theorem znC:zaq Tryz.prog 173=true:=by kernel_rfl
theorem zkt:zaq Tryz.prog 167=true:=by kernel_rfl
theorem zec:zaq Tryz.prog 166=true:=by kernel_rfl
theorem zhf:zaq Tryz.prog 168=true:=by kernel_rfl
theorem zf2:zaq Tryz.prog 169=true:=by kernel_rfl
theorem zeu:zaq Tryz.prog 125=true:=by kernel_rfl
theorem zb0:fldB Tryz.prog 183 0 0=true:=by kernel_rfl
theorem zbk:fldB Tryz.prog 183 2 2=true:=by kernel_rfl
theorem ziN:zaq Tryz.prog 139=true:=by kernel_rfl
theorem znM:zaq Tryz.prog 138=true:=by kernel_rfl
theorem zbZ:fldB Tryz.prog 183 1 1=true:=by kernel_rfl
theorem znG:zaq Tryz.prog 154=true:=by kernel_rfl
theorem zan:fldB Tryz.prog 47 0 0=true:=by kernel_rfl
theorem zri:zaq Tryz.prog 140=true:=by kernel_rfl
theorem znL:zaq Tryz.prog 141=true:=by kernel_rfl
theorem zbm:aggB Tryz.prog 47 10=true:=by kernel_rfl
theorem zkv:zaq Tryz.prog 142=true:=by kernel_rfl
theorem zfD:zo5 Tryz.prog 183 2 2 3=true:=by kernel_rfl
theorem zrg:zaq Tryz.prog 155=true:=by kernel_rfl
theorem znz:zaq Tryz.prog 192=true:=by kernel_rfl
theorem zkx:zaq Tryz.prog 126=true:=by kernel_rfl
theorem znY:zaq Tryz.prog 111=true:=by kernel_rfl
theorem zq4:zaq Tryz.prog 191=true:=by kernel_rfl
theorem ziJ:zaq Tryz.prog 178=true:=by kernel_rfl
theorem zlT:fldB Tryz.prog 94 3 3=true:=by kernel_rfl
theorem zra:zaq Tryz.prog 179=true:=by kernel_rfl
theorem zlU:fldB Tryz.prog 94 2 2=true:=by kernel_rfl
theorem zq9:zaq Tryz.prog 180=true:=by kernel_rfl
theorem zn1:zaq Tryz.prog 100=true:=by kernel_rfl
theorem zq8:zaq Tryz.prog 181=true:=by kernel_rfl
theorem znB:zaq Tryz.prog 177=true:=by kernel_rfl
theorem zds:zbJ Tryz.prog 49=some (.agg #[.int .i64 0,.int .i64 0,.int .i64 0,.nilIface,.int .i64 0,.int .i64 0,.int .i64 0,.int .i64 0,.int .i64 0,.nilIface]):=by kernel_rfl
theorem znq:zbd Tryz.prog 39 [(0,3),(3,1),(4,2)]=true:=by kernel_rfl
theorem zjt:zbJ Tryz.prog 39=some (.agg #[.int .i64 0,.int .i64 0,.int .i64 0,.nilIface,.int .i64 0,.int .i64 0]):=by kernel_rfl
theorem zsb:zbd Tryz.prog 41 [(0,6)]=true:=by kernel_rfl
theorem zpL:zbJ Tryz.prog 41=some (.agg #[.int .i64 0,.int .i64 0,.int .i64 0,.nilIface,.int .i64 0,.int .i64 0]):=by kernel_rfl
theorem zsa:zbd Tryz.prog 43 [(0,3),(3,1)]=true:=by kernel_rfl
theorem zr2:zbJ Tryz.prog 43=some (.agg #[.int .i64 0,.int .i64 0,.int .i64 0,.nilIface]):=by kernel_rfl
theorem zr9:zbd Tryz.prog 45 [(0,6),(6,4)]=true:=by kernel_rfl
theorem zr1:zbJ Tryz.prog 45=some (.agg #[.int .i64 0,.int .i64 0,.int .i64 0,.nilIface,.int .i64 0,.int .i64 0,.int .i64 0,.int .i64 0,.int .i64 0,.nilIface]):=by kernel_rfl
theorem zr8:zbd Tryz.prog 47 [(0,10)]=true:=by kernel_rfl
theorem zr0:zbJ Tryz.prog 47=some (.agg #[.int .i64 0,.int .i64 0,.int .i64 0,.nilIface,.int .i64 0,.int .i64 0,.int .i64 0,.int .i64 0,.int .i64 0,.nilIface]):=by kernel_rfl
theorem zr7:zbd Tryz.prog 49 [(0,10)]=true:=by kernel_rfl
theorem zae:aggB Tryz.prog 49 10=true:=by kernel_rfl
theorem zaE:fldB Tryz.prog 49 0 0=true:=by kernel_rfl
theorem zsm:zaq Tryz.prog 42=true:=by kernel_rfl
theorem zro:zaq Tryz.prog 110=true:=by kernel_rfl
theorem znX:zaq Tryz.prog 112=true:=by kernel_rfl
theorem zrf:zaq Tryz.prog 156=true:=by kernel_rfl
theorem zre:zaq Tryz.prog 157=true:=by kernel_rfl
theorem zrd:zaq Tryz.prog 158=true:=by kernel_rfl
theorem zkn:fldB Tryz.prog 183 3 3=true:=by kernel_rfl
theorem znS:zaq Tryz.prog 127=true:=by kernel_rfl
theorem zrk:zaq Tryz.prog 128=true:=by kernel_rfl
theorem zrj:zaq Tryz.prog 129=true:=by kernel_rfl
theorem zdl:fldB Tryz.prog 140 0 0=true:=by kernel_rfl
theorem zgZ:zb3 Tryz.prog 24=true:=by kernel_rfl
theorem za6:zdo Tryz.prog 24 71 1=true:=by kernel_rfl
theorem zd9:fldB Tryz.prog 140 1 1=true:=by kernel_rfl
theorem zhY:fldB Tryz.prog 62 0 0=true:=by kernel_rfl
theorem zla:zaq Tryz.prog 89=true:=by kernel_rfl
theorem ziG:ptrB Tryz.prog 143=true:=by kernel_rfl
theorem zk6:zb3 Tryz.prog 71=true:=by kernel_rfl
theorem zhX:fldB Tryz.prog 62 1 1=true:=by kernel_rfl
theorem zhW:fldB Tryz.prog 88 0 0=true:=by kernel_rfl
theorem zhT:zb3 Tryz.prog 33=true:=by kernel_rfl
theorem znx:zaq Tryz.prog 31=true:=by kernel_rfl
theorem zsl:zaq Tryz.prog 55=true:=by kernel_rfl
theorem zkj:appB Tryz.prog 24 71 1=true:=by kernel_rfl
theorem zrY:zbJ Tryz.prog 71=some (.int .u64 0):=by kernel_rfl
theorem zqY:zbd Tryz.prog 140 [(0,1),(1,5)]=true:=by kernel_rfl
theorem zqO:zbJ Tryz.prog 140=some (.agg #[.slice none 0 0,.int .i64 0,.int .i64 0,.int .i64 0,.int .i64 0,.int .i64 0]):=by kernel_rfl
theorem zdQ:zbJ Tryz.prog 88=some (.agg #[.pointer none]):=by kernel_rfl
theorem zr6:zbd Tryz.prog 88 [(0,1)]=true:=by kernel_rfl
theorem zak:aggB Tryz.prog 88 1=true:=by kernel_rfl
theorem zrc:zaq Tryz.prog 159=true:=by kernel_rfl
theorem zrb:zaq Tryz.prog 160=true:=by kernel_rfl
theorem zrn:zaq Tryz.prog 115=true:=by kernel_rfl
theorem znV:zaq Tryz.prog 114=true:=by kernel_rfl
theorem znQ:zaq Tryz.prog 133=true:=by kernel_rfl
theorem znv:zaq Tryz.prog 53=true:=by kernel_rfl
theorem znZ:zaq Tryz.prog 104=true:=by kernel_rfl
theorem znR:zaq Tryz.prog 130=true:=by kernel_rfl
theorem zqU:zbd Tryz.prog 189 [(0,3),(3,1),(4,4),(8,1),(9,1),(10,1)]=true:=by kernel_rfl
theorem zqL:zbJ Tryz.prog 189=some (.agg #[.int .i64 0,.int .i64 0,.int .i64 0,.int .i64 0,.int .i64 0,.int .i64 0,.int .i64 0,.int .i64 0,.bool false,.bool false,.int .i64 0]):=by kernel_rfl
theorem zdt:fldB Tryz.prog 189 5 10=true:=by kernel_rfl
theorem zbG:fldB Tryz.prog 189 4 9=true:=by kernel_rfl
theorem zg1:fldB Tryz.prog 189 3 8=true:=by kernel_rfl
theorem zkm:fldB Tryz.prog 189 0 0=true:=by kernel_rfl
theorem zeZ:fldB Tryz.prog 189 2 4=true:=by kernel_rfl
theorem zkl:fldB Tryz.prog 189 1 3=true:=by kernel_rfl
theorem znT:zaq Tryz.prog 121=true:=by kernel_rfl
theorem zdT:zaq Tryz.prog 75=true:=by kernel_rfl
theorem zaH:zeI Tryz.prog 88 "Store" 215=true:=by kernel_rfl
theorem zev:zeI Tryz.prog 88 "Load" 214=true:=by kernel_rfl
theorem zsh:zaq Tryz.prog 91=true:=by kernel_rfl
theorem zso:zaq Tryz.prog 30=true:=by kernel_rfl
theorem zsg:zaq Tryz.prog 92=true:=by kernel_rfl
theorem zdw:zaq Tryz.prog 38=true:=by kernel_rfl
theorem zaI:zin Tryz.prog 88=true:=by kernel_rfl
theorem zsf:zaq Tryz.prog 93=true:=by kernel_rfl
theorem znr:zbd Tryz.prog 37 [(0,1),(1,1)]=true:=by kernel_rfl
theorem zdR:zbJ Tryz.prog 37=some (.agg #[.int .i64 0,.int .i64 0]):=by kernel_rfl
theorem zk9:zaq Tryz.prog 94=true:=by kernel_rfl
theorem zk8:zaq Tryz.prog 97=true:=by kernel_rfl
theorem zqX:zbd Tryz.prog 157 [(0,3),(3,1),(4,1),(5,1),(6,1),(7,1),(8,1)]=true:=by kernel_rfl
theorem zqN:zbJ Tryz.prog 157=some (.agg #[.int .i64 0,.int .i64 0,.int .i64 0,.int .i64 0,.pointer none,.bool false,.bool false,.int .i64 0,.int .i64 0]):=by kernel_rfl
theorem zck:fldB Tryz.prog 157 4 6=true:=by kernel_rfl
theorem zg4:fldB Tryz.prog 157 5 7=true:=by kernel_rfl
theorem zg3:fldB Tryz.prog 157 6 8=true:=by kernel_rfl
theorem zd8:fldB Tryz.prog 157 1 3=true:=by kernel_rfl
theorem zdk:fldB Tryz.prog 157 2 4=true:=by kernel_rfl
theorem zg0:zb3 Tryz.prog 154=true:=by kernel_rfl
theorem zse:zaq Tryz.prog 98=true:=by kernel_rfl
theorem zsd:zaq Tryz.prog 99=true:=by kernel_rfl
theorem ze2:fldB Tryz.prog 157 3 5=true:=by kernel_rfl
theorem zcl:fldB Tryz.prog 157 0 0=true:=by kernel_rfl
theorem zfZ:zdo Tryz.prog 59 3 1=true:=by kernel_rfl
theorem zlS:appB Tryz.prog 59 3 1=true:=by kernel_rfl
theorem zr4:zbJ Tryz.prog 3=some (.int .i64 0):=by kernel_rfl
theorem zhU:appB Tryz.prog 54 4 1=true:=by kernel_rfl
theorem zr3:zbJ Tryz.prog 4=some (.bool false):=by kernel_rfl
theorem zrl:zaq Tryz.prog 124=true:=by kernel_rfl
theorem zcH:zdo Tryz.prog 54 4 1=true:=by kernel_rfl
theorem zeh:zaq Tryz.prog 37=true:=by kernel_rfl
theorem za7:zaq Tryz.prog 96=true:=by kernel_rfl
theorem zeg:zaq Tryz.prog 74=true:=by kernel_rfl
theorem zg7:fldB Tryz.prog 123 0 0=true:=by kernel_rfl
theorem zg6:fldB Tryz.prog 123 1 1=true:=by kernel_rfl
theorem zg5:fldB Tryz.prog 123 2 2=true:=by kernel_rfl
theorem zqQ:zbJ Tryz.prog 123=some (.agg #[.int .i64 0,.int .i64 0,.int .i64 0]):=by kernel_rfl
theorem zqZ:zbd Tryz.prog 123 [(0,1),(1,1),(2,1)]=true:=by kernel_rfl
theorem zsi:zaq Tryz.prog 72=true:=by kernel_rfl
theorem zn0:zaq Tryz.prog 103=true:=by kernel_rfl
theorem zpZ:zaq Tryz.prog 35=true:=by kernel_rfl
theorem zpN:ptrB Tryz.prog 33=true:=by kernel_rfl
theorem zh2:zaq Tryz.prog 49=true:=by kernel_rfl
theorem zh0:zaq Tryz.prog 76=true:=by kernel_rfl
theorem zdu:fldB Tryz.prog 168 8 18=true:=by kernel_rfl
theorem zaT:fldB Tryz.prog 168 4 6=true:=by kernel_rfl
theorem zcM:fldB Tryz.prog 166 0 0=true:=by kernel_rfl
theorem za3:aggB Tryz.prog 164 2=true:=by kernel_rfl
theorem zbD:fldB Tryz.prog 168 5 11=true:=by kernel_rfl
theorem zk7:Tryz.prog.eqGuardType Tryz.prog.depth 164=false:=by kernel_rfl
theorem zcL:fldB Tryz.prog 166 1 2=true:=by kernel_rfl
theorem zbC:fldB Tryz.prog 168 7 17=true:=by kernel_rfl
theorem zcx:aggB Tryz.prog 166 5=true:=by kernel_rfl
theorem zkh:zbd Tryz.prog 166 [(0,2),(2,2),(4,1)]=true:=by kernel_rfl
theorem zkg:zbJ Tryz.prog 166=some (.agg #[.int .i64 0,.int .i64 0,.int .i64 0,.int .i64 0,.int .i64 0]):=by kernel_rfl
theorem zhc:zaq Tryz.prog 39=true:=by kernel_rfl
theorem zqW:zbd Tryz.prog 168 [(0,3),(3,1),(4,1),(5,1),(6,5),(11,5),(16,1),(17,1),(18,1),(19,1)]=true:=by kernel_rfl
theorem zqM:zbJ Tryz.prog 168=some (.agg #[.int .i64 0,.int .i64 0,.int .i64 0,.int .i64 0,.int .i64 0,.pointer none,.int .i64 0,.int .i64 0,.int .i64 0,.int .i64 0,.int .i64 0,.int .i64 0,.int .i64 0,.int .i64 0,.int .i64 0,.int .i64 0,.bool false,.bool false,.int .i64 0,.int .i64 0]):=by kernel_rfl
theorem zet:fldB Tryz.prog 168 9 19=true:=by kernel_rfl
theorem zd7:fldB Tryz.prog 166 2 4=true:=by kernel_rfl
theorem zg2:fldB Tryz.prog 164 0 0=true:=by kernel_rfl
theorem zbH:fldB Tryz.prog 168 3 5=true:=by kernel_rfl
theorem zfB:zb3 Tryz.prog 90=true:=by kernel_rfl
theorem zsn:zaq Tryz.prog 40=true:=by kernel_rfl
theorem zpY:zaq Tryz.prog 41=true:=by kernel_rfl
theorem znw:zaq Tryz.prog 50=true:=by kernel_rfl
theorem zki:zbd Tryz.prog 164 [(0,1),(1,1)]=true:=by kernel_rfl
theorem zfX:zbJ Tryz.prog 164=some (.agg #[.int .i64 0,.int .i64 0]):=by kernel_rfl
theorem zbr:fldB Tryz.prog 168 6 16=true:=by kernel_rfl
theorem zcK:fldB Tryz.prog 168 0 0=true:=by kernel_rfl
theorem ze0:fldB Tryz.prog 168 2 4=true:=by kernel_rfl
theorem ze1:fldB Tryz.prog 168 1 3=true:=by kernel_rfl
theorem zky:zaq Tryz.prog 108=true:=by kernel_rfl
theorem zab:fldB Tryz.prog 117 0 0=true:=by kernel_rfl
theorem zaB:fldB Tryz.prog 111 1 1=true:=by kernel_rfl
theorem zaA:fldB Tryz.prog 111 2 2=true:=by kernel_rfl
theorem za2:fldB Tryz.prog 117 2 4=true:=by kernel_rfl
theorem zea:fldB Tryz.prog 117 1 3=true:=by kernel_rfl
theorem zc4:zaq Tryz.prog 105=true:=by kernel_rfl
theorem zai:fldB Tryz.prog 111 0 0=true:=by kernel_rfl
theorem zbl:fldB Tryz.prog 105 0 0=true:=by kernel_rfl
theorem zha:fldB Tryz.prog 105 1 3=true:=by kernel_rfl
theorem zq0:zbd Tryz.prog 117 [(0,3),(3,1),(4,1)]=true:=by kernel_rfl
theorem zqR:zbJ Tryz.prog 117=some (.agg #[.int .i64 0,.int .i64 0,.int .i64 0,.pointer none,.int .i64 0]):=by kernel_rfl
theorem zg9:fldB Tryz.prog 105 2 4=true:=by kernel_rfl
theorem ziF:zb3 Tryz.prog 103=true:=by kernel_rfl
theorem zb6:zdo Tryz.prog 103 111 4=true:=by kernel_rfl
theorem zg8:fldB Tryz.prog 105 3 5=true:=by kernel_rfl
theorem zsc:zbd Tryz.prog 23 [(0,1),(1,1),(2,1)]=true:=by kernel_rfl
theorem zpM:zbJ Tryz.prog 23=some (.agg #[.int .i64 0,.int .i64 0,.int .i64 0]):=by kernel_rfl
theorem zpU:zaq Tryz.prog 62=true:=by kernel_rfl
theorem zns:ptrB Tryz.prog 113=true:=by kernel_rfl
theorem znu:zaq Tryz.prog 63=true:=by kernel_rfl
theorem zlc:zaq Tryz.prog 66=true:=by kernel_rfl
theorem zpT:zaq Tryz.prog 64=true:=by kernel_rfl
theorem zpR:zaq Tryz.prog 68=true:=by kernel_rfl
theorem zpQ:zaq Tryz.prog 69=true:=by kernel_rfl
theorem zsj:zaq Tryz.prog 71=true:=by kernel_rfl
theorem zpP:zaq Tryz.prog 70=true:=by kernel_rfl
theorem zhk:aggB Tryz.prog 105 6=true:=by kernel_rfl
theorem zpX:zaq Tryz.prog 56=true:=by kernel_rfl
theorem zh1:zaq Tryz.prog 57=true:=by kernel_rfl
theorem zsk:zaq Tryz.prog 58=true:=by kernel_rfl
theorem zq1:ptrB Tryz.prog 108=true:=by kernel_rfl
theorem zdU:aggB Tryz.prog 111 4=true:=by kernel_rfl
theorem zno:zbJ Tryz.prog 111=some (.agg #[.int .i64 0,.int .i64 0,.int .i64 0,.int .i64 0]):=by kernel_rfl
theorem zpW:zaq Tryz.prog 59=true:=by kernel_rfl
theorem zpV:zaq Tryz.prog 60=true:=by kernel_rfl
theorem zpS:zaq Tryz.prog 67=true:=by kernel_rfl
theorem zd6:zb3 Tryz.prog 108=true:=by kernel_rfl
theorem zqT:zbJ Tryz.prog 108=some (.pointer none):=by kernel_rfl
theorem zd5:zb3 Tryz.prog 113=true:=by kernel_rfl
theorem zju:zb3 Tryz.prog 54=true:=by kernel_rfl
theorem zqS:zbJ Tryz.prog 113=some (.pointer none):=by kernel_rfl
theorem zrZ:zbJ Tryz.prog 54=some (.slice none 0 0):=by kernel_rfl
theorem zko:fldB Tryz.prog 111 3 3=true:=by kernel_rfl
theorem znt:zaq Tryz.prog 65=true:=by kernel_rfl
theorem zbe {n m:Int}:FnD Tryz.prog 102 [.int .i64 n,.int .i64 m] [] (.bool (decide (0≤n∧n<m))) []:=by
 refine Fn.enter (Tryz.func102) rfl rfl (fun w0 R=>?_)
 refine sA (xaf rfl (dA (xmi rfl (TL.geq rfl rfl rfl rfl (fun q1=>?_) (fun q1=>?_)))))
 refine xmt rfl (xmi rfl (xmi rfl (TL.lssV rfl rfl rfl rfl (TL.pickT (.bool _) rfl rfl rfl rfl (xab rfl (dR ?_))))))
 refine FQ.ret1 (v:=(.bool _)) (Bs:=[]) [] rfl rfl rfl trivial ?_
 first | exact ⟨bT (by omega),rfl⟩ | exact ⟨bF (by omega),rfl⟩ | exact ⟨congrArg Value.bool (decide_eq_decide.2 (by omega)),rfl⟩
 refine xmf rfl (xo rfl (xo rfl (xo rfl (xpF rfl (xaf rfl (dR ?_))))))
 refine FQ.ret1 (v:=(.bool false)) (Bs:=[]) [] rfl rfl rfl trivial ?_
 first | exact ⟨bT (by omega),rfl⟩ | exact ⟨bF (by omega),rfl⟩ | exact ⟨congrArg Value.bool (decide_eq_decide.2 (by omega)),rfl⟩
theorem zoY {x:Int} (h0:0≤x) (h1:x≤16):FnD Tryz.prog 145 [.int .u64 x] [] (.int .i64 (levI x)) []:=by
 have hl:=zqD h0 h1
 refine Fn.enter (Tryz.func145) rfl rfl (fun w0 R=>?_)
 refine sA (xai rfl (dB (xmi rfl (TL.geqF rfl rfl (by omega) rfl rfl (TL.done (TQ.then (TC.condF rfl (TC.skip ?_))))))))
 refine TQ.then (sB (xmi rfl (TL.geqF rfl rfl (by omega) rfl rfl (TL.done (TQ.then (TC.condF rfl (TC.skip (TQ.then ?_))))))))
 refine sB (xmi rfl (TL.geqF rfl rfl (by omega) rfl rfl (dF rfl (xmi rfl (xmi rfl (TL.conv _ rfl zes zo8 (wru8 (by omega)) rfl rfl (TL.ixS (levI x) rfl rfl zr5 (by omega) (zrT h0 h1 (by kernel_rfl)) rfl rfl (TL.conv _ rfl fc_u5 zbY (wr64 (by omega)) rfl rfl ?_))))))))
 refine TL.add _ rfl rfl (wr64 (by omega)) rfl rfl (xai rfl (dR ?_))
 refine FQ.ret1 (v:=(.int _ _)) (Bs:=[]) [] rfl rfl rfl trivial ?_
 exact ⟨iE (by omega),rfl⟩
theorem zrR {x:Int} (h0:0≤x) (h1:x≤16):FnD Tryz.prog 116 [.int .u64 x] [] (.int .i64 (levI x)) []:=by
 refine Fn.enter (Tryz.func116) rfl rfl (fun w0 R=>?_)
 refine sA (xai rfl (dS (TC.condF rfl (TC.skip (TQ.then (sA (xmi rfl (TL.callD [] [] (zoY (by omega) (by omega)) ⟨rfl,trivial⟩ trivial zrh rfl rfl rfl rfl rfl trivial ?_))))))))
 refine xai rfl (dR ?_)
 refine FQ.ret1 (v:=(.int _ _)) (Bs:=[]) [] rfl rfl rfl trivial ?_
 exact ⟨rfl,rfl⟩
theorem zce {l:Lay} (hl:l.Ok)  : FnD Tryz.prog 77 [layV l] [] (.int .i64 l.lev) []:=by
 have hb:=zeX hl
 refine Fn.enter (Tryz.func77) rfl rfl (fun w0 R=>?_)
 refine sA (xB 0 rfl (fun bk0=>(xai rfl (dA (xf 0 zaJ rfl (xli 0 zac rfl rfl (TL.conv _ rfl zfA zkk (zrB (by omega)) rfl rfl (TL.callD [] [] (zrR (by omega) (by omega)) ⟨rfl,trivial⟩ trivial zrm rfl rfl rfl rfl rfl trivial (xai rfl ?_)))))))))
 refine dR ?_
 refine FQ.ret1 (v:=(.int _ _)) (Bs:=[]) [] rfl rfl rfl trivial ?_
 exact ⟨rfl,rfl⟩
theorem ziW {l:Lay} (hl:l.Ok)  : FnD Tryz.prog 78 [layV l] [] (.int .i64 l.arcs) []:=by
 have hb:=zbn hl
 refine Fn.enter (Tryz.func78) rfl rfl (fun w0 R=>?_)
 refine sA (xB 0 rfl (fun bk0=>(xai rfl (dA (xL3 0 zaa rfl rfl (TL.callD [] [] (zce hl) ⟨rfl,trivial⟩ trivial zeP rfl rfl rfl rfl rfl trivial (TL.mul _ rfl rfl (wr64 (by omega)) rfl rfl (xai rfl (dR ?_)))))))))
 refine FQ.ret1 (v:=(.int _ _)) (Bs:=[]) [] rfl rfl rfl trivial ?_
 exact ⟨rfl,rfl⟩
theorem zaV {l:Lay} (hl:l.Ok)  : FnD Tryz.prog 17 [layV l] [] (.int .i64 l.nodes) []:=by
 have hb:=zbn hl
 refine Fn.enter (Tryz.func17) rfl rfl (fun w0 R=>?_)
 refine sA (xB 0 rfl (fun bk0=>(xai rfl (dS (TC.draw [(0,true),(2,true),(3,true),(5,true),(6,true),(7,true),(1,false),(4,true),(8,false),(9,true),(10,true),(11,true)] [0] fc_m (by kernel_rfl) (xL3 0 zaa rfl rfl (xf 0 zaJ rfl (xli 0 zac rfl rfl (xf 1 zby rfl ?_)))))))))
 refine xli 0 zac rfl rfl (xL3 0 zaa rfl rfl (TL.callD [] [] (zce hl) ⟨rfl,trivial⟩ trivial zeP rfl rfl rfl rfl rfl (kL1 rfl trivial) (TL.mul _ rfl rfl (wr64 (by omega)) rfl rfl (TL.callD [] [] (ziW hl) ⟨rfl,trivial⟩ trivial zlb rfl rfl rfl rfl rfl (kL1 rfl trivial) (TL.mul _ rfl rfl (wr64 (by omega)) rfl rfl (TL.add _ rfl rfl (wr64 (by omega)) rfl rfl (xai rfl (dR ?_))))))))
 refine FQ.ret1 (v:=(.int _ _)) (Bs:=[]) [] rfl rfl rfl trivial ?_
 exact ⟨rfl,rfl⟩
theorem zcT {l:Lay} (hl:l.Ok) {i v:Int}:FnD Tryz.prog 51 [layV l,.int .i64 i,.int .i64 v] [] (.int .i64 (l.vertex i v)) []:=by
 have hb:=zbn hl
 refine Fn.enter (Tryz.func51) rfl rfl (fun w0 R=>?_)
 refine sA (xB 0 rfl (fun bk0=>(xai rfl (dB (xmi rfl (xL3 0 zaa rfl rfl (TL.callD [] [] (zce hl) ⟨rfl,trivial⟩ trivial zeP rfl rfl rfl rfl rfl trivial (TL.callD [] [] zbe ⟨rfl,rfl,trivial⟩ trivial zbI rfl rfl rfl rfl rfl trivial (TL.casesP rfl (fun q1=>?_) (fun q1=>?_))))))))))
 refine xnt rfl (xmf rfl (xmi rfl (xf 0 zaJ rfl (xli 0 zac rfl rfl (TL.callD [] [] zbe ⟨rfl,rfl,trivial⟩ trivial zbI rfl rfl rfl rfl rfl trivial (TL.casesP rfl (fun q2=>?_) (fun q2=>?_)))))))
 refine xnt rfl (xpF rfl (dF rfl (xmi rfl (xf 0 zaJ rfl (xli 0 zac rfl rfl (TL.mul _ rfl rfl (wr64 (by have:=zdi (a:=i) (A:=5) (b:=(l.V:Int)) (B:=16) (by omega) (by omega) (by omega) (by omega); omega)) rfl rfl (TL.add _ rfl rfl (wr64 (by have:=zdi (a:=i) (A:=5) (b:=(l.V:Int)) (B:=16) (by omega) (by omega) (by omega) (by omega); omega)) rfl rfl (xmi rfl ?_))))))))
 refine TL.add _ rfl rfl (wr64 (by have:=zdi (a:=i) (A:=5) (b:=(l.V:Int)) (B:=16) (by omega) (by omega) (by omega) (by omega); omega)) rfl rfl (xai rfl (dR ?_))
 refine FQ.ret1 (v:=(.int _ _)) (Bs:=[]) [] rfl rfl rfl trivial ?_
 first | exact ⟨iE (by unfold Lay.vertex; rw [if_pos (by omega)]),rfl⟩ | exact ⟨iE (by unfold Lay.vertex; rw [if_neg (by omega)]),rfl⟩
 refine xnf rfl (xpH rfl (dT rfl (xai rfl (dRR ?_))))
 refine FQ.ret1 (v:=(.int _ _)) (Bs:=[]) [] rfl rfl rfl trivial ?_
 first | exact ⟨iE (by unfold Lay.vertex; rw [if_pos (by omega)]),rfl⟩ | exact ⟨iE (by unfold Lay.vertex; rw [if_neg (by omega)]),rfl⟩
 refine xnf rfl (xmt rfl (xo rfl (xo rfl (xo rfl (xo rfl (xo rfl (xpT rfl (dT rfl ?_))))))))
 refine xai rfl (dRR ?_)
 refine FQ.ret1 (v:=(.int _ _)) (Bs:=[]) [] rfl rfl rfl trivial ?_
 first | exact ⟨iE (by unfold Lay.vertex; rw [if_pos (by omega)]),rfl⟩ | exact ⟨iE (by unfold Lay.vertex; rw [if_neg (by omega)]),rfl⟩
theorem zop {l:Lay} (hl:l.Ok) {s i d:Int}:FnD Tryz.prog 174 [layV l,.int .i64 s,.int .i64 i,.int .i64 d] [] (.int .i64 (l.arc s i d)) []:=by
 have hb:=zbn hl
 refine Fn.enter (Tryz.func174) rfl rfl (fun w0 R=>?_)
 refine sA (xB 0 rfl (fun bk0=>(xai rfl (dB (xmi rfl (xf 1 zby rfl (xli 0 zac rfl rfl (TL.callD [] [] zbe ⟨rfl,rfl,trivial⟩ trivial zbI rfl rfl rfl rfl rfl trivial (TL.casesP rfl (fun q1=>?_) (fun q1=>?_))))))))))
 refine xnt rfl (xmf rfl (xmi rfl (xL3 0 zaa rfl rfl (TL.callD [] [] (zce hl) ⟨rfl,trivial⟩ trivial zeP rfl rfl rfl rfl rfl trivial (TL.callD [] [] zbe ⟨rfl,rfl,trivial⟩ trivial zbI rfl rfl rfl rfl rfl trivial (TL.casesP rfl (fun q2=>?_) (fun q2=>?_)))))))
 refine xnt rfl (xpF rfl (xmf rfl (xmi rfl (TL.callD [] [] zbe ⟨rfl,rfl,trivial⟩ trivial zbI rfl rfl rfl rfl rfl trivial (TL.casesP rfl (fun q3=>?_) (fun q3=>?_))))))
 refine xnt rfl (xpF rfl (TL.done (TQ.then (TC.condF rfl (TC.skip (TQ.then (TC.seq (TC.draw [(0,true),(2,true),(3,true),(6,true),(7,true),(11,true),(12,true),(14,true),(1,false),(4,true),(5,true),(8,false),(9,true),(10,true),(13,true),(15,true),(16,true)] [0] fc_m (by kernel_rfl) ?_))))))))
 refine xL3 0 zaa rfl rfl (xf 0 zaJ rfl (xli 0 zac rfl rfl (xmi rfl (xL3 0 zaa rfl rfl (xmi rfl (TL.mul _ rfl rfl (wr64 (by omega)) rfl rfl (xmi rfl (TL.callD [] [] (zce hl) ⟨rfl,trivial⟩ trivial zeP rfl rfl rfl rfl rfl (kL1 rfl trivial) ?_))))))))
 refine TL.mul _ rfl rfl (wr64 (by omega)) rfl rfl (TL.add _ rfl rfl (wr64 (by omega)) rfl rfl (TL.callD [] [] (ziW hl) ⟨rfl,trivial⟩ trivial zlb rfl rfl rfl rfl rfl (kL1 rfl trivial) (TL.mul _ rfl rfl (wr64 (by have:=zdi (a:=s) (A:=48) (b:=l.arcs) (B:=10) (by omega) (by omega) (by omega) (by omega); omega)) rfl rfl (TL.add _ rfl rfl (wr64 (by have:=zdi (a:=s) (A:=48) (b:=l.arcs) (B:=10) (by omega) (by omega) (by omega) (by omega); omega)) rfl rfl (TL.add _ rfl rfl (wr64 (by have:=zdi (a:=s) (A:=48) (b:=l.arcs) (B:=10) (by omega) (by omega) (by omega) (by omega); omega)) rfl rfl ?_)))))
 refine TL.add _ rfl rfl (wr64 (by have:=zdi (a:=s) (A:=48) (b:=l.arcs) (B:=10) (by omega) (by omega) (by omega) (by omega); omega)) rfl rfl (xai rfl (dR ?_))
 refine FQ.ret1 (v:=(.int _ _)) (Bs:=[]) [] rfl rfl rfl trivial ?_
 first | exact ⟨iE (by unfold Lay.arc; rw [if_pos (by omega)]),rfl⟩ | exact ⟨iE (by unfold Lay.arc; rw [if_neg (by omega)]),rfl⟩
 refine xnf rfl (xpH rfl (dT rfl (xai rfl (dRR ?_))))
 refine FQ.ret1 (v:=(.int _ _)) (Bs:=[]) [] rfl rfl rfl trivial ?_
 first | exact ⟨iE (by unfold Lay.arc; rw [if_pos (by omega)]),rfl⟩ | exact ⟨iE (by unfold Lay.arc; rw [if_neg (by omega)]),rfl⟩
 refine xnf rfl (xpH rfl (xmt rfl (xo rfl (xo rfl (xo rfl (xpT rfl (dT rfl (xai rfl ?_))))))))
 refine dRR ?_
 refine FQ.ret1 (v:=(.int _ _)) (Bs:=[]) [] rfl rfl rfl trivial ?_
 first | exact ⟨iE (by unfold Lay.arc; rw [if_pos (by omega)]),rfl⟩ | exact ⟨iE (by unfold Lay.arc; rw [if_neg (by omega)]),rfl⟩
 refine xnf rfl (xmt rfl (xo rfl (xo rfl (xo rfl (xo rfl (xo rfl (xpT rfl (xmt rfl ?_))))))))
 refine xo rfl (xo rfl (xo rfl (xpT rfl (dT rfl (xai rfl (dRR ?_))))))
 refine FQ.ret1 (v:=(.int _ _)) (Bs:=[]) [] rfl rfl rfl trivial ?_
 first | exact ⟨iE (by unfold Lay.arc; rw [if_pos (by omega)]),rfl⟩ | exact ⟨iE (by unfold Lay.arc; rw [if_neg (by omega)]),rfl⟩
theorem ziC {l:Lay} (hl:l.Ok)  : FnD Tryz.prog 122 [layV l] [] (.int .i64 l.free) []:=by
 have hb:=zbn hl
 refine Fn.enter (Tryz.func122) rfl rfl (fun w0 R=>?_)
 refine sA (xB 0 rfl (fun bk0=>(xai rfl (dA (xf 2 zeD rfl (xli 0 zac rfl rfl (xai rfl (dR ?_))))))))
 refine FQ.ret1 (v:=(.int _ _)) (Bs:=[]) [] rfl rfl rfl trivial ?_
 exact ⟨rfl,rfl⟩
theorem zmQ {l:Lay} (hl:l.Ok) {s f:Int} (hf:0≤f∧f≤8):FnD Tryz.prog 149 [layV l,.int .i64 s,.int .i64 f] [] (.int .i64 (l.of s f)) []:=by
 have hb:=zbn hl
 refine Fn.enter (Tryz.func149) rfl rfl (fun w0 R=>?_)
 refine sA (xB 0 rfl (fun bk0=>(xai rfl (dB (xmi rfl (xf 1 zby rfl (xli 0 zac rfl rfl (TL.callD [] [] zbe ⟨rfl,rfl,trivial⟩ trivial zbI rfl rfl rfl rfl rfl trivial (TL.casesP rfl (fun q1=>?_) (fun q1=>?_))))))))))
 refine xnt rfl (dF rfl (xL3 0 zaa rfl rfl (TL.callD [] [] (ziC hl) ⟨rfl,trivial⟩ trivial ziP rfl rfl rfl rfl rfl trivial (TL.add _ rfl rfl (wr64 (by omega)) rfl rfl (xmi rfl (TL.mul _ rfl rfl (wr64 (by omega)) rfl rfl (TL.add _ rfl rfl (wr64 (by omega)) rfl rfl (xmi rfl ?_))))))))
 refine TL.add _ rfl rfl (wr64 (by omega)) rfl rfl (xai rfl (dR ?_))
 refine FQ.ret1 (v:=(.int _ _)) (Bs:=[]) [] rfl rfl rfl trivial ?_
 first | exact ⟨iE (by unfold Lay.of Lay.free at *; rw [if_pos (by omega)]),rfl⟩ | exact ⟨iE (by unfold Lay.of Lay.free at *; rw [if_neg (by omega)]),rfl⟩
 refine xnf rfl (dT rfl (xai rfl (dRR ?_)))
 refine FQ.ret1 (v:=(.int _ _)) (Bs:=[]) [] rfl rfl rfl trivial ?_
 first | exact ⟨iE (by unfold Lay.of Lay.free at *; rw [if_pos (by omega)]),rfl⟩ | exact ⟨iE (by unfold Lay.of Lay.free at *; rw [if_neg (by omega)]),rfl⟩
theorem zn4 {l:Lay} (hl:l.Ok) {s:Int}:FnD Tryz.prog 135 [layV l,.int .i64 s] [] (.int .i64 (l.ends s)) []:=by
 have hb:=zbn hl
 refine Fn.enter (Tryz.func135) rfl rfl (fun w0 R=>?_)
 refine sA (xB 0 rfl (fun bk0=>(xai rfl (dA (xL3 0 zaa rfl rfl (xmi rfl (TL.callD [] [] (zmQ hl (by omega)) ⟨rfl,rfl,rfl,trivial⟩ trivial zhi rfl rfl rfl rfl rfl trivial (xai rfl (dR ?_)))))))))
 refine FQ.ret1 (v:=(.int _ _)) (Bs:=[]) [] rfl rfl rfl trivial ?_
 exact ⟨rfl,rfl⟩
theorem ziv {l:Lay} (hl:l.Ok) {s:Int}:FnD Tryz.prog 136 [layV l,.int .i64 s] [] (.int .i64 (l.level s)) []:=by
 have hb:=zbn hl
 refine Fn.enter (Tryz.func136) rfl rfl (fun w0 R=>?_)
 refine sA (xB 0 rfl (fun bk0=>(xai rfl (dA (xL3 0 zaa rfl rfl (xmi rfl (TL.callD [] [] (zmQ hl (by omega)) ⟨rfl,rfl,rfl,trivial⟩ trivial zhi rfl rfl rfl rfl rfl trivial (xai rfl (dR ?_)))))))))
 refine FQ.ret1 (v:=(.int _ _)) (Bs:=[]) [] rfl rfl rfl trivial ?_
 exact ⟨rfl,rfl⟩
theorem zqz {l:Lay} (hl:l.Ok) {s d:Int}:FnD Tryz.prog 182 [layV l,.int .i64 s,.int .i64 d] [] (.int .i64 (l.next s d)) []:=by
 have hb:=zbn hl
 refine Fn.enter (Tryz.func182) rfl rfl (fun w0 R=>?_)
 refine sA (xB 0 rfl (fun bk0=>(xai rfl (dB (xmi rfl (TL.callD [] [] zbe ⟨rfl,rfl,trivial⟩ trivial zbI rfl rfl rfl rfl rfl trivial (TL.casesP rfl (fun q1=>?_) (fun q1=>?_))))))))
 refine xnt rfl (dF rfl (xL3 0 zaa rfl rfl (xmi rfl (xmi rfl (TL.add _ rfl rfl (wr64 (by omega)) rfl rfl (TL.callD [] [] (zmQ hl (by omega)) ⟨rfl,rfl,rfl,trivial⟩ trivial zhi rfl rfl rfl rfl rfl trivial (xai rfl (dR ?_))))))))
 refine FQ.ret1 (v:=(.int _ _)) (Bs:=[]) [] rfl rfl rfl trivial ?_
 first | exact ⟨iE (by unfold Lay.next; rw [if_pos (by omega)]),rfl⟩ | exact ⟨iE (by unfold Lay.next; rw [if_neg (by omega)]),rfl⟩
 refine xnf rfl (dT rfl (xai rfl (dRR ?_)))
 refine FQ.ret1 (v:=(.int _ _)) (Bs:=[]) [] rfl rfl rfl trivial ?_
 first | exact ⟨iE (by unfold Lay.next; rw [if_pos (by omega)]),rfl⟩ | exact ⟨iE (by unfold Lay.next; rw [if_neg (by omega)]),rfl⟩
theorem zqo {l:Lay} (hl:l.Ok) {s d:Int}:FnD Tryz.prog 183 [layV l,.int .i64 s,.int .i64 d] [] (.int .i64 (l.prev s d)) []:=by
 have hb:=zbn hl
 refine Fn.enter (Tryz.func183) rfl rfl (fun w0 R=>?_)
 refine sA (xB 0 rfl (fun bk0=>(xai rfl (dB (xmi rfl (TL.callD [] [] zbe ⟨rfl,rfl,trivial⟩ trivial zbI rfl rfl rfl rfl rfl trivial (TL.casesP rfl (fun q1=>?_) (fun q1=>?_))))))))
 refine xnt rfl (dF rfl (xL3 0 zaa rfl rfl (xmi rfl (xmi rfl (TL.add _ rfl rfl (wr64 (by omega)) rfl rfl (TL.callD [] [] (zmQ hl (by omega)) ⟨rfl,rfl,rfl,trivial⟩ trivial zhi rfl rfl rfl rfl rfl trivial (xai rfl (dR ?_))))))))
 refine FQ.ret1 (v:=(.int _ _)) (Bs:=[]) [] rfl rfl rfl trivial ?_
 first | exact ⟨iE (by unfold Lay.prev; rw [if_pos (by omega)]),rfl⟩ | exact ⟨iE (by unfold Lay.prev; rw [if_neg (by omega)]),rfl⟩
 refine xnf rfl (dT rfl (xai rfl (dRR ?_)))
 refine FQ.ret1 (v:=(.int _ _)) (Bs:=[]) [] rfl rfl rfl trivial ?_
 first | exact ⟨iE (by unfold Lay.prev; rw [if_pos (by omega)]),rfl⟩ | exact ⟨iE (by unfold Lay.prev; rw [if_neg (by omega)]),rfl⟩
theorem zk5 {l:Lay} (hl:l.Ok)  : FnD Tryz.prog 148 [layV l] [] (.int .i64 l.heads) []:=by
 have hb:=zbn hl
 refine Fn.enter (Tryz.func148) rfl rfl (fun w0 R=>?_)
 refine sA (xB 0 rfl (fun bk0=>(xai rfl (dS (TC.draw [(0,true),(3,true),(4,true),(5,true),(1,false),(2,true),(6,true),(7,true)] [0] fc_m (by kernel_rfl) (xL3 0 zaa rfl rfl (xf 1 zby rfl (xli 0 zac rfl rfl (TL.mul _ rfl rfl (wr64 (by omega)) rfl rfl ?_)))))))))
 refine TL.callD [] [] (ziC hl) ⟨rfl,trivial⟩ trivial ziP rfl rfl rfl rfl rfl (kL1 rfl trivial) (TL.add _ rfl rfl (wr64 (by omega)) rfl rfl (TL.add _ rfl rfl (wr64 (by omega)) rfl rfl (xai rfl (dR ?_))))
 refine FQ.ret1 (v:=(.int _ _)) (Bs:=[]) [] rfl rfl rfl trivial ?_
 exact ⟨rfl,rfl⟩
theorem ziA {l:Lay} (hl:l.Ok) {v i:Int}:FnD Tryz.prog 164 [layV l,.int .i64 v,.int .i64 i] [] (.int .i64 (l.head v i)) []:=by
 have hb:=zbn hl
 refine Fn.enter (Tryz.func164) rfl rfl (fun w0 R=>?_)
 refine sA (xB 0 rfl (fun bk0=>(xai rfl (dB (xmi rfl (xf 0 zaJ rfl (xli 0 zac rfl rfl (TL.callD [] [] zbe ⟨rfl,rfl,trivial⟩ trivial zbI rfl rfl rfl rfl rfl trivial (TL.casesP rfl (fun q1=>?_) (fun q1=>?_))))))))))
 refine xnt rfl (xmf rfl (xmi rfl (xL3 0 zaa rfl rfl (TL.callD [] [] (zce hl) ⟨rfl,trivial⟩ trivial zeP rfl rfl rfl rfl rfl trivial (TL.callD [] [] zbe ⟨rfl,rfl,trivial⟩ trivial zbI rfl rfl rfl rfl rfl trivial (TL.casesP rfl (fun q2=>?_) (fun q2=>?_)))))))
 refine xnt rfl (xpF rfl (TL.done (TQ.then (TC.condF rfl (TC.skip (TQ.then (TC.seq (TC.draw [(0,true),(2,true),(3,true),(7,true),(1,false),(4,false),(5,true),(6,true),(8,true),(9,true)] [0] fc_m (by kernel_rfl) ?_))))))))
 refine xL3 0 zaa rfl rfl (xmi rfl (xL3 0 zaa rfl rfl (xmi rfl (TL.callD [] [] (zk5 hl) ⟨rfl,trivial⟩ trivial znJ rfl rfl rfl rfl rfl (kL1 rfl trivial) (TL.callD [] [] (zce hl) ⟨rfl,trivial⟩ trivial zeP rfl rfl rfl rfl rfl (kL1 rfl trivial) (TL.mul _ rfl rfl (wr64 (by have:=zdi (a:=v) (A:=16) (b:=l.lev) (B:=5) (by omega) (by omega) (by omega) (by omega); omega)) rfl rfl (TL.add _ rfl rfl (wr64 (by have:=zdi (a:=v) (A:=16) (b:=l.lev) (B:=5) (by omega) (by omega) (by omega) (by omega); omega)) rfl rfl (TL.add _ rfl rfl (wr64 (by have:=zdi (a:=v) (A:=16) (b:=l.lev) (B:=5) (by omega) (by omega) (by omega) (by omega); omega)) rfl rfl ?_))))))))
 refine xai rfl (dR ?_)
 refine FQ.ret1 (v:=(.int _ _)) (Bs:=[]) [] rfl rfl rfl trivial ?_
 first | exact ⟨iE (by unfold Lay.head; rw [if_pos (by omega)]),rfl⟩ | exact ⟨iE (by unfold Lay.head; rw [if_neg (by omega)]),rfl⟩
 refine xnf rfl (xpH rfl (dT rfl (xai rfl (dRR ?_))))
 refine FQ.ret1 (v:=(.int _ _)) (Bs:=[]) [] rfl rfl rfl trivial ?_
 first | exact ⟨iE (by unfold Lay.head; rw [if_pos (by omega)]),rfl⟩ | exact ⟨iE (by unfold Lay.head; rw [if_neg (by omega)]),rfl⟩
 refine xnf rfl (xmt rfl (xo rfl (xo rfl (xo rfl (xo rfl (xo rfl (xpT rfl (dT rfl ?_))))))))
 refine xai rfl (dRR ?_)
 refine FQ.ret1 (v:=(.int _ _)) (Bs:=[]) [] rfl rfl rfl trivial ?_
 first | exact ⟨iE (by unfold Lay.head; rw [if_pos (by omega)]),rfl⟩ | exact ⟨iE (by unfold Lay.head; rw [if_neg (by omega)]),rfl⟩
theorem zlg {l:Lay} (hl:l.Ok)  : FnD Tryz.prog 120 [layV l] [] (.int .i64 l.edges) []:=by
 have hb:=zbn hl
 refine Fn.enter (Tryz.func120) rfl rfl (fun w0 R=>?_)
 refine sA (xB 0 rfl (fun bk0=>(xai rfl (dS (TC.draw [(0,true),(2,true),(3,true),(4,true),(1,false),(5,false),(6,true),(7,true),(8,true)] [0] fc_m (by kernel_rfl) (xL3 0 zaa rfl rfl (xf 0 zaJ rfl (xli 0 zac rfl rfl (xL3 0 zaa rfl rfl ?_)))))))))
 refine TL.callD [] [] (zk5 hl) ⟨rfl,trivial⟩ trivial znJ rfl rfl rfl rfl rfl (kL1 rfl trivial) (TL.callD [] [] (zce hl) ⟨rfl,trivial⟩ trivial zeP rfl rfl rfl rfl rfl (kL1 rfl trivial) (TL.mul _ rfl rfl (wr64 (by omega)) rfl rfl (TL.add _ rfl rfl (wr64 (by omega)) rfl rfl (xai rfl (dR ?_)))))
 refine FQ.ret1 (v:=(.int _ _)) (Bs:=[]) [] rfl rfl rfl trivial ?_
 exact ⟨rfl,rfl⟩
theorem ziT {l:Lay} (hl:l.Ok) {a b:Int}:FnD Tryz.prog 109 [layV l,.int .i64 a,.int .i64 b] [] (.int .i64 (l.edge a b)) []:=by
 have hb:=zbn hl
 refine Fn.enter (Tryz.func109) rfl rfl (fun w0 R=>?_)
 refine sA (xB 0 rfl (fun bk0=>(xai rfl (dA (xmi rfl (xmi rfl (TL.min2 rfl rfl rfl rfl (xmi rfl (xmi rfl ?_)))))))))
 refine TL.max2 rfl rfl rfl rfl (xai rfl (xai rfl (dB (xmi rfl (xmi rfl (TL.eql rfl rfl rfl rfl (fun q1=>?_) (fun q1=>?_)))))))
 refine xmt rfl (xo rfl (xo rfl (xo rfl (xo rfl (xo rfl (xpT rfl (xmt rfl (xo rfl ?_))))))))
 refine xo rfl (xo rfl (xo rfl (xo rfl (xpT rfl (dT rfl (xai rfl (dRR ?_)))))))
 refine FQ.ret1 (v:=(.int _ _)) (Bs:=[]) [] rfl rfl rfl trivial ?_
 first | exact ⟨iE (by unfold Lay.edge; rw [if_neg (by omega)]),rfl⟩ | exact ⟨iE (by unfold Lay.edge; rw [if_pos (by omega)]),rfl⟩
 refine xmf rfl (xmi rfl (xf 0 zaJ rfl (xli 0 zac rfl rfl (TL.callD [] [] zbe ⟨rfl,rfl,trivial⟩ trivial zbI rfl rfl rfl rfl rfl trivial (TL.casesP rfl (fun q2=>?_) (fun q2=>?_))))))
 refine xnt rfl (xpF rfl (xmf rfl (xmi rfl (xf 0 zaJ rfl (xli 0 zac rfl rfl (TL.callD [] [] zbe ⟨rfl,rfl,trivial⟩ trivial zbI rfl rfl rfl rfl rfl trivial (TL.casesP rfl (fun q3=>?_) (fun q3=>?_))))))))
 refine xnt rfl (xpF rfl (TL.done (TQ.then (TC.condF rfl (TC.skip (TQ.then (TC.seq (TC.draw [(0,true),(2,true),(3,true),(4,true),(5,true),(6,true),(7,true),(8,true),(9,true),(10,true),(12,true),(14,true),(1,false),(11,true),(13,true),(15,true),(16,true),(17,true)] [0] fc_m (by kernel_rfl) ?_))))))))
 refine xL3 0 zaa rfl rfl (xmi rfl (xf 0 zaJ rfl (xli 0 zac rfl rfl (TL.mul _ rfl rfl (wr64 (by omega)) rfl rfl (xmi rfl (TL.sub _ rfl rfl (wr64 (by omega)) rfl rfl (TL.sub _ rfl rfl (wr64 (by omega)) rfl rfl (TL.mul _ rfl rfl (wr64 (by have h9:=ze5 (x:=min a b) (V:=(l.V:Int)) (by omega) (by omega) (by omega); omega)) rfl rfl ?_))))))))
 refine TL.quo _ rfl rfl (by omega) (zmx (by have h9:=ze5 (x:=min a b) (V:=(l.V:Int)) (by omega) (by omega) (by omega); omega) (by omega) (by have h9:=ze5 (x:=min a b) (V:=(l.V:Int)) (by omega) (by omega) (by omega); omega)) rfl rfl (xmi rfl (xmi rfl (TL.callD [] [] (zlg hl) ⟨rfl,trivial⟩ trivial znU rfl rfl rfl rfl rfl (kL1 rfl trivial) (TL.add _ rfl rfl (wr64 (by have h9:=ze5 (x:=min a b) (V:=(l.V:Int)) (by omega) (by omega) (by omega); omega)) rfl rfl (TL.add _ rfl rfl (wr64 (by have h9:=ze5 (x:=min a b) (V:=(l.V:Int)) (by omega) (by omega) (by omega); omega)) rfl rfl ?_)))))
 refine TL.sub _ rfl rfl (wr64 (by have h9:=ze5 (x:=min a b) (V:=(l.V:Int)) (by omega) (by omega) (by omega); omega)) rfl rfl (TL.sub _ rfl rfl (wr64 (by have h9:=ze5 (x:=min a b) (V:=(l.V:Int)) (by omega) (by omega) (by omega); omega)) rfl rfl (xai rfl (dR ?_)))
 refine FQ.ret1 (v:=(.int _ _)) (Bs:=[]) [] rfl rfl rfl trivial ?_
 first | exact ⟨iE (by unfold Lay.edge; rw [if_neg (by omega)]),rfl⟩ | exact ⟨iE (by unfold Lay.edge; rw [if_pos (by omega)]),rfl⟩
 refine xnf rfl (xpH rfl (dT rfl (xai rfl (dRR ?_))))
 refine FQ.ret1 (v:=(.int _ _)) (Bs:=[]) [] rfl rfl rfl trivial ?_
 first | exact ⟨iE (by unfold Lay.edge; rw [if_neg (by omega)]),rfl⟩ | exact ⟨iE (by unfold Lay.edge; rw [if_pos (by omega)]),rfl⟩
 refine xnf rfl (xpH rfl (xmt rfl (xo rfl (xo rfl (xo rfl (xo rfl (xo rfl (xpT rfl ?_))))))))
 refine dT rfl (xai rfl (dRR ?_))
 refine FQ.ret1 (v:=(.int _ _)) (Bs:=[]) [] rfl rfl rfl trivial ?_
 first | exact ⟨iE (by unfold Lay.edge; rw [if_neg (by omega)]),rfl⟩ | exact ⟨iE (by unfold Lay.edge; rw [if_pos (by omega)]),rfl⟩
theorem zon {l:Lay} (hl:l.Ok)  : FnD Tryz.prog 88 [layV l] [] (.int .i64 l.base) []:=by
 have hb:=zbn hl
 refine Fn.enter (Tryz.func88) rfl rfl (fun w0 R=>?_)
 refine sA (xB 0 rfl (fun bk0=>(xai rfl (dS (TC.draw [(0,true),(2,true),(3,true),(4,true),(5,true),(6,true),(7,true),(8,true),(1,false),(9,true),(10,true)] [0] fc_m (by kernel_rfl) (xL3 0 zaa rfl rfl (xf 0 zaJ rfl (xli 0 zac rfl rfl (xf 0 zaJ rfl ?_)))))))))
 refine xli 0 zac rfl rfl (TL.sub _ rfl rfl (wr64 (by omega)) rfl rfl (TL.mul _ rfl rfl (wr64 (by omega)) rfl rfl (TL.quo _ rfl rfl (by omega) (zmx (by omega) (by omega) (by omega)) rfl rfl (TL.callD [] [] (zlg hl) ⟨rfl,trivial⟩ trivial znU rfl rfl rfl rfl rfl (kL1 rfl trivial) (TL.add _ rfl rfl (wr64 (by omega)) rfl rfl (xai rfl (dR ?_)))))))
 refine FQ.ret1 (v:=(.int _ _)) (Bs:=[]) [] rfl rfl rfl trivial ?_
 exact ⟨rfl,rfl⟩
theorem zay {l:Lay} (hl:l.Ok) {x f:Int}:FnD Tryz.prog 54 [layV l,.int .i64 x,.int .i64 f] [] (.int .i64 (l.field x f)) []:=by
 have hb:=zbn hl
 refine Fn.enter (Tryz.func54) rfl rfl (fun w0 R=>?_)
 refine sA (xB 0 rfl (fun bk0=>(xai rfl (dB (xmi rfl (TL.sub _ rfl rfl (rfl) rfl rfl (xL3 0 zaa rfl rfl (TL.callD [] [] (zaV hl) ⟨rfl,trivial⟩ trivial zbE rfl rfl rfl rfl rfl trivial (TL.callD [] [] zbe ⟨rfl,rfl,trivial⟩ trivial zbI rfl rfl rfl rfl rfl trivial ?_)))))))))
 refine TL.casesP rfl (fun q1=>?_) (fun q1=>?_)
 refine xnt rfl (xmf rfl (xmi rfl (TL.callD [] [] zbe ⟨rfl,rfl,trivial⟩ trivial zbI rfl rfl rfl rfl rfl trivial (TL.casesP rfl (fun q2=>?_) (fun q2=>?_)))))
 refine xnt rfl (xpF rfl (dF rfl (xL3 0 zaa rfl rfl (TL.callD [] [] (zon hl) ⟨rfl,trivial⟩ trivial zpO rfl rfl rfl rfl rfl trivial (xmi rfl (TL.sub _ rfl rfl (rfl) rfl rfl (TL.mul _ rfl rfl (wr64 (by omega)) rfl rfl (TL.add _ rfl rfl (wr64 (by omega)) rfl rfl ?_))))))))
 refine xmi rfl (TL.add _ rfl rfl (wr64 (by omega)) rfl rfl (xai rfl (dR ?_)))
 refine FQ.ret1 (v:=(.int _ _)) (Bs:=[]) [] rfl rfl rfl trivial ?_
 first | exact ⟨iE (by unfold Lay.field; rw [if_pos (by omega)]),rfl⟩ | exact ⟨iE (by unfold Lay.field; rw [if_neg (by omega)]),rfl⟩
 refine xnf rfl (xpH rfl (dT rfl (xai rfl (dRR ?_))))
 refine FQ.ret1 (v:=(.int _ _)) (Bs:=[]) [] rfl rfl rfl trivial ?_
 first | exact ⟨iE (by unfold Lay.field; rw [if_pos (by omega)]),rfl⟩ | exact ⟨iE (by unfold Lay.field; rw [if_neg (by omega)]),rfl⟩
 refine xnf rfl (xmt rfl (xo rfl (xo rfl (xo rfl (xpT rfl (dT rfl (xai rfl (dRR ?_))))))))
 refine FQ.ret1 (v:=(.int _ _)) (Bs:=[]) [] rfl rfl rfl trivial ?_
 first | exact ⟨iE (by unfold Lay.field; rw [if_pos (by omega)]),rfl⟩ | exact ⟨iE (by unfold Lay.field; rw [if_neg (by omega)]),rfl⟩
theorem zph {l:Lay} (hl:l.Ok)  : FnD Tryz.prog 30 [layV l] [] (.int .i64 l.cells) []:=by
 have hb:=zbn hl
 refine Fn.enter (Tryz.func30) rfl rfl (fun w0 R=>?_)
 refine sA (xB 0 rfl (fun bk0=>(xai rfl (dS (TC.draw [(0,true),(2,true),(1,false),(3,false),(4,true),(5,true),(6,true)] [0] fc_m (by kernel_rfl) (xL3 0 zaa rfl rfl (xL3 0 zaa rfl rfl (TL.callD [] [] (zon hl) ⟨rfl,trivial⟩ trivial zpO rfl rfl rfl rfl rfl (kL1 rfl trivial) (TL.callD [] [] (zaV hl) ⟨rfl,trivial⟩ trivial zbE rfl rfl rfl rfl rfl (kL1 rfl trivial) ?_)))))))))
 refine TL.mul _ rfl rfl (wr64 (by omega)) rfl rfl (TL.add _ rfl rfl (wr64 (by omega)) rfl rfl (xai rfl (dR ?_)))
 refine FQ.ret1 (v:=(.int _ _)) (Bs:=[]) [] rfl rfl rfl trivial ?_
 exact ⟨rfl,rfl⟩
theorem zbj {l:Lay} (hl:l.Ok) {x:Int}:FnD Tryz.prog 47 [layV l,.int .i64 x] [] (.tuple #[zrF (l.node x).1,.bool (l.node x).2]) []:=by
 have hb:=zbn hl
 refine Fn.enter (Tryz.func47) rfl rfl (fun w0 R=>?_)
 refine sA (xB 0 rfl (fun bk0=>(TL.alloc 1 (cs:=#[.bool false,.int .i64 0,.int .i64 0,.int .i64 0,.int .i64 0]) zbw rfl rfl rfl (fun _=>trivial) (fun bk1=>(xaf rfl (dB (xmi rfl (TL.sub _ rfl rfl (rfl) rfl rfl (xL3 0 zaa rfl rfl (TL.callD [] [] (zaV hl) ⟨rfl,trivial⟩ trivial zbE rfl rfl rfl rfl rfl trivial ?_))))))))))
 refine TL.callD [] [] zbe ⟨rfl,rfl,trivial⟩ trivial zbI rfl rfl rfl rfl rfl trivial (TL.casesP rfl (fun q1=>?_) (fun q1=>?_))
 refine xnt rfl (dF rfl (xmi rfl (TL.sub _ rfl rfl (rfl) rfl rfl (xai rfl (dS (TC.draw [(0,true),(2,true),(3,true),(1,false),(4,true),(5,true)] [0] fc_m (by kernel_rfl) (xL3 0 zaa rfl rfl (xf 0 zaJ rfl ?_))))))))
 refine xli 0 zac rfl rfl (TL.callD [] [] (zce hl) ⟨rfl,trivial⟩ trivial zeP rfl rfl rfl rfl rfl (kL1 rfl trivial) (TL.mul _ rfl rfl (wr64 (by omega)) rfl rfl (xai rfl (dB (xmi rfl (xmi rfl (TL.lss rfl rfl rfl rfl (fun q2=>?_) (fun q2=>?_))))))))
 refine TL.done (TQ.then (TC.condT rfl (TC.seq (TC.draw [(0,true),(1,true),(2,true),(3,true),(4,true),(5,true),(6,true),(7,true),(8,true),(9,false),(10,true)] [0] fc_m (by kernel_rfl) (xmi rfl (xf 0 zaJ rfl (xli 0 zac rfl rfl (TL.quo _ rfl rfl (by omega) (zmx (by omega) (by omega) (by omega)) rfl rfl ?_))))))))
 refine xmi rfl (xf 0 zaJ rfl (xli 0 zac rfl rfl (TL.rem _ rfl rfl (by omega) (zql (by omega)) rfl rfl (TL.bld [.bool false,.int .i64 0,.int .i64 0,.int .i64 0,.int .i64 0] [(.int _ _),(.int _ _)] [_,_,_,_,_] zbw znp ⟨rfl,rfl,trivial⟩ ⟨rfl,rfl⟩ rfl rfl (TL.stW 1 5 [_,_,_,_,_] rfl rfl rfl rfl rfl rfl zaQ rfl rfl (kL1 rfl trivial) (xat rfl (dRR ?_)))))))
 refine FQ.retG (rs:=[.cell 4 94,.tmp 5]) [(.agg _),(.bool true)] (Bs:=[]) [] rfl ⟨⟨_,_,_,_,_,1,rfl,rfl,.inr ⟨5,[_,_,_,_,_],zaQ,rfl,rfl⟩⟩,rfl,trivial⟩ rfl rfl trivial ?_
 first | exact ⟨by unfold Lay.node; simp only []; rw [if_neg (by omega)]; rfl,rfl⟩ | exact ⟨by unfold Lay.node; simp only []; rw [if_pos (by omega),if_pos (by omega)]; rfl,rfl⟩ | exact ⟨by unfold Lay.node; simp only []; rw [if_pos (by omega),if_neg (by omega)]; rfl,rfl⟩
 refine dF rfl (xmi rfl (xmi rfl (TL.sub _ rfl rfl (wr64 (by omega)) rfl rfl (xai rfl (dS (TC.draw [(0,true),(1,true),(4,true),(5,true),(9,true),(10,true),(2,false),(3,true),(6,false),(7,true),(8,true),(11,true),(12,false),(13,true)] [0] fc_m (by kernel_rfl) (xmi rfl (xL3 0 zaa rfl rfl ?_))))))))
 refine xmi rfl (xL3 0 zaa rfl rfl (xmi rfl (TL.rem _ rfl rfl (by omega) (zql (by omega)) rfl rfl (TL.callD [] [] (ziW hl) ⟨rfl,trivial⟩ trivial zlb rfl rfl rfl rfl rfl (kL1 rfl trivial) (TL.quo _ rfl rfl (by omega) (zmx (by omega) (by omega) (by omega)) rfl rfl (TL.callD [] [] (ziW hl) ⟨rfl,trivial⟩ trivial zlb rfl rfl rfl rfl rfl (kL1 rfl trivial) (TL.rem _ rfl rfl (by omega) (zql (by omega)) rfl rfl (TL.quo _ rfl rfl (by omega) (zmx (Int.emod_nonneg _ (by omega)) (by omega) (by have:=Int.emod_lt_of_pos (IntKind.i64.wrap (x - 1) - l.lev * l.V) (b:=l.arcs) (by omega); omega)) rfl rfl ?_))))))))
 refine TL.bld [.bool false,.int .i64 0,.int .i64 0,.int .i64 0,.int .i64 0] [(.bool true),(.int _ _),(.int _ _),(.int _ _)] [_,_,_,_,_] zbw znp ⟨rfl,rfl,rfl,rfl,trivial⟩ ⟨rfl,rfl⟩ rfl rfl (TL.stW 1 5 [_,_,_,_,_] rfl rfl rfl rfl rfl rfl zaQ rfl rfl (kL1 rfl trivial) (xat rfl (dR ?_)))
 refine FQ.retG (rs:=[.cell 4 94,.tmp 5]) [(.agg _),(.bool true)] (Bs:=[]) [] rfl ⟨⟨_,_,_,_,_,1,rfl,rfl,.inr ⟨5,[_,_,_,_,_],zaQ,rfl,rfl⟩⟩,rfl,trivial⟩ rfl rfl trivial ?_
 first | exact ⟨by unfold Lay.node; simp only []; rw [if_neg (by omega)]; rfl,rfl⟩ | exact ⟨by unfold Lay.node; simp only []; rw [if_pos (by omega),if_pos (by omega)]; rfl,rfl⟩ | exact ⟨by unfold Lay.node; simp only []; rw [if_pos (by omega),if_neg (by omega)]; rfl,rfl⟩
 refine xnf rfl (dT rfl (TL.bld [.bool false,.int .i64 0,.int .i64 0,.int .i64 0,.int .i64 0] [] [_,_,_,_,_] zbw znp trivial ⟨rfl,rfl⟩ rfl rfl (TL.stW 1 5 [_,_,_,_,_] rfl rfl rfl rfl rfl rfl zaQ rfl rfl trivial (xaf rfl (dRR ?_)))))
 refine FQ.retG (rs:=[.cell 4 94,.tmp 5]) [(.agg _),(.bool false)] (Bs:=[]) [] rfl ⟨⟨_,_,_,_,_,1,rfl,rfl,.inr ⟨5,[_,_,_,_,_],zaQ,rfl,rfl⟩⟩,rfl,trivial⟩ rfl rfl trivial ?_
 first | exact ⟨by unfold Lay.node; simp only []; rw [if_neg (by omega)]; rfl,rfl⟩ | exact ⟨by unfold Lay.node; simp only []; rw [if_pos (by omega),if_pos (by omega)]; rfl,rfl⟩ | exact ⟨by unfold Lay.node; simp only []; rw [if_pos (by omega),if_neg (by omega)]; rfl,rfl⟩
theorem zdD {n m:Int}:FnD Tryz.prog 163 [.int .i64 n,.int .i64 m] [] (.bool (decide (0≤n∧n≤m))) []:=by
 refine Fn.enter (Tryz.func163) rfl rfl (fun w0 R=>?_)
 refine sA (xaf rfl (dA (xmi rfl (TL.geq rfl rfl rfl rfl (fun q1=>?_) (fun q1=>?_)))))
 refine xmt rfl (xmi rfl (xmi rfl (TL.leqV rfl rfl rfl rfl (TL.pickT (.bool _) rfl rfl rfl rfl (xab rfl (dR ?_))))))
 refine FQ.ret1 (v:=(.bool _)) (Bs:=[]) [] rfl rfl rfl trivial ?_
 first | exact ⟨bT (by omega),rfl⟩ | exact ⟨bF (by omega),rfl⟩ | exact ⟨congrArg Value.bool (decide_eq_decide.2 (by omega)),rfl⟩
 refine xmf rfl (xo rfl (xo rfl (xo rfl (xpF rfl (xaf rfl (dR ?_))))))
 refine FQ.ret1 (v:=(.bool false)) (Bs:=[]) [] rfl rfl rfl trivial ?_
 first | exact ⟨bT (by omega),rfl⟩ | exact ⟨bF (by omega),rfl⟩ | exact ⟨congrArg Value.bool (decide_eq_decide.2 (by omega)),rfl⟩
theorem zfi {o m t g:Int}:FnD Tryz.prog 132 [.agg #[.int .i64 o,.int .i64 m,.int .i64 t,.int .i64 g]] [] (.bool (decide (t=0))) []:=by
 refine Fn.enter (Tryz.func132) rfl rfl (fun w0 R=>?_)
 refine sA (xB 0 rfl (fun bk0=>(xaf rfl (dA (xf 2 zcJ rfl (xli 0 zac rfl rfl (TL.eqlV rfl rfl rfl rfl (xab rfl (dR ?_)))))))))
 refine FQ.ret1 (v:=(.bool _)) (Bs:=[]) [] rfl rfl rfl trivial ?_
 exact ⟨rfl,rfl⟩
theorem ziZ {o m t g:Int}:FnD Tryz.prog 162 [.agg #[.int .i64 o,.int .i64 m,.int .i64 t,.int .i64 g]] [] (.bool (⟨o,m,t,g⟩:Wd).right) []:=by
 refine Fn.enter (Tryz.func162) rfl rfl (fun w0 R=>?_)
 refine sA (xB 0 rfl (fun bk0=>(xaf rfl (dB (xf 0 zbu rfl (xli 0 zac rfl rfl (TL.callD [] [] zdD ⟨rfl,rfl,trivial⟩ trivial zf3 rfl rfl rfl rfl rfl trivial (TL.casesP rfl (fun q1=>?_) (fun q1=>?_)))))))))
 refine xnt rfl (xmf rfl (xf 1 za1 rfl (xli 0 zac rfl rfl (TL.callD [] [] zdD ⟨rfl,rfl,trivial⟩ trivial zf3 rfl rfl rfl rfl rfl trivial (TL.casesP rfl (fun q2=>?_) (fun q2=>?_))))))
 refine xnt rfl (xpF rfl (xmf rfl (xf 2 zcJ rfl (xli 0 zac rfl rfl (TL.callD [] [] zdD ⟨rfl,rfl,trivial⟩ trivial zf3 rfl rfl rfl rfl rfl trivial (TL.casesP rfl (fun q3=>?_) (fun q3=>?_)))))))
 refine xnt rfl (xpF rfl (xmf rfl (xf 3 zcI rfl (xli 0 zac rfl rfl (TL.callD [] [] zdD ⟨rfl,rfl,trivial⟩ trivial zf3 rfl rfl rfl rfl rfl trivial (TL.casesP rfl (fun q4=>?_) (fun q4=>?_)))))))
 refine xnt rfl (xpF rfl (dF rfl (xL4 0 zav rfl rfl (TL.callD [] [] zfi ⟨rfl,trivial⟩ trivial ziO rfl rfl rfl rfl rfl trivial (TL.casesP rfl (fun q5=>?_) (fun q5=>?_))))))
 refine xnt rfl (xmf rfl (xf 0 zbu rfl (xli 0 zac rfl rfl (xf 1 za1 rfl (xli 0 zac rfl rfl (TL.eql rfl rfl rfl rfl (fun q6=>?_) (fun q6=>?_)))))))
 refine xmt rfl (xf 3 zcI rfl (xli 0 zac rfl rfl (TL.eqlV rfl rfl rfl rfl (TL.pickT (.bool _) rfl rfl rfl rfl (TL.pickF (.bool _) rfl rfl rfl rfl (xab rfl (dR ?_)))))))
 refine FQ.ret1 (v:=(.bool _)) (Bs:=[]) [] rfl rfl rfl trivial ?_
 exact ⟨congrArg Value.bool (by simp [Wd.right, *]),rfl⟩
 refine xmf rfl (xo rfl (xo rfl (xo rfl (xpF rfl (xpF rfl (xaf rfl (dR ?_)))))))
 refine FQ.ret1 (v:=(.bool false)) (Bs:=[]) [] rfl rfl rfl trivial ?_
 exact ⟨congrArg Value.bool (by simp [Wd.right, *]),rfl⟩
 refine xnf rfl (xmt rfl (xo rfl (xo rfl (xo rfl (xo rfl (xo rfl (xo rfl (xo rfl ?_))))))))
 refine xo rfl (xo rfl (xo rfl (xpT rfl (xat rfl (dR ?_)))))
 refine FQ.ret1 (v:=(.bool true)) (Bs:=[]) [] rfl rfl rfl trivial ?_
 exact ⟨congrArg Value.bool (by simp [Wd.right, *]),rfl⟩
 refine xnf rfl (xpH rfl (dT rfl (xaf rfl (dRR ?_))))
 refine FQ.ret1 (v:=(.bool false)) (Bs:=[]) [] rfl rfl rfl trivial ?_
 exact ⟨congrArg Value.bool (by simp [Wd.right, *]),rfl⟩
 refine xnf rfl (xpH rfl (xmt rfl (xo rfl (xo rfl (xo rfl (xo rfl (xpT rfl (dT rfl ?_))))))))
 refine xaf rfl (dRR ?_)
 refine FQ.ret1 (v:=(.bool false)) (Bs:=[]) [] rfl rfl rfl trivial ?_
 exact ⟨congrArg Value.bool (by simp [Wd.right, *]),rfl⟩
 refine xnf rfl (xpH rfl (xmt rfl (xo rfl (xo rfl (xo rfl (xo rfl (xpT rfl (xmt rfl ?_))))))))
 refine xo rfl (xo rfl (xo rfl (xo rfl (xpT rfl (dT rfl (xaf rfl (dRR ?_)))))))
 refine FQ.ret1 (v:=(.bool false)) (Bs:=[]) [] rfl rfl rfl trivial ?_
 exact ⟨congrArg Value.bool (by simp [Wd.right, *]),rfl⟩
 refine xnf rfl (xmt rfl (xo rfl (xo rfl (xo rfl (xo rfl (xpT rfl (xmt rfl (xo rfl ?_))))))))
 refine xo rfl (xo rfl (xo rfl (xpT rfl (xmt rfl (xo rfl (xo rfl (xo rfl (xo rfl ?_))))))))
 refine xpT rfl (dT rfl (xaf rfl (dRR ?_)))
 refine FQ.ret1 (v:=(.bool false)) (Bs:=[]) [] rfl rfl rfl trivial ?_
 exact ⟨congrArg Value.bool (by simp [Wd.right, *]),rfl⟩
theorem zij {o m t g:Int}:FnD Tryz.prog 143 [.agg #[.int .i64 o,.int .i64 m,.int .i64 t,.int .i64 g]] [] (.tuple #[.int .u64 (if (⟨o,m,t,g⟩:Wd).right then (⟨o,m,t,g⟩:Wd).pack else 0),.int .i64 (if (⟨o,m,t,g⟩:Wd).right then 0 else 11)]) []:=by
 refine Fn.enter (Tryz.func143) rfl rfl (fun w0 R=>?_)
 refine sA (xB 0 rfl (fun bk0=>(xai rfl (xai rfl (dB (xL4 0 zav rfl rfl (TL.callD [] [] ziZ ⟨rfl,trivial⟩ trivial znF rfl rfl rfl rfl rfl trivial (TL.cases rfl (fun q1=>?_) (fun q1=>?_)))))))))
 refine xnt rfl (dF rfl (xf 1 za1 rfl (xli 0 zac rfl rfl (TL.conv _ rfl zfA zbh (rfl) rfl rfl (xf 0 zbu rfl (xli 0 zac rfl rfl (TL.conv _ rfl zfA zbh (rfl) rfl rfl (TL.shl _ rfl rfl (by decide) rfl rfl rfl ?_))))))))
 refine TL.or _ rfl rfl rfl rfl rfl (xf 2 zcJ rfl (xli 0 zac rfl rfl (TL.conv _ rfl zfA zbh (rfl) rfl rfl (TL.shl _ rfl rfl (by decide) rfl rfl rfl (TL.or _ rfl rfl rfl rfl rfl (xf 3 zcI rfl (xli 0 zac rfl rfl (TL.conv _ rfl zfA zbh (rfl) rfl rfl ?_))))))))
 refine TL.shl _ rfl rfl (by decide) rfl rfl rfl (TL.or _ rfl rfl rfl rfl rfl (xai rfl (xai rfl (dR ?_))))
 refine FQ.ret2 (v:=(.int _ _)) (x:=(.int _ _)) (Bs:=[]) [] rfl rfl rfl rfl trivial ?_
 exact ⟨by simp only [*,if_true,Bool.false_eq_true,if_false]<;>rfl,rfl⟩
 refine xnf rfl (dT rfl (xai rfl (xai rfl (dRR ?_))))
 refine FQ.ret2 (v:=(.int _ _)) (x:=(.int _ _)) (Bs:=[]) [] rfl rfl rfl rfl trivial ?_
 exact ⟨by simp only [*,if_true,Bool.false_eq_true,if_false]<;>rfl,rfl⟩
theorem zkB {v a n:Int} (ha:0≤a) (hn:0≤n):FnD Tryz.prog 161 [.int .u64 v,.int .i64 a,.int .i64 n] [] (.int .i64 (zhC v a n)) []:=by
 refine Fn.enter (Tryz.func161) rfl rfl (fun w0 R=>?_)
 refine sA (xai rfl (dS (TC.draw [(0,true),(1,true),(2,true),(3,true),(4,true),(5,true),(6,true),(7,true),(8,true)] [] fc_m (by kernel_rfl) (xmi rfl (xmi rfl (TL.shr _ rfl rfl (by omega) rfl rfl rfl (xmi rfl (TL.shl _ rfl rfl (by omega) rfl rfl rfl ?_))))))))
 refine TL.sub _ rfl rfl (rfl) rfl rfl (TL.and _ rfl rfl rfl rfl rfl (TL.conv _ rfl zes zbY (rfl) rfl rfl (xai rfl (dR ?_))))
 refine FQ.ret1 (v:=(.int _ _)) (Bs:=[]) [] rfl rfl rfl trivial ?_
 exact ⟨iE (by unfold zhC andU shrU shlU; rw [Int.one_mul]),rfl⟩
theorem zcb {v:Int}:FnD Tryz.prog 131 [.int .u64 v] [] (.tuple #[wdV (zaf v).1,.int .i64 (if (zaf v).2 then 0 else 21)]) []:=by
 refine Fn.enter (Tryz.func131) rfl rfl (fun w0 R=>?_)
 refine sA (TL.alloc 0 (cs:=#[.int .i64 0,.int .i64 0,.int .i64 0,.int .i64 0]) zbt rfl rfl rfl (fun _=>trivial) (fun bk0=>(xai rfl (dA (xmi rfl (TL.callD [] [] (zkB (by decide) (by decide)) ⟨rfl,rfl,rfl,trivial⟩ trivial zku rfl rfl rfl rfl rfl trivial (xmi rfl (TL.callD [] [] (zkB (by decide) (by decide)) ⟨rfl,rfl,rfl,trivial⟩ trivial zku rfl rfl rfl rfl rfl trivial (xmi rfl ?_)))))))))
 refine TL.callD [] [] (zkB (by decide) (by decide)) ⟨rfl,rfl,rfl,trivial⟩ trivial zku rfl rfl rfl rfl rfl trivial (xmi rfl (TL.shr _ rfl rfl (by decide) rfl rfl rfl (TL.conv _ rfl zes zbY (rfl) rfl rfl (TL.bld [.int .i64 0,.int .i64 0,.int .i64 0,.int .i64 0] [(.int _ _),(.int _ _),(.int _ _),(.int _ _)] [_,_,_,_] zbt zfY ⟨rfl,rfl,rfl,rfl,trivial⟩ ⟨rfl,rfl⟩ rfl rfl (TL.alloc 1 (cs:=#[.int .i64 0,.int .i64 0,.int .i64 0,.int .i64 0]) zbt rfl rfl rfl (fun _=>trivial) (fun bk1=>(TL.stW 1 4 [_,_,_,_] rfl rfl rfl rfl rfl rfl zav rfl rfl trivial (dB (xL4 1 zav rfl rfl ?_)))))))))
 refine TL.callD [] [] ziZ ⟨rfl,trivial⟩ trivial znF rfl rfl rfl rfl rfl trivial (TL.cases rfl (fun q1=>?_) (fun q1=>?_))
 refine xnt rfl (dF rfl (xL4 1 zav rfl rfl (TL.stW 0 4 [_,_,_,_] rfl rfl rfl rfl rfl rfl zav rfl rfl trivial (xai rfl (dR ?_)))))
 refine FQ.retG (rs:=[.cell 2 175,.tmp 3]) [(.agg _),(.int _ _)] (Bs:=[]) [] rfl ⟨⟨_,_,_,_,_,0,rfl,rfl,.inr ⟨4,[_,_,_,_],zav,rfl,rfl⟩⟩,rfl,trivial⟩ rfl rfl trivial ?_
 first | exact ⟨(by have q:(zco v).right=true:=‹(zco v).right=true›; simp only [zaf,q,if_true]; rfl),rfl⟩ | exact ⟨(by have q:(zco v).right=false:=‹(zco v).right=false›; simp only [zaf,q,Bool.false_eq_true,if_false]; rfl),rfl⟩
 refine xnf rfl (dT rfl (TL.bld [.int .i64 0,.int .i64 0,.int .i64 0,.int .i64 0] [] [_,_,_,_] zbt zfY trivial ⟨rfl,rfl⟩ rfl rfl (TL.stW 0 4 [_,_,_,_] rfl rfl rfl rfl rfl rfl zav rfl rfl trivial (xai rfl (dRR ?_)))))
 refine FQ.retG (rs:=[.cell 2 175,.tmp 3]) [(.agg _),(.int _ _)] (Bs:=[]) [] rfl ⟨⟨_,_,_,_,_,0,rfl,rfl,.inr ⟨4,[_,_,_,_],zav,rfl,rfl⟩⟩,rfl,trivial⟩ rfl rfl trivial ?_
 first | exact ⟨(by have q:(zco v).right=true:=‹(zco v).right=true›; simp only [zaf,q,if_true]; rfl),rfl⟩ | exact ⟨(by have q:(zco v).right=false:=‹(zco v).right=false›; simp only [zaf,q,Bool.false_eq_true,if_false]; rfl),rfl⟩
theorem ziY {p:Pen} {x o m t g:Int} {b1 b2:Nat}:FnD Tryz.prog 134 [.agg #[.int .i64 o,.int .i64 m,.int .i64 t,.int .i64 g],.pointer (some ⟨b1,0,none⟩),.pointer (some ⟨b2,0,none⟩)] [pt b1 (.cells #[.int .i64 p.thread,.int .i64 p.tag] 37),pt b2 (.cells #[.int .i64 x] 3)] (wdV (p.to x (⟨o,m,t,g⟩:Wd))) [pt b1 (.cells #[.int .i64 p.thread,.int .i64 p.tag] 37),pt b2 (.cells #[.int .i64 x] 3)]:=by
 refine Fn.enter (Tryz.func134) rfl rfl (fun w0 R=>?_)
 refine sA (xB 2 rfl (fun bk2=>(TL.alloc 3 (cs:=#[.int .i64 0,.int .i64 0,.int .i64 0,.int .i64 0]) zbt rfl rfl rfl (fun _=>trivial) (fun bk3=>(dB (xf 2 zcJ rfl (xli 2 zac rfl rfl (xf 0 zdS rfl (xli 0 zac rfl rfl (TL.neq rfl rfl rfl rfl (fun q1=>?_) (fun q1=>?_)))))))))))
 refine xmt rfl (xo rfl (xo rfl (xo rfl (xo rfl (xo rfl (xpT rfl (TL.done (TQ.then ?_))))))))
 refine TC.condT rfl (TC.region (xf 1 za1 rfl (xli 2 zac rfl rfl (xf 0 zbu rfl (TL.st 2 #[_,_,_,_] (.int _ _) rfl rfl rfl rfl rfl rfl zac rfl rfl trivial (dA (xf 0 zbu rfl (xli 2 zac rfl rfl ?_))))))))
 refine xli 1 zac rfl rfl (xf 0 zdS rfl (xli 0 zac rfl rfl (xf 1 zc9 rfl (xli 0 zac rfl rfl (TL.bld [.int .i64 0,.int .i64 0,.int .i64 0,.int .i64 0] [(.int _ _),(.int _ _),(.int _ _),(.int _ _)] [_,_,_,_] zbt zfY ⟨rfl,rfl,rfl,rfl,trivial⟩ ⟨rfl,rfl⟩ rfl rfl (TL.stW 3 4 [_,_,_,_] rfl rfl rfl rfl rfl rfl zav rfl rfl trivial (dR ?_)))))))
 refine FQ.retG (rs:=[.cell 4 175]) [(.agg _)] (Bs:=[pt b1 (.cells #[.int .i64 p.thread,.int .i64 p.tag] 37),pt b2 (.cells #[.int .i64 x] 3)]) [0,1] rfl ⟨⟨_,_,_,_,_,3,rfl,rfl,.inr ⟨4,[_,_,_,_],zav,rfl,rfl⟩⟩,trivial⟩ rfl rfl ⟨rfl,rfl,trivial⟩ ?_
 first | exact ⟨(by unfold Pen.to; dsimp only; rw [if_pos (by omega)]; rfl),rfl⟩ | exact ⟨(by unfold Pen.to; dsimp only; rw [if_neg (by omega)]; rfl),rfl⟩
 refine xmf rfl (xf 3 zcI rfl (xli 2 zac rfl rfl (xf 1 zc9 rfl (xli 0 zac rfl rfl (TL.neq rfl rfl rfl rfl (fun q2=>?_) (fun q2=>?_))))))
 refine xpH rfl (TL.done (TQ.then (TC.condT rfl (TC.region (xf 1 za1 rfl (xli 2 zac rfl rfl (xf 0 zbu rfl (TL.st 2 #[_,_,_,_] (.int _ _) rfl rfl rfl rfl rfl rfl zac rfl rfl trivial ?_))))))))
 refine dA (xf 0 zbu rfl (xli 2 zac rfl rfl (xli 1 zac rfl rfl (xf 0 zdS rfl (xli 0 zac rfl rfl (xf 1 zc9 rfl (xli 0 zac rfl rfl (TL.bld [.int .i64 0,.int .i64 0,.int .i64 0,.int .i64 0] [(.int _ _),(.int _ _),(.int _ _),(.int _ _)] [_,_,_,_] zbt zfY ⟨rfl,rfl,rfl,rfl,trivial⟩ ⟨rfl,rfl⟩ rfl rfl ?_))))))))
 refine TL.stW 3 4 [_,_,_,_] rfl rfl rfl rfl rfl rfl zav rfl rfl trivial (dR ?_)
 refine FQ.retG (rs:=[.cell 4 175]) [(.agg _)] (Bs:=[pt b1 (.cells #[.int .i64 p.thread,.int .i64 p.tag] 37),pt b2 (.cells #[.int .i64 x] 3)]) [0,1] rfl ⟨⟨_,_,_,_,_,3,rfl,rfl,.inr ⟨4,[_,_,_,_],zav,rfl,rfl⟩⟩,trivial⟩ rfl rfl ⟨rfl,rfl,trivial⟩ ?_
 first | exact ⟨(by unfold Pen.to; dsimp only; rw [if_pos (by omega)]; rfl),rfl⟩ | exact ⟨(by unfold Pen.to; dsimp only; rw [if_neg (by omega)]; rfl),rfl⟩
 refine xpF rfl (dF rfl (xf 0 zbu rfl (xli 2 zac rfl rfl (xli 1 zac rfl rfl (xf 0 zdS rfl (xli 0 zac rfl rfl (xf 1 zc9 rfl (xli 0 zac rfl rfl ?_))))))))
 refine TL.bld [.int .i64 0,.int .i64 0,.int .i64 0,.int .i64 0] [(.int _ _),(.int _ _),(.int _ _),(.int _ _)] [_,_,_,_] zbt zfY ⟨rfl,rfl,rfl,rfl,trivial⟩ ⟨rfl,rfl⟩ rfl rfl (TL.stW 3 4 [_,_,_,_] rfl rfl rfl rfl rfl rfl zav rfl rfl trivial (dR ?_))
 refine FQ.retG (rs:=[.cell 4 175]) [(.agg _)] (Bs:=[pt b1 (.cells #[.int .i64 p.thread,.int .i64 p.tag] 37),pt b2 (.cells #[.int .i64 x] 3)]) [0,1] rfl ⟨⟨_,_,_,_,_,3,rfl,rfl,.inr ⟨4,[_,_,_,_],zav,rfl,rfl⟩⟩,trivial⟩ rfl rfl ⟨rfl,rfl,trivial⟩ ?_
 first | exact ⟨(by unfold Pen.to; dsimp only; rw [if_pos (by omega)]; rfl),rfl⟩ | exact ⟨(by unfold Pen.to; dsimp only; rw [if_neg (by omega)]; rfl),rfl⟩
theorem zoe {S:Type} [MemLike S] {mt:TypeId} {mv:Value} {A:S→Assn} (hM:MemI Tryz.prog mt mv A) {σ:S} {p:Pen} {c x:Int} {b1 b2:Nat} (h:(zaf (MemLike.get σ c)).2=false):FnD Tryz.prog 113 [.iface mt mv,.int .i64 c,.func (.func 134) #[] #[.pointer (some ⟨b1,0,none⟩),.pointer (some ⟨b2,0,none⟩)]] [A σ,pt b1 (.cells #[.int .i64 p.thread,.int .i64 p.tag] 37),pt b2 (.cells #[.int .i64 x] 3)] (.tuple #[]) [A (MemLike.ld σ c),pt b1 (.cells #[.int .i64 p.thread,.int .i64 p.tag] 37),pt b2 (.cells #[.int .i64 x] 3)]:=by
 refine Fn.enter (Tryz.func113) rfl rfl (fun w0 R=>?_)
 refine sA (xmc rfl (xmi rfl (TL.mload 0 hM rfl rfl rfl rfl rfl trivial (TL.callD [] [] zcb ⟨rfl,trivial⟩ trivial zdC rfl rfl rfl rfl rfl trivial (xmu rfl (TL.ext (.agg _) rfl rfl rfl rfl (xei rfl rfl (TL.alloc 3 (cs:=#[.int .i64 0,.int .i64 0,.int .i64 0,.int .i64 0]) zbt rfl rfl rfl (fun _=>trivial) (fun bk3=>?_)))))))))
 refine TL.stW 3 4 [_,_,_,_] rfl rfl rfl rfl rfl rfl zav rfl rfl trivial (xai rfl (dB (xmi rfl (TL.neqT rfl rfl (by rw [h]; decide) rfl rfl (TL.done (TQ.then (TC.condT rfl (TC.ret ?_))))))))
 refine TQ.thenRet ?_
 refine FQ.ret0 (Bs:=[A (MemLike.ld σ c),pt b1 (.cells #[.int .i64 p.thread,.int .i64 p.tag] 37),pt b2 (.cells #[.int .i64 x] 3)]) [0,1,2] rfl rfl ⟨rfl,rfl,rfl,trivial⟩ ?_
 exact ⟨rfl,rfl⟩
theorem zod {S:Type} [MemLike S] {mt:TypeId} {mv:Value} {A:S→Assn} (hM:MemI Tryz.prog mt mv A) {σ:S} {p:Pen} {c x:Int} {b1 b2:Nat} (h:(zaf (MemLike.get σ c)).2=true) (h2:(p.to x (zaf (MemLike.get σ c)).1).right=false):FnD Tryz.prog 113 [.iface mt mv,.int .i64 c,.func (.func 134) #[] #[.pointer (some ⟨b1,0,none⟩),.pointer (some ⟨b2,0,none⟩)]] [A σ,pt b1 (.cells #[.int .i64 p.thread,.int .i64 p.tag] 37),pt b2 (.cells #[.int .i64 x] 3)] (.tuple #[]) [A (MemLike.ld σ c),pt b1 (.cells #[.int .i64 p.thread,.int .i64 p.tag] 37),pt b2 (.cells #[.int .i64 x] 3)]:=by
 refine Fn.enter (Tryz.func113) rfl rfl (fun w0 R=>?_)
 refine sA (xmc rfl (xmi rfl (TL.mload 0 hM rfl rfl rfl rfl rfl trivial (TL.callD [] [] zcb ⟨rfl,trivial⟩ trivial zdC rfl rfl rfl rfl rfl trivial (xmu rfl (TL.ext (.agg _) rfl rfl rfl rfl (xei rfl rfl (TL.alloc 3 (cs:=#[.int .i64 0,.int .i64 0,.int .i64 0,.int .i64 0]) zbt rfl rfl rfl (fun _=>trivial) (fun bk3=>?_)))))))))
 refine TL.stW 3 4 [_,_,_,_] rfl rfl rfl rfl rfl rfl zav rfl rfl trivial (xai rfl (dB (xmi rfl (TL.neqF rfl rfl (by rw [h]; decide) rfl rfl (dF rfl (TL.mv (.func _ _ _) rfl rfl rfl (xL4 3 zav rfl rfl (TL.callC (c1:=[]) (c2:=[_,_]) (vs:=[_]) [1,2] [1,2] rfl ziY ⟨rfl,trivial⟩ ⟨rfl,rfl,trivial⟩ znP rfl rfl rfl rfl rfl trivial ?_))))))))
 refine TL.callD [] [] zij ⟨rfl,trivial⟩ trivial ziM rfl rfl rfl rfl rfl trivial (xmu rfl (xei rfl rfl (xei rfl rfl (xai rfl (xai rfl (dA (xmi rfl (TL.eqlF rfl rfl (by rw [h2]; decide) rfl rfl ?_))))))))
 refine TL.done (TQ.then (TC.condF rfl (TC.skip ?_)))
 refine FQ.end0 (Bs:=[A (MemLike.ld σ c),pt b1 (.cells #[.int .i64 p.thread,.int .i64 p.tag] 37),pt b2 (.cells #[.int .i64 x] 3)]) [0,1,2] rfl rfl ⟨rfl,rfl,rfl,trivial⟩ ?_
 exact ⟨rfl,rfl⟩
theorem zoc {S:Type} [MemLike S] {mt:TypeId} {mv:Value} {A:S→Assn} (hM:MemI Tryz.prog mt mv A) {σ:S} {p:Pen} {c x:Int} {b1 b2:Nat} (h:(zaf (MemLike.get σ c)).2=true) (h2:(p.to x (zaf (MemLike.get σ c)).1).right=true):FnD Tryz.prog 113 [.iface mt mv,.int .i64 c,.func (.func 134) #[] #[.pointer (some ⟨b1,0,none⟩),.pointer (some ⟨b2,0,none⟩)]] [A σ,pt b1 (.cells #[.int .i64 p.thread,.int .i64 p.tag] 37),pt b2 (.cells #[.int .i64 x] 3)] (.tuple #[]) [A (MemLike.st (MemLike.ld σ c) c (p.to x (zaf (MemLike.get σ c)).1).pack),pt b1 (.cells #[.int .i64 p.thread,.int .i64 p.tag] 37),pt b2 (.cells #[.int .i64 x] 3)]:=by
 refine Fn.enter (Tryz.func113) rfl rfl (fun w0 R=>?_)
 refine sA (xmc rfl (xmi rfl (TL.mload 0 hM rfl rfl rfl rfl rfl trivial (TL.callD [] [] zcb ⟨rfl,trivial⟩ trivial zdC rfl rfl rfl rfl rfl trivial (xmu rfl (TL.ext (.agg _) rfl rfl rfl rfl (xei rfl rfl (TL.alloc 3 (cs:=#[.int .i64 0,.int .i64 0,.int .i64 0,.int .i64 0]) zbt rfl rfl rfl (fun _=>trivial) (fun bk3=>?_)))))))))
 refine TL.stW 3 4 [_,_,_,_] rfl rfl rfl rfl rfl rfl zav rfl rfl trivial (xai rfl (dB (xmi rfl (TL.neqF rfl rfl (by rw [h]; decide) rfl rfl (dF rfl (TL.mv (.func _ _ _) rfl rfl rfl (xL4 3 zav rfl rfl (TL.callC (c1:=[]) (c2:=[_,_]) (vs:=[_]) [1,2] [1,2] rfl ziY ⟨rfl,trivial⟩ ⟨rfl,rfl,trivial⟩ znP rfl rfl rfl rfl rfl trivial ?_))))))))
 refine TL.callD [] [] zij ⟨rfl,trivial⟩ trivial ziM rfl rfl rfl rfl rfl trivial (xmu rfl (xei rfl rfl (xei rfl rfl (xai rfl (xai rfl (dA (xmi rfl (TL.eqlT rfl rfl (by rw [h2]; decide) rfl rfl ?_))))))))
 refine TL.done (TQ.then (TC.condT rfl (TC.region (xmc rfl (xmi rfl (xmi rfl (TL.mstore 0 hM rfl rfl rfl (by rw [h2]; exact zc1 _ _) rfl rfl rfl trivial (TL.done ?_))))))))
 refine FQ.end0 (Bs:=[A _,pt b1 (.cells #[.int .i64 p.thread,.int .i64 p.tag] 37),pt b2 (.cells #[.int .i64 x] 3)]) [0,1,2] rfl rfl ⟨rfl,rfl,rfl,trivial⟩ ?_
 exact ⟨rfl,by rw [h2]; rfl⟩
theorem zof {S:Type} [MemLike S] {mt:TypeId} {mv:Value} {A:S→Assn} (hM:MemI Tryz.prog mt mv A) {σ:S} {p:Pen} {c x:Int} {b1 b2:Nat}:FnD Tryz.prog 113 [.iface mt mv,.int .i64 c,.func (.func 134) #[] #[.pointer (some ⟨b1,0,none⟩),.pointer (some ⟨b2,0,none⟩)]] [A σ,pt b1 (.cells #[.int .i64 p.thread,.int .i64 p.tag] 37),pt b2 (.cells #[.int .i64 x] 3)] (.tuple #[]) [A (p.write σ c x),pt b1 (.cells #[.int .i64 p.thread,.int .i64 p.tag] 37),pt b2 (.cells #[.int .i64 x] 3)]:=by
 unfold Pen.write
 cases h:(zaf (MemLike.get σ c)).2
 ·exact zoe hM h
 ·rw [if_pos rfl]
  cases h2:(p.to x (zaf (MemLike.get σ c)).1).right
  ·exact zod hM h h2
  ·exact zoc hM h h2
theorem zb2 {S:Type} [MemLike S] {mt:TypeId} {mv:Value} {A:S→Assn} (hM:MemI Tryz.prog mt mv A) {σ:S} {p:Pen} {c x:Int}:FnD Tryz.prog 106 [.agg #[.int .i64 p.thread,.int .i64 p.tag],.iface mt mv,.int .i64 c,.int .i64 x] [A σ] (.tuple #[]) [A (p.write σ c x)]:=by
 refine Fn.enter (Tryz.func106) rfl rfl (fun w0 R=>?_)
 refine sA (xB 1 rfl (fun bk1=>(TL.box1 2 (.int _ _) rfl rfl rfl rfl (fun _=>trivial) (fun bk2=>(dG (xmc rfl (xmi rfl (TL.mf (xs:=[]) (ys:=[_,_]) [] [_,_] trivial ⟨rfl,rfl,trivial⟩ rfl rfl (TL.callD [0,1,2] [0,1,2] (zof hM) ⟨rfl,rfl,rfl,trivial⟩ ⟨rfl,rfl,rfl,trivial⟩ znW rfl rfl rfl rfl rfl trivial (TL.done ?_))))))))))
 refine FQ.end0 (Bs:=[A (p.write σ c x)]) [0] rfl rfl ⟨rfl,trivial⟩ ?_
 exact ⟨rfl,rfl⟩
theorem zdN {S:Type} [MemLike S] {mt:TypeId} {mv:Value} {A:S→Assn} (hM:MemI Tryz.prog mt mv A) {σ:S} {c:Int}:FnD Tryz.prog 107 [.iface mt mv,.int .i64 c] [A σ] (.int .i64 (pnew σ c)) [A (MemLike.ld σ c)]:=by
 refine Fn.enter (Tryz.func107) rfl rfl (fun w0 R=>?_)
 refine sA (xai rfl (dA (xmc rfl (xmi rfl (TL.mload 0 hM rfl rfl rfl rfl rfl trivial (TL.callD [] [] zcb ⟨rfl,trivial⟩ trivial zdC rfl rfl rfl rfl rfl trivial (xmu rfl (TL.ext (.agg _) rfl rfl rfl rfl ?_))))))))
 refine xei rfl rfl (TL.alloc 1 (cs:=#[.int .i64 0,.int .i64 0,.int .i64 0,.int .i64 0]) zbt rfl rfl rfl (fun _=>trivial) (fun bk1=>(TL.stW 1 4 [_,_,_,_] rfl rfl rfl rfl rfl rfl zav rfl rfl trivial (xai rfl (dA (xf 1 za1 rfl (xli 1 zac rfl rfl (xai rfl (dR ?_)))))))))
 refine FQ.ret1 (v:=(.int _ _)) (Bs:=[A (MemLike.ld σ c)]) [0] rfl rfl rfl ⟨rfl,trivial⟩ ?_
 exact ⟨rfl,rfl⟩
theorem zdb {S:Type} [MemLike S] {mt:TypeId} {mv:Value} {A:S→Assn} (hM:MemI Tryz.prog mt mv A) {l:Lay} (hl:l.Ok) {p:Pen} {σ:S} {x f:Int}:FnD Tryz.prog 147 [zbc l mt mv p,.int .i64 x,.int .i64 f] [A σ] (.int .i64 (tget l σ x f)) [A (zfM l σ x f)]:=by
 refine Fn.enter (Tryz.func147) rfl rfl (fun w0 R=>?_)
 refine sA (xB 1 rfl (fun bk1=>(xai rfl (dS (TC.draw [(0,true),(1,true),(2,true),(3,true),(4,true),(5,true),(7,true),(8,true),(6,false),(9,false),(10,true),(11,true)] [1] fc_m (by kernel_rfl) (xf 3 zbb rfl (xlc 1 zbN rfl rfl (xf 0 zaM rfl (xL3 1 zaa rfl rfl ?_)))))))))
 refine xmi rfl (xmi rfl (TL.ncI rfl rfl rfl (xmc rfl (TL.callD [] [] (zay hl) ⟨rfl,rfl,rfl,trivial⟩ trivial zaW rfl rfl rfl rfl rfl (kL1 rfl trivial) (TL.mload 0 hM rfl rfl rfl rfl rfl (kL1 rfl trivial) (TL.conv _ rfl zes zbY (rfl) rfl rfl (xai rfl (dR ?_))))))))
 refine FQ.ret1 (v:=(.int _ _)) (Bs:=[A _]) [0] rfl rfl rfl ⟨rfl,trivial⟩ ?_
 exact ⟨rfl,rfl⟩
theorem zh8 {S:Type} [MemLike S] {mt:TypeId} {mv:Value} {A:S→Assn} (hM:MemI Tryz.prog mt mv A) {l:Lay} (hl:l.Ok) {p:Pen} {σ:S} {x f v:Int}:FnD Tryz.prog 150 [zbc l mt mv p,.int .i64 x,.int .i64 f,.int .i64 v] [A σ] (.tuple #[]) [A (tput l σ x f v)]:=by
 refine Fn.enter (Tryz.func150) rfl rfl (fun w0 R=>?_)
 refine sA (xB 1 rfl (fun bk1=>(TL.done (TQ.then (TC.draw [(0,true),(1,true),(2,true),(3,true),(4,true),(5,true),(7,true),(8,true),(9,true),(10,true),(6,false),(11,false)] [1] fc_m (by kernel_rfl) (xf 3 zbb rfl (xlc 1 zbN rfl rfl (xf 0 zaM rfl (xL3 1 zaa rfl rfl ?_)))))))))
 refine xmi rfl (xmi rfl (xmi rfl (TL.conv _ rfl zfA zbh (rfl) rfl rfl (TL.ncI rfl rfl rfl (xmc rfl (TL.callD [] [] (zay hl) ⟨rfl,rfl,rfl,trivial⟩ trivial zaW rfl rfl rfl rfl rfl (kL1 rfl trivial) (TL.mstore 0 hM rfl rfl rfl (by first | exact zfb _ | exact zc1 _ _ | exact MemLike.rng _ _ | decide | assumption) rfl rfl rfl (kL1 rfl trivial) (TL.done ?_))))))))
 refine FQ.end0 (Bs:=[A _]) [0] rfl rfl ⟨rfl,trivial⟩ ?_
 exact ⟨rfl,rfl⟩
theorem zkI {mt:TypeId} {mv:Value} {l:Lay} (hl:l.Ok) {p:Pen} {x:Int}:FnD Tryz.prog 146 [zbc l mt mv p,.int .i64 x] [] (.bool (zcF l x)) []:=by
 refine Fn.enter (Tryz.func146) rfl rfl (fun w0 R=>?_)
 refine sA (xB 0 rfl (fun bk0=>(xaf rfl (dA (xf 0 zaM rfl (xL3 0 zaa rfl rfl (xmi rfl (TL.callD [] [] (zbj hl) ⟨rfl,rfl,trivial⟩ trivial zb1 rfl rfl rfl rfl rfl trivial (xmu rfl ?_)))))))))
 refine TL.ext (.agg _) rfl rfl rfl rfl (TL.ext (.bool _) rfl rfl rfl rfl (TL.alloc 1 (cs:=#[.bool false,.int .i64 0,.int .i64 0,.int .i64 0,.int .i64 0]) zbw rfl rfl rfl (fun _=>trivial) (fun bk1=>(TL.stW 1 5 [_,_,_,_,_] rfl rfl rfl rfl rfl rfl zaQ rfl rfl trivial (xab rfl (dA (xf 1 zaS rfl (xli 1 zac rfl rfl (TL.eqlV rfl rfl rfl rfl ?_)))))))))
 refine xab rfl (dR ?_)
 refine FQ.ret1 (v:=(.bool _)) (Bs:=[]) [] rfl rfl rfl trivial ?_
 exact ⟨rfl,rfl⟩
theorem zdL {S:Type} [MemLike S] {mt:TypeId} {mv:Value} {A:S→Assn} (hM:MemI Tryz.prog mt mv A) {l:Lay} (hl:l.Ok) {p:Pen} {σ:S} {x:Int}:FnD Tryz.prog 119 [zbc l mt mv p,.int .i64 x] [A σ] (.int .i64 (parent l σ x)) [A (zdA l σ x)]:=by
 refine Fn.enter (Tryz.func119) rfl rfl (fun w0 R=>?_)
 refine sA (xB 1 rfl (fun bk1=>(xai rfl (dB (xL6 1 zad rfl rfl (xmi rfl (TL.callD [] [] (zkI hl) ⟨rfl,rfl,trivial⟩ trivial znK rfl rfl rfl rfl rfl trivial (TL.cases rfl (fun q1=>?_) (fun q1=>?_)))))))))
 refine TL.done (TQ.then (TC.condT rfl (TC.seq (TC.draw [(0,true),(1,true),(2,true),(3,true),(4,true),(5,false),(6,false),(7,true)] [1] fc_m (by kernel_rfl) (xf 3 zbb rfl (xlc 1 zbN rfl rfl (xf 0 zaM rfl (xL3 1 zaa rfl rfl ?_))))))))
 refine xmi rfl (TL.callD [] [] (zay hl) ⟨rfl,rfl,rfl,trivial⟩ trivial zaW rfl rfl rfl rfl rfl (kL1 rfl trivial) (TL.callD [0] [0] (zdN hM) ⟨rfl,rfl,trivial⟩ ⟨rfl,trivial⟩ zcN rfl rfl rfl rfl rfl (kL1 rfl trivial) (xai rfl (dRR ?_))))
 refine FQ.ret1 (v:=(.int _ _)) (Bs:=[A _]) [0] rfl rfl rfl ⟨rfl,trivial⟩ ?_
 exact ⟨(by simp only [parent, *,if_true,Bool.false_eq_true,if_false]),rfl⟩
 refine dF rfl (xL6 1 zad rfl rfl (xmi rfl (TL.callD [0] [0] (zdb hM hl) ⟨rfl,rfl,rfl,trivial⟩ ⟨rfl,trivial⟩ zdm rfl rfl rfl rfl rfl trivial (xai rfl (dR ?_)))))
 refine FQ.ret1 (v:=(.int _ _)) (Bs:=[A _]) [0] rfl rfl rfl ⟨rfl,trivial⟩ ?_
 exact ⟨(by simp only [parent, *,if_true,Bool.false_eq_true,if_false]),rfl⟩
theorem zgW {S:Type} [MemLike S] {mt:TypeId} {mv:Value} {A:S→Assn} (hM:MemI Tryz.prog mt mv A) {l:Lay} (hl:l.Ok) {p:Pen} {σ:S} {x q:Int}:FnD Tryz.prog 151 [zbc l mt mv p,.int .i64 x,.int .i64 q] [A σ] (.tuple #[]) [A (hang l p σ x q)]:=by
 refine Fn.enter (Tryz.func151) rfl rfl (fun w0 R=>?_)
 refine sA (xB 1 rfl (fun bk1=>(dK (sA (xmi rfl (TL.eql rfl rfl rfl rfl (fun q1=>?_) (fun q1=>?_)))))))
 refine xat rfl (TL.done (TQ.then (TC.condT rfl (TC.skip (TQ.inBlock ?_)))))
 refine FQ.end0 (Bs:=[A _]) [0] rfl rfl ⟨rfl,trivial⟩ ?_
 first | exact ⟨rfl,(by simp only [hang, *,if_true,Bool.false_eq_true,if_false])⟩ | exact ⟨rfl,(by simp only [hang]; rw [if_pos (by assumption)])⟩
 refine xaf rfl (TL.done (TQ.then (TC.condF rfl (sA (xL6 1 zad rfl rfl (xmi rfl (TL.callD [] [] (zkI hl) ⟨rfl,rfl,trivial⟩ trivial znK rfl rfl rfl rfl rfl trivial (TL.cases rfl (fun q2=>?_) (fun q2=>?_)))))))))
 refine xat rfl (TL.done (TQ.then (TC.condT rfl (TC.draw [(0,true),(1,true),(2,true),(3,true),(4,true),(5,true),(6,true),(8,true),(7,false),(9,false)] [1] fc_m (by kernel_rfl) (xf 4 zhZ rfl (xL2 1 zar rfl rfl (xf 3 zbb rfl (xlc 1 zbN rfl rfl ?_))))))))
 refine xf 0 zaM rfl (xL3 1 zaa rfl rfl (xmi rfl (xmi rfl (TL.callD [] [] (zay hl) ⟨rfl,rfl,rfl,trivial⟩ trivial zaW rfl rfl rfl rfl rfl (kL1 rfl trivial) (TL.callD [0] [0] (zb2 hM) ⟨rfl,rfl,rfl,rfl,trivial⟩ ⟨rfl,trivial⟩ zcO rfl rfl rfl rfl rfl (kL1 rfl trivial) (TL.done (TQ.inBlock ?_)))))))
 refine FQ.end0 (Bs:=[A _]) [0] rfl rfl ⟨rfl,trivial⟩ ?_
 first | exact ⟨rfl,(by simp only [hang, *,if_true,Bool.false_eq_true,if_false])⟩ | exact ⟨rfl,(by simp only [hang]; rw [if_pos (by assumption)])⟩
 refine xaf rfl (TL.done (TQ.then (TC.condF rfl (TC.region (xL6 1 zad rfl rfl (xmi rfl (xmi rfl (TL.callD [0] [0] (zh8 hM hl) ⟨rfl,rfl,rfl,rfl,trivial⟩ ⟨rfl,trivial⟩ ziL rfl rfl rfl rfl rfl trivial ?_))))))))
 refine TL.done (TQ.inBlock ?_)
 refine FQ.end0 (Bs:=[A _]) [0] rfl rfl ⟨rfl,trivial⟩ ?_
 first | exact ⟨rfl,(by simp only [hang, *,if_true,Bool.false_eq_true,if_false])⟩ | exact ⟨rfl,(by simp only [hang]; rw [if_pos (by assumption)])⟩
theorem zgC {S:Type} [MemLike S] {mt:TypeId} {mv:Value} {A:S→Assn} (hM:MemI Tryz.prog mt mv A) {l:Lay} (hl:l.Ok) {p:Pen} {σ:S} {x:Int}:FnD Tryz.prog 195 [zbc l mt mv p,.int .i64 x] [A σ] (.int .u64 (tsum l σ x)) [A (zcE l σ x)]:=by
 refine Fn.enter (Tryz.func195) rfl rfl (fun w0 R=>?_)
 refine sA (xB 1 rfl (fun bk1=>(xai rfl (dB (xmi rfl (TL.eql rfl rfl rfl rfl (fun q1=>?_) (fun q1=>?_)))))))
 refine dT rfl (xai rfl (dRR ?_))
 refine FQ.ret1 (v:=(.int _ _)) (Bs:=[A _]) [0] rfl rfl rfl ⟨rfl,trivial⟩ ?_
 first | exact ⟨(by simp only [tsum]; rw [if_pos (by assumption)]),(by simp only [zcE]; rw [if_pos (by assumption)])⟩ | exact ⟨(by simp only [tsum]; rw [if_neg (by assumption)]),(by simp only [zcE]; rw [if_neg (by assumption)])⟩
 refine TL.done (TQ.then (TC.condF rfl (TC.skip (TQ.then (TC.seq (TC.draw [(0,true),(1,true),(2,true),(3,true),(4,true),(6,true),(7,true),(5,false),(8,false),(9,true)] [1] fc_m (by kernel_rfl) (xf 3 zbb rfl (xlc 1 zbN rfl rfl ?_))))))))
 refine xf 0 zaM rfl (xL3 1 zaa rfl rfl (xmi rfl (TL.ncI rfl rfl rfl (xmc rfl (TL.callD [] [] (zay hl) ⟨rfl,rfl,rfl,trivial⟩ trivial zaW rfl rfl rfl rfl rfl (kL1 rfl trivial) (TL.mload 0 hM rfl rfl rfl rfl rfl (kL1 rfl trivial) (xai rfl (dR ?_))))))))
 refine FQ.ret1 (v:=(.int _ _)) (Bs:=[A _]) [0] rfl rfl rfl ⟨rfl,trivial⟩ ?_
 first | exact ⟨(by simp only [tsum]; rw [if_pos (by assumption)]),(by simp only [zcE]; rw [if_pos (by assumption)])⟩ | exact ⟨(by simp only [tsum]; rw [if_neg (by assumption)]),(by simp only [zcE]; rw [if_neg (by assumption)])⟩
theorem zn8 {v:Int}:FnD Tryz.prog 196 [.int .u64 v] [] (.int .u64 (zlj v)) []:=by
 refine Fn.enter (Tryz.func196) rfl rfl (fun w0 R=>?_)
 refine sA (xai rfl (dA (xmi rfl (TL.and _ rfl rfl rfl rfl rfl (xai rfl (dR ?_))))))
 refine FQ.ret1 (v:=(.int _ _)) (Bs:=[]) [] rfl rfl rfl trivial ?_
 exact ⟨rfl,rfl⟩
theorem zmX {mt:TypeId} {mv:Value} {l:Lay} (hl:l.Ok) {p:Pen} {x m:Int}:FnD Tryz.prog 152 [zbc l mt mv p,.int .i64 x,.int .u64 m] [] (.int .u64 (zeJ l x m)) []:=by
 refine Fn.enter (Tryz.func152) rfl rfl (fun w0 R=>?_)
 refine sA (xB 0 rfl (fun bk0=>(xai rfl (dA (xmi rfl (TL.shl _ rfl rfl (by decide) rfl rfl rfl (TL.or _ rfl rfl rfl rfl rfl (xmi rfl (TL.shl _ rfl rfl (by decide) rfl rfl rfl ?_)))))))))
 refine TL.or _ rfl rfl rfl rfl rfl (xai rfl (dB (xf 0 zaM rfl (xL3 0 zaa rfl rfl (xmi rfl (TL.callD [] [] (zbj hl) ⟨rfl,rfl,trivial⟩ trivial zb1 rfl rfl rfl rfl rfl trivial (xmu rfl (TL.ext (.agg _) rfl rfl rfl rfl ?_))))))))
 refine TL.ext (.bool _) rfl rfl rfl rfl (TL.alloc 1 (cs:=#[.bool false,.int .i64 0,.int .i64 0,.int .i64 0,.int .i64 0]) zbw rfl rfl rfl (fun _=>trivial) (fun bk1=>(TL.stW 1 5 [_,_,_,_,_] rfl rfl rfl rfl rfl rfl zaQ rfl rfl trivial (xab rfl (dA (xf 0 zhV rfl (xlb 1 zbq rfl rfl (TL.not _ _ rfl rfl rfl rfl (TL.done ?_)))))))))
 refine TQ.then (TC.cond rfl (fun q1=>?_) (fun q1=>?_))
 refine TC.region (xmi rfl (TL.or _ rfl rfl rfl rfl rfl (xai rfl (dA (xmi rfl (xai rfl (dR ?_)))))))
 refine FQ.ret1 (v:=(.int _ _)) (Bs:=[]) [] rfl rfl rfl trivial ?_
 first | exact ⟨(by have q:(l.node x).1.arc=false:=(by simpa using ‹(!(l.node x).1.arc)=true›); simp only [zeJ,q,Bool.false_eq_true,if_false]; rfl),rfl⟩ | exact ⟨(by have q:(l.node x).1.arc=true:=(by simpa using ‹(!(l.node x).1.arc)=false›); simp only [zeJ,q,if_true]; rfl),rfl⟩
 refine TC.skip (TQ.then (sA (xmi rfl (xai rfl (dR ?_)))))
 refine FQ.ret1 (v:=(.int _ _)) (Bs:=[]) [] rfl rfl rfl trivial ?_
 first | exact ⟨(by have q:(l.node x).1.arc=false:=(by simpa using ‹(!(l.node x).1.arc)=true›); simp only [zeJ,q,Bool.false_eq_true,if_false]; rfl),rfl⟩ | exact ⟨(by have q:(l.node x).1.arc=true:=(by simpa using ‹(!(l.node x).1.arc)=false›); simp only [zeJ,q,if_true]; rfl),rfl⟩
theorem zfh {S:Type} [MemLike S] {mt:TypeId} {mv:Value} {A:S→Assn} (hM:MemI Tryz.prog mt mv A) {l:Lay} (hl:l.Ok) {p:Pen} {σ:S} {x m:Int}:FnD Tryz.prog 187 [zbc l mt mv p,.int .i64 x,.int .u64 m] [A σ] (.tuple #[]) [A (zgN l σ x m)]:=by
 refine Fn.enter (Tryz.func187) rfl rfl (fun w0 R=>?_)
 refine sA (xB 1 rfl (fun bk1=>(dA (xL6 1 zad rfl rfl (xmi rfl (xmi rfl (TL.callD [] [] (zmX hl) ⟨rfl,rfl,rfl,trivial⟩ trivial znI rfl rfl rfl rfl rfl trivial (xai rfl (dB ?_)))))))))
 refine TL.bldA [.int .i64 0,.int .i64 0] [(.int _ _),(.int _ _)] [_,_] zqP zfC ⟨rfl,rfl,trivial⟩ ⟨rfl,rfl⟩ rfl rfl (xmi rfl (dK (TC.loopK (X:=Nat) [1,3,14] [1] (fun i=>[(6,.int .u64 (zdJ l σ x m i).1),(15,.int .i64 (i:Int))]) (fun i=>[(0,A (zdJ l σ x m i).2)]) (fun i=>i≤2) (fun i=>2 - i) (0) (by decide) ⟨rfl,rfl,trivial⟩ ⟨rfl,trivial⟩ (fun i hI=>(TC.sub (env':=[(6,_),(15,_),(1,_),(3,_),(14,_)]) (L':=[(0,_),(1,_)]) ⟨rfl,rfl,rfl,rfl,rfl,trivial⟩ ⟨rfl,rfl,trivial⟩ (sA (TL.lss rfl rfl rfl rfl (fun q1=>?_) (fun q1=>?_))))))))
 refine dS (TC.condT rfl (TC.skip (TQ.then (TC.seq (TC.block (sA (TL.ixA (.int .i64 (3+(i:Int))) rfl rfl zfC zac (by omega) (by omega) (by have:i=0∨i=1:=(by omega); rcases this with rfl | rfl<;>rfl) rfl rfl (xai rfl ?_))))))))
 refine dS (TC.draw [(0,true),(1,true),(2,true),(3,true),(4,false),(5,false),(6,true)] [1] fc_m (by kernel_rfl) (xL6 1 zad rfl rfl (xL6 1 zad rfl rfl (xmi rfl (xmi rfl (TL.callD [0] [0] (zdb hM hl) ⟨rfl,rfl,rfl,trivial⟩ ⟨rfl,trivial⟩ zdm rfl rfl rfl rfl rfl (kL1 rfl trivial) (TL.callD [0] [0] (zgC hM hl) ⟨rfl,rfl,trivial⟩ ⟨rfl,trivial⟩ zhd rfl rfl rfl rfl rfl (kL1 rfl trivial) (xai rfl ?_))))))))
 refine dG (xmi rfl (xmi rfl (TL.callD [] [] zn8 ⟨rfl,trivial⟩ trivial zq2 rfl rfl rfl rfl rfl trivial (TL.add _ rfl rfl (rfl) rfl rfl (xmi rfl (TL.shr _ rfl rfl (by decide) rfl rfl rfl (TL.and _ rfl rfl rfl rfl rfl (TL.shl _ rfl rfl (by decide) rfl rfl rfl ?_))))))))
 refine TL.or _ rfl rfl rfl rfl rfl (xai rfl (dI (TL.add _ rfl rfl (wr64 (by omega)) rfl rfl (xmi rfl (TL.done (TQ.roundK (i+1) ⟨by omega,by omega⟩ ⟨rfl,rfl,trivial⟩ ⟨rfl,trivial⟩ (kE3 rfl rfl rfl trivial) (kL1 rfl trivial)))))))
 refine dS (TC.condF rfl (TC.exit (TQ.thenExit (TQ.thenExit (TQ.blockHere (TQ.then (TC.draw [(0,true),(1,true),(2,true),(3,true),(4,true),(6,true),(7,true),(8,true),(5,false),(9,false)] [1] fc_m (by kernel_rfl) (xf 3 zbb rfl ?_))))))))
 refine xlc 1 zbN rfl rfl (xf 0 zaM rfl (xL3 1 zaa rfl rfl (xmi rfl (xmi rfl (TL.ncI rfl rfl rfl (xmc rfl (TL.callD [] [] (zay hl) ⟨rfl,rfl,rfl,trivial⟩ trivial zaW rfl rfl rfl rfl rfl (kL1 rfl trivial) (TL.mstore 0 hM rfl rfl rfl (zlG _ _ _ _ _) rfl rfl rfl (kL1 rfl trivial) ?_))))))))
 refine TL.done ?_
 refine FQ.end0 (Bs:=[A _]) [0] rfl rfl ⟨rfl,trivial⟩ ?_
 obtain rfl:i=2:=by omega
 refine ⟨rfl,?_⟩
 unfold zgN
 rfl
theorem zeC {S:Type} [MemLike S] {mt:TypeId} {mv:Value} {A:S→Assn} (hM:MemI Tryz.prog mt mv A) {l:Lay} (hl:l.Ok) {p:Pen} {σ:S} {x:Int}:FnD Tryz.prog 186 [zbc l mt mv p,.int .i64 x] [A σ] (.int .u64 (zgS l σ x)) [A (zgc l σ x)]:=by
 refine Fn.enter (Tryz.func186) rfl rfl (fun w0 R=>?_)
 refine sA (xB 1 rfl (fun bk1=>(xai rfl (dA (xL6 1 zad rfl rfl (xmi rfl (TL.callD [0] [0] (zgC hM hl) ⟨rfl,rfl,trivial⟩ ⟨rfl,trivial⟩ zhd rfl rfl rfl rfl rfl trivial (TL.shr _ rfl rfl (by decide) rfl rfl rfl (TL.and _ rfl rfl rfl rfl rfl ?_)))))))))
 refine xai rfl (dR ?_)
 refine FQ.ret1 (v:=(.int _ _)) (Bs:=[A _]) [0] rfl rfl rfl ⟨rfl,trivial⟩ ?_
 exact ⟨rfl,rfl⟩
theorem zfG {S:Type} [MemLike S] {mt:TypeId} {mv:Value} {A:S→Assn} (hM:MemI Tryz.prog mt mv A) {l:Lay} (hl:l.Ok) {p:Pen} {σ:S} {x:Int}:FnD Tryz.prog 123 [zbc l mt mv p,.int .i64 x] [A σ] (.tuple #[]) [A (alone l p σ x)]:=by
 refine Fn.enter (Tryz.func123) rfl rfl (fun w0 R=>?_)
 refine sA (xB 1 rfl (fun bk1=>(dA (xL6 1 zad rfl rfl (xmi rfl (TL.callD [0] [0] (zh8 hM hl) ⟨rfl,rfl,rfl,rfl,trivial⟩ ⟨rfl,trivial⟩ ziL rfl rfl rfl rfl rfl trivial (dA (xL6 1 zad rfl rfl (xmi rfl ?_)))))))))
 refine TL.callD [0] [0] (zh8 hM hl) ⟨rfl,rfl,rfl,rfl,trivial⟩ ⟨rfl,trivial⟩ ziL rfl rfl rfl rfl rfl trivial (dA (xL6 1 zad rfl rfl (xmi rfl (TL.callD [0] [0] (zgW hM hl) ⟨rfl,rfl,rfl,trivial⟩ ⟨rfl,trivial⟩ zhh rfl rfl rfl rfl rfl trivial (TL.done (TQ.then (TC.draw [(0,true),(1,true),(2,true),(3,true),(4,true),(6,true),(7,true),(9,true),(10,true),(5,false),(8,false),(11,false)] [1] fc_m (by kernel_rfl) (xf 3 zbb rfl ?_))))))))
 refine xlc 1 zbN rfl rfl (xf 0 zaM rfl (xL3 1 zaa rfl rfl (xmi rfl (xL6 1 zad rfl rfl (xmi rfl (TL.ncI rfl rfl rfl (xmc rfl (TL.callD [] [] (zay hl) ⟨rfl,rfl,rfl,trivial⟩ trivial zaW rfl rfl rfl rfl rfl (kL1 rfl trivial) ?_))))))))
 refine TL.callD [] [] (zmX hl) ⟨rfl,rfl,rfl,trivial⟩ trivial znI rfl rfl rfl rfl rfl (kL1 rfl trivial) (TL.mstore 0 hM rfl rfl rfl (by first | exact zkZ _ _ _) rfl rfl rfl (kL1 rfl trivial) (TL.done ?_))
 refine FQ.end0 (Bs:=[A _]) [0] rfl rfl ⟨rfl,trivial⟩ ?_
 exact ⟨rfl,rfl⟩
theorem zib {S:Type} [MemLike S] {mt:TypeId} {mv:Value} {A:S→Assn} (hM:MemI Tryz.prog mt mv A) {l:Lay} (hl:l.Ok) {p:Pen} {σ:S} {x:Int}:FnD Tryz.prog 188 [zbc l mt mv p,.int .i64 x] [A σ] (.int .i64 (size l σ x)) [A (zcE l σ x)]:=by
 refine Fn.enter (Tryz.func188) rfl rfl (fun w0 R=>?_)
 refine sA (xB 1 rfl (fun bk1=>(xai rfl (dA (xL6 1 zad rfl rfl (xmi rfl (TL.callD [0] [0] (zgC hM hl) ⟨rfl,rfl,trivial⟩ ⟨rfl,trivial⟩ zhd rfl rfl rfl rfl rfl trivial (TL.and _ rfl rfl rfl rfl rfl (TL.conv _ rfl zes zbY (rfl) rfl rfl ?_)))))))))
 refine xai rfl (dR ?_)
 refine FQ.ret1 (v:=(.int _ _)) (Bs:=[A _]) [0] rfl rfl rfl ⟨rfl,trivial⟩ ?_
 exact ⟨rfl,rfl⟩
theorem zoy {S:Type} [MemLike S] {mt:TypeId} {mv:Value} {A:S→Assn} (hM:MemI Tryz.prog mt mv A) {l:Lay} (hl:l.Ok) {p:Pen} {σ:S} {x:Int}:FnD Tryz.prog 190 [zbc l mt mv p,.int .i64 x] [A σ] (.int .i64 (verts l σ x)) [A (zcE l σ x)]:=by
 refine Fn.enter (Tryz.func190) rfl rfl (fun w0 R=>?_)
 refine sA (xB 1 rfl (fun bk1=>(xai rfl (dA (xL6 1 zad rfl rfl (xmi rfl (TL.callD [0] [0] (zgC hM hl) ⟨rfl,rfl,trivial⟩ ⟨rfl,trivial⟩ zhd rfl rfl rfl rfl rfl trivial (TL.shr _ rfl rfl (by decide) rfl rfl rfl (TL.and _ rfl rfl rfl rfl rfl ?_)))))))))
 refine TL.conv _ rfl zes zbY (rfl) rfl rfl (xai rfl (dR ?_))
 refine FQ.ret1 (v:=(.int _ _)) (Bs:=[A _]) [0] rfl rfl rfl ⟨rfl,trivial⟩ ?_
 exact ⟨rfl,rfl⟩
theorem zeU {S:Type} [MemLike S] {mt:TypeId} {mv:Value} {A:S→Assn} (hM:MemI Tryz.prog mt mv A) {l:Lay} (hl:l.Ok) {p:Pen} {σ:S} {x r:Int} {k:Nat} {σ2:S} (h:root l k σ x=some (r,σ2)):FnD Tryz.prog 86 [zbc l mt mv p,.int .i64 x] [A σ] (.int .i64 r) [A σ2]:=by
 refine Fn.enter (Tryz.func86) rfl rfl (fun w0 R=>?_)
 refine sA (xB 1 rfl (fun bk1=>(xai rfl (dS (TC.block (TC.loopK (X:=Nat×S×Int) [2,4] [1] (fun y=>[(1,.int .i64 y.2.2)]) (fun y=>[(0,A y.2.1)]) (fun y=>root l y.1 y.2.1 y.2.2=some (r,σ2)) (fun y=>y.1) ((k,σ,x)) h ⟨rfl,trivial⟩ ⟨rfl,trivial⟩ (fun y hI=>?_)))))))
 obtain ⟨k,σ1,z⟩:=y
 rcases k with _ | k
 ·simp [root] at hI
 dsimp only at hI
 refine TC.sub (env':=[(1,_),(2,_),(4,_)]) (L':=[(0,_),(1,_)]) ⟨rfl,rfl,rfl,trivial⟩ ⟨rfl,rfl,trivial⟩ (sB (xmi rfl (TL.neq rfl rfl rfl rfl (fun q1=>?_) (fun q1=>?_))))
 refine TL.done (TQ.then (TC.condT rfl (TC.skip (TQ.then (TC.block (sA (xL6 1 zad rfl rfl (xmi rfl ?_))))))))
 refine TL.callD [0] [0] (zdL hM hl) ⟨rfl,rfl,trivial⟩ ⟨rfl,trivial⟩ zf4 rfl rfl rfl rfl rfl trivial (xai rfl (dB (xmi rfl (TL.eql rfl rfl rfl rfl (fun q2=>?_) (fun q2=>?_)))))
 refine TL.done (TQ.then (TC.condT rfl (TC.exit (TQ.thenExit (TQ.blockOut rfl (TQ.thenExit (TQ.blockHere (TQ.then ?_))))))))
 refine sA (xmi rfl (xai rfl (dR ?_)))
 refine FQ.ret1 (v:=(.int _ _)) (Bs:=[A _]) [0] rfl rfl rfl ⟨rfl,trivial⟩ ?_
 rw [root,if_pos q1,if_pos q2] at hI; cases hI; exact ⟨rfl,rfl⟩
 refine TL.done (TQ.then (TC.condF rfl (TC.skip (TQ.then (TC.region (xmi rfl (xai rfl (TL.done ?_))))))))
 refine TQ.inBlock (TQ.roundK ((k,zdA l σ1 z,parent l σ1 z)) ⟨(by rw [root,if_pos q1,if_neg q2] at hI; exact hI),Nat.lt_succ_self _⟩ ⟨rfl,trivial⟩ ⟨rfl,trivial⟩ (kE2 rfl rfl trivial) (kL1 rfl trivial))
 refine dE rfl (sA (xmi rfl (xai rfl (dR ?_))))
 refine FQ.ret1 (v:=(.int _ _)) (Bs:=[A _]) [0] rfl rfl rfl ⟨rfl,trivial⟩ ?_
 rw [root,if_neg q1] at hI; cases hI; exact ⟨rfl,rfl⟩
theorem ziy {S:Type} [MemLike S] {mt:TypeId} {mv:Value} {A:S→Assn} (hM:MemI Tryz.prog mt mv A) {l:Lay} (hl:l.Ok) {p:Pen} {σ:S} {x r:Int} {k:Nat} {σ2:S} (h:index l k σ x=some (r,σ2)):FnD Tryz.prog 175 [zbc l mt mv p,.int .i64 x] [A σ] (.int .i64 r) [A σ2]:=by
 unfold index at h
 dsimp only at h
 refine Fn.enter (Tryz.func175) rfl rfl (fun w0 R=>?_)
 refine sA (xB 1 rfl (fun bk1=>(xai rfl (dS (TC.draw [(0,true),(1,true),(2,true),(3,false),(4,false),(5,true)] [1] fc_m (by kernel_rfl) (xL6 1 zad rfl rfl (xL6 1 zad rfl rfl (xmi rfl (TL.callD [0] [0] (zdb hM hl) ⟨rfl,rfl,rfl,trivial⟩ ⟨rfl,trivial⟩ zdm rfl rfl rfl rfl rfl (kL1 rfl trivial) ?_)))))))))
 refine TL.callD [0] [0] (zib hM hl) ⟨rfl,rfl,trivial⟩ ⟨rfl,trivial⟩ ziI rfl rfl rfl rfl rfl (kL1 rfl trivial) (xai rfl (dK (TC.loopK (X:=Nat×S×Int×Int) [2] [1] (fun y=>[(1,.int .i64 y.2.2.1),(5,.int .i64 y.2.2.2)]) (fun y=>[(0,A y.2.1)]) (fun y=>zcV l y.1 y.2.1 y.2.2.1 y.2.2.2=some (r,σ2)) (fun y=>y.1) ((k,_,_,_)) h ⟨rfl,rfl,trivial⟩ ⟨rfl,trivial⟩ (fun y hI=>?_))))
 obtain ⟨k,σ1,z,n⟩:=y
 rcases k with _ | k
 ·simp [zcV] at hI
 dsimp only at hI
 refine TC.sub (env':=[(1,_),(5,_),(2,_)]) (L':=[(0,_),(1,_)]) ⟨rfl,rfl,rfl,trivial⟩ ⟨rfl,rfl,trivial⟩ (TC.block (sA (xL6 1 zad rfl rfl (xmi rfl (TL.callD [0] [0] (zdL hM hl) ⟨rfl,rfl,trivial⟩ ⟨rfl,trivial⟩ zf4 rfl rfl rfl rfl rfl trivial (xai rfl (dB (xmi rfl ?_))))))))
 refine TL.eql rfl rfl rfl rfl (fun q1=>?_) (fun q1=>?_)
 refine dT rfl (xmi rfl (xai rfl (dRR (TQ.blockRet (TQ.thenRet (TQ.blockRet ?_))))))
 refine FQ.ret1 (v:=(.int _ _)) (Bs:=[A _]) [0] rfl rfl rfl ⟨rfl,trivial⟩ ?_
 rw [zcV,if_pos q1] at hI; cases hI; exact ⟨rfl,rfl⟩
 refine TL.done (TQ.then (TC.condF rfl (TC.skip (TQ.then (sB (xL6 1 zad rfl rfl (xmi rfl (TL.callD [0] [0] (zdb hM hl) ⟨rfl,rfl,rfl,trivial⟩ ⟨rfl,trivial⟩ zdm rfl rfl rfl rfl rfl trivial ?_))))))))
 refine xmi rfl (TL.eql rfl rfl rfl rfl (fun q2=>?_) (fun q2=>?_))
 refine TL.done (TQ.then (TC.condT rfl (TC.draw [(0,true),(1,true),(2,true),(3,true),(4,false),(5,false),(6,true),(7,true),(8,true)] [1] fc_m (by kernel_rfl) (xmi rfl (xL6 1 zad rfl rfl (xL6 1 zad rfl rfl (xmi rfl (TL.callD [0] [0] (zdb hM hl) ⟨rfl,rfl,rfl,trivial⟩ ⟨rfl,trivial⟩ zdm rfl rfl rfl rfl rfl (kL1 rfl trivial) ?_))))))))
 refine TL.callD [0] [0] (zib hM hl) ⟨rfl,rfl,trivial⟩ ⟨rfl,trivial⟩ ziI rfl rfl rfl rfl rfl (kL1 rfl trivial) (TL.add _ rfl rfl (rfl) rfl rfl (TL.add _ rfl rfl (rfl) rfl rfl (xai rfl (dG (xmi rfl (xai rfl (TL.done (TQ.inBlock ?_))))))))
 refine TQ.roundK ((k,_,_,_)) ⟨(by rw [zcV,if_neg q1] at hI; dsimp only at hI; rw [if_pos q2] at hI; exact hI),Nat.lt_succ_self _⟩ ⟨rfl,rfl,trivial⟩ ⟨rfl,trivial⟩ (kE1 rfl trivial) (kL1 rfl trivial)
 refine TL.done (TQ.then (TC.condF rfl (TC.skip (TQ.then (TC.region (xmi rfl (xai rfl (TL.done ?_))))))))
 refine TQ.inBlock (TQ.roundK ((k,_,_,_)) ⟨(by rw [zcV,if_neg q1] at hI; dsimp only at hI; rw [if_neg q2] at hI; exact hI),Nat.lt_succ_self _⟩ ⟨rfl,rfl,trivial⟩ ⟨rfl,trivial⟩ (kE1 rfl trivial) (kL1 rfl trivial))
theorem zkJ {S:Type} [MemLike S] {mt:TypeId} {mv:Value} {A:S→Assn} (hM:MemI Tryz.prog mt mv A) {l:Lay} (hl:l.Ok) {p:Pen} {σ:S} {x f c:Int}:FnD Tryz.prog 194 [zbc l mt mv p,.int .i64 x,.int .i64 f,.int .i64 c] [A σ] (.tuple #[]) [A (setC l p σ x f c)]:=by
 refine Fn.enter (Tryz.func194) rfl rfl (fun w0 R=>?_)
 refine sA (xB 1 rfl (fun bk1=>(dA (xL6 1 zad rfl rfl (xmi rfl (xmi rfl (xmi rfl (TL.callD [0] [0] (zh8 hM hl) ⟨rfl,rfl,rfl,rfl,trivial⟩ ⟨rfl,trivial⟩ ziL rfl rfl rfl rfl rfl trivial (dA ?_)))))))))
 refine xL6 1 zad rfl rfl (xmi rfl (xmi rfl (TL.callD [0] [0] (zgW hM hl) ⟨rfl,rfl,rfl,trivial⟩ ⟨rfl,trivial⟩ zhh rfl rfl rfl rfl rfl trivial (TL.done (TQ.then (TC.draw [(0,true),(1,true),(2,true),(3,true),(4,false),(5,false)] [1] fc_m (by kernel_rfl) (xL6 1 zad rfl rfl (xmi rfl ?_))))))))
 refine xL6 1 zad rfl rfl (xmi rfl (TL.callD [0] [0] (zeC hM hl) ⟨rfl,rfl,trivial⟩ ⟨rfl,trivial⟩ zf0 rfl rfl rfl rfl rfl (kL1 rfl trivial) (TL.callD [0] [0] (zfh hM hl) ⟨rfl,rfl,rfl,trivial⟩ ⟨rfl,trivial⟩ zhe rfl rfl rfl rfl rfl (kL1 rfl trivial) (TL.done ?_))))
 refine FQ.end0 (Bs:=[A _]) [0] rfl rfl ⟨rfl,trivial⟩ ?_
 exact ⟨rfl,(by unfold setC zgc; rfl)⟩
theorem zoD {S:Type} [MemLike S] {mt:TypeId} {mv:Value} {A:S→Assn} (hM:MemI Tryz.prog mt mv A) {l:Lay} (hl:l.Ok) {p:Pen} {σ:S} {x n:Int} {r:Int×Int} {k:Nat} {σ2:S} (h:split l p k σ x n=some (r,σ2)):FnD Tryz.prog 189 [zbc l mt mv p,.int .i64 x,.int .i64 n] [A σ] (.tuple #[.int .i64 r.1,.int .i64 r.2]) [A σ2]:=by
 induction k generalizing σ x n r σ2
 case zero=>simp [split] at h
 case succ k ih =>
  refine Fn.enter (Tryz.func189) rfl rfl (fun w0 R=>?_)
  refine sA (xB 1 rfl (fun bk1=>(xai rfl (xai rfl (dB (xmi rfl (TL.eql rfl rfl rfl rfl (fun q1=>?_) (fun q1=>?_))))))))
  refine dT rfl (xai rfl (xai rfl (dRR ?_)))
  refine FQ.ret2 (v:=(.int _ _)) (x:=(.int _ _)) (Bs:=[A _]) [0] rfl rfl rfl rfl ⟨rfl,trivial⟩ ?_
  rw [split,if_pos q1] at h; cases h; exact ⟨rfl,rfl⟩
  refine dF rfl (xL6 1 zad rfl rfl (xmi rfl (TL.callD [0] [0] (zdb hM hl) ⟨rfl,rfl,rfl,trivial⟩ ⟨rfl,trivial⟩ zdm rfl rfl rfl rfl rfl trivial (xai rfl (dA (xL6 1 zad rfl rfl (xmi rfl (TL.callD [0] [0] (zib hM hl) ⟨rfl,rfl,trivial⟩ ⟨rfl,trivial⟩ ziI rfl rfl rfl rfl rfl trivial ?_))))))))
  refine xai rfl (dB (xmi rfl (xmi rfl (TL.leq rfl rfl rfl rfl (fun q2=>?_) (fun q2=>?_)))))
  refine dT rfl (xL6 1 zad rfl rfl (xmi rfl (xmi rfl ?_)))
  rw [split,if_neg q1] at h
  dsimp only at h
  rw [if_pos q2] at h
  obtain ⟨⟨ab,σ3⟩,h1,h9⟩:=Option.bind_eq_some_iff.1 h
  refine TL.callD [0] [0] (ih h1) ⟨rfl,rfl,rfl,trivial⟩ ⟨rfl,trivial⟩ zkp rfl rfl rfl rfl rfl trivial (xmu rfl (xei rfl rfl (xei rfl rfl (xai rfl (xai rfl (dA (xL6 1 zad rfl rfl (xmi rfl ?_))))))))
  refine xmi rfl (TL.callD [0] [0] (zkJ hM hl) ⟨rfl,rfl,rfl,rfl,trivial⟩ ⟨rfl,trivial⟩ ziH rfl rfl rfl rfl rfl trivial (dA (xmi rfl (xmi rfl (xai rfl (xai rfl (dRR ?_)))))))
  refine FQ.ret2 (v:=(.int _ _)) (x:=(.int _ _)) (Bs:=[A _]) [0] rfl rfl rfl rfl ⟨rfl,trivial⟩ ?_
  cases h9; exact ⟨rfl,rfl⟩
  refine TL.done (TQ.then (TC.condF rfl (TC.skip (TQ.then (TC.seq (TC.draw [(0,true),(1,true),(2,true),(4,true),(5,true),(6,true),(7,true),(3,false),(8,false),(9,true),(10,true),(11,true),(12,true),(13,true)] [1] fc_m (by kernel_rfl) (xL6 1 zad rfl rfl (xL6 1 zad rfl rfl ?_))))))))
  refine xmi rfl (xmi rfl (xmi rfl (TL.sub _ rfl rfl (rfl) rfl rfl (TL.sub _ rfl rfl (rfl) rfl rfl (TL.callD [0] [0] (zdb hM hl) ⟨rfl,rfl,rfl,trivial⟩ ⟨rfl,trivial⟩ zdm rfl rfl rfl rfl rfl (kL1 rfl trivial) ?_)))))
  rw [split,if_neg q1] at h
  dsimp only at h
  rw [if_neg q2] at h
  obtain ⟨⟨ab,σ3⟩,h1,h9⟩:=Option.bind_eq_some_iff.1 h
  refine TL.callD [0] [0] (ih h1) ⟨rfl,rfl,rfl,trivial⟩ ⟨rfl,trivial⟩ zkp rfl rfl rfl rfl rfl (kL1 rfl trivial) (xmu rfl (xei rfl rfl (xei rfl rfl (xai rfl (xai rfl (dA (xL6 1 zad rfl rfl (xmi rfl ?_))))))))
  refine xmi rfl (TL.callD [0] [0] (zkJ hM hl) ⟨rfl,rfl,rfl,rfl,trivial⟩ ⟨rfl,trivial⟩ ziH rfl rfl rfl rfl rfl trivial (dA (xmi rfl (xmi rfl (xai rfl (xai rfl (dR ?_)))))))
  refine FQ.ret2 (v:=(.int _ _)) (x:=(.int _ _)) (Bs:=[A _]) [0] rfl rfl rfl rfl ⟨rfl,trivial⟩ ?_
  cases h9; exact ⟨rfl,rfl⟩
theorem zcr {S:Type} [MemLike S] {mt:TypeId} {mv:Value} {A:S→Assn} (hM:MemI Tryz.prog mt mv A) {l:Lay} (hl:l.Ok) {p:Pen} {σ:S} {x n:Int} {r:Int×Int} {k:Nat} {σ2:S} (h:zeL l p k σ x n=some (r,σ2)):FnD Tryz.prog 176 [zbc l mt mv p,.int .i64 x,.int .i64 n] [A σ] (.tuple #[.int .i64 r.1,.int .i64 r.2]) [A σ2]:=by
 obtain ⟨⟨ab,σ3⟩,h1,h9⟩:=Option.bind_eq_some_iff.1 h
 cases h9
 refine Fn.enter (Tryz.func176) rfl rfl (fun w0 R=>?_)
 refine sA (xB 1 rfl (fun bk1=>(xai rfl (xai rfl (dS (TC.draw [(0,true),(1,true),(2,true),(3,true),(4,true),(5,true),(6,false),(7,true),(8,false),(9,true),(10,true),(11,true),(12,true),(13,true)] [1] fc_m (by kernel_rfl) (xL6 1 zad rfl rfl (xmi rfl (xmi rfl ?_)))))))))
 refine TL.max2 rfl rfl rfl rfl (xL6 1 zad rfl rfl (xmi rfl (TL.callD [0] [0] (zib hM hl) ⟨rfl,rfl,trivial⟩ ⟨rfl,trivial⟩ ziI rfl rfl rfl rfl rfl (kL1 rfl trivial) (TL.min2 rfl rfl rfl rfl (TL.callD [0] [0] (zoD hM hl h1) ⟨rfl,rfl,rfl,trivial⟩ ⟨rfl,trivial⟩ zkp rfl rfl rfl rfl rfl (kL1 rfl trivial) (xmu rfl (xei rfl rfl (xei rfl rfl ?_))))))))
 refine xai rfl (xai rfl (dA (xL6 1 zad rfl rfl (xmi rfl (TL.callD [0] [0] (zgW hM hl) ⟨rfl,rfl,rfl,trivial⟩ ⟨rfl,trivial⟩ zhh rfl rfl rfl rfl rfl trivial (dA (xL6 1 zad rfl rfl (xmi rfl ?_))))))))
 refine TL.callD [0] [0] (zgW hM hl) ⟨rfl,rfl,rfl,trivial⟩ ⟨rfl,trivial⟩ zhh rfl rfl rfl rfl rfl trivial (dA (xmi rfl (xmi rfl (xai rfl (xai rfl (dR ?_))))))
 refine FQ.ret2 (v:=(.int _ _)) (x:=(.int _ _)) (Bs:=[A _]) [0] rfl rfl rfl rfl ⟨rfl,trivial⟩ ?_
 exact ⟨rfl,rfl⟩
theorem zpq {S:Type} [MemLike S] {mt:TypeId} {mv:Value} {A:S→Assn} (hM:MemI Tryz.prog mt mv A) {l:Lay} (hl:l.Ok) {p:Pen} {σ:S} {x y:Int}:FnD Tryz.prog 193 [zbc l mt mv p,.int .i64 x,.int .i64 y] [A σ] (.bool (zf9 l σ x y)) [A (zlp l σ x y)]:=by
 refine Fn.enter (Tryz.func193) rfl rfl (fun w0 R=>?_)
 refine sA (xB 1 rfl (fun bk1=>(xaf rfl (dS (TC.draw [(0,true),(1,true),(2,true),(3,true),(4,true),(6,true),(7,true),(9,true),(10,true),(11,true),(12,true),(13,true),(15,true),(16,true),(5,false),(8,false),(14,false),(17,false),(18,true),(19,true)] [1] fc_m (by kernel_rfl) (xf 3 zbb rfl (xlc 1 zbN rfl rfl (xf 0 zaM rfl (xL3 1 zaa rfl rfl ?_)))))))))
 refine xmi rfl (TL.ncI rfl rfl rfl (xmc rfl (xf 3 zbb rfl (xlc 1 zbN rfl rfl (xf 0 zaM rfl (xL3 1 zaa rfl rfl (xmi rfl (TL.ncI rfl rfl rfl ?_))))))))
 refine xmc rfl (TL.callD [] [] (zay hl) ⟨rfl,rfl,rfl,trivial⟩ trivial zaW rfl rfl rfl rfl rfl (kL1 rfl trivial) (TL.mload 0 hM rfl rfl rfl rfl rfl (kL1 rfl trivial) (TL.callD [] [] (zay hl) ⟨rfl,rfl,rfl,trivial⟩ trivial zaW rfl rfl rfl rfl rfl (kL1 rfl trivial) (TL.mload 0 hM rfl rfl rfl rfl rfl (kL1 rfl trivial) (xai rfl (xai rfl (dA (xmi rfl ?_))))))))
 refine xmi rfl (TL.gtr rfl rfl rfl rfl (fun q1=>?_) (fun q1=>?_))
 refine xmt rfl (xo rfl (xo rfl (xo rfl (xo rfl (xo rfl (xo rfl (xo rfl (xo rfl ?_))))))))
 refine xpT rfl (xat rfl (dR ?_))
 refine FQ.ret1 (v:=(.bool true)) (Bs:=[A _]) [0] rfl rfl rfl ⟨rfl,trivial⟩ ?_
 first | exact ⟨(by unfold zf9; dsimp only; rw [if_pos q1]),rfl⟩ | exact ⟨(by unfold zf9; dsimp only; rw [if_neg q1,if_pos q2]),rfl⟩ | exact ⟨(by unfold zf9; dsimp only; rw [if_neg q1,if_neg q2]),rfl⟩
 refine xmf rfl (xmi rfl (xmi rfl (TL.eql rfl rfl rfl rfl (fun q2=>?_) (fun q2=>?_))))
 refine xmt rfl (xmi rfl (xmi rfl (TL.lssV rfl rfl rfl rfl (TL.pickT (.bool _) rfl rfl rfl rfl (TL.pickF (.bool _) rfl rfl rfl rfl (xab rfl (dR ?_)))))))
 refine FQ.ret1 (v:=(.bool _)) (Bs:=[A _]) [0] rfl rfl rfl ⟨rfl,trivial⟩ ?_
 first | exact ⟨(by unfold zf9; dsimp only; rw [if_pos q1]),rfl⟩ | exact ⟨(by unfold zf9; dsimp only; rw [if_neg q1,if_pos q2]),rfl⟩ | exact ⟨(by unfold zf9; dsimp only; rw [if_neg q1,if_neg q2]),rfl⟩
 refine xmf rfl (xo rfl (xo rfl (xo rfl (xpF rfl (xpF rfl (xaf rfl (dR ?_)))))))
 refine FQ.ret1 (v:=(.bool false)) (Bs:=[A _]) [0] rfl rfl rfl ⟨rfl,trivial⟩ ?_
 first | exact ⟨(by unfold zf9; dsimp only; rw [if_pos q1]),rfl⟩ | exact ⟨(by unfold zf9; dsimp only; rw [if_neg q1,if_pos q2]),rfl⟩ | exact ⟨(by unfold zf9; dsimp only; rw [if_neg q1,if_neg q2]),rfl⟩
theorem zoW {S:Type} [MemLike S] {mt:TypeId} {mv:Value} {A:S→Assn} (hM:MemI Tryz.prog mt mv A) {l:Lay} (hl:l.Ok) {p:Pen} {σ:S} {a b r:Int} {k:Nat} {σ2:S} (h:merge l p k σ a b=some (r,σ2)):FnD Tryz.prog 185 [zbc l mt mv p,.int .i64 a,.int .i64 b] [A σ] (.int .i64 r) [A σ2]:=by
 induction k generalizing σ a b r σ2
 case zero=>simp [merge] at h
 case succ k ih =>
  refine Fn.enter (Tryz.func185) rfl rfl (fun w0 R=>?_)
  refine sA (xB 1 rfl (fun bk1=>(xai rfl (dS (TC.block (sA (xmi rfl (TL.eql rfl rfl rfl rfl (fun q1=>?_) (fun q1=>?_)))))))))
  refine xat rfl (dT rfl (xmi rfl (xai rfl (dR (TQ.blockRet (TQ.thenRet ?_))))))
  refine FQ.ret1 (v:=(.int _ _)) (Bs:=[A _]) [0] rfl rfl rfl ⟨rfl,trivial⟩ ?_
  rw [merge,if_pos q1] at h; cases h; exact ⟨rfl,rfl⟩
  refine xaf rfl (TL.done (TQ.then (TC.condF rfl (sA (xmi rfl (TL.eql rfl rfl rfl rfl (fun q2=>?_) (fun q2=>?_)))))))
  refine xat rfl (dT rfl (xmi rfl (xai rfl (dR (TQ.blockRet (TQ.thenRet ?_))))))
  refine FQ.ret1 (v:=(.int _ _)) (Bs:=[A _]) [0] rfl rfl rfl ⟨rfl,trivial⟩ ?_
  rw [merge,if_neg q1,if_pos q2] at h; cases h; exact ⟨rfl,rfl⟩
  refine xaf rfl (TL.done (TQ.then (TC.condF rfl (sA (xL6 1 zad rfl rfl (xmi rfl (xmi rfl (TL.callD [0] [0] (zpq hM hl) ⟨rfl,rfl,rfl,trivial⟩ ⟨rfl,trivial⟩ zq3 rfl rfl rfl rfl rfl trivial ?_))))))))
  refine TL.cases rfl (fun q3=>?_) (fun q3=>?_)
  refine xat rfl (TL.done (TQ.then (TC.condT rfl (TC.seq (TC.draw [(0,true),(1,true),(2,true),(3,true),(4,true),(6,true),(5,false),(7,false),(8,false)] [1] fc_m (by kernel_rfl) (xL6 1 zad rfl rfl (xmi rfl (xL6 1 zad rfl rfl ?_))))))))
  refine xL6 1 zad rfl rfl (xmi rfl (xmi rfl (TL.callD [0] [0] (zdb hM hl) ⟨rfl,rfl,rfl,trivial⟩ ⟨rfl,trivial⟩ zdm rfl rfl rfl rfl rfl (kL1 rfl trivial) ?_)))
  rw [merge,if_neg q1,if_neg q2] at h
  dsimp only at h
  rw [if_pos q3] at h
  obtain ⟨⟨c,σ3⟩,h1,h9⟩:=Option.bind_eq_some_iff.1 h
  refine TL.callD [0] [0] (ih h1) ⟨rfl,rfl,rfl,trivial⟩ ⟨rfl,trivial⟩ zkq rfl rfl rfl rfl rfl (kL1 rfl trivial) (TL.callD [0] [0] (zkJ hM hl) ⟨rfl,rfl,rfl,rfl,trivial⟩ ⟨rfl,trivial⟩ ziH rfl rfl rfl rfl rfl (kL1 rfl trivial) (dA (xmi rfl (xai rfl (dR (TQ.blockRet (TQ.thenRet ?_)))))))
  refine FQ.ret1 (v:=(.int _ _)) (Bs:=[A _]) [0] rfl rfl rfl ⟨rfl,trivial⟩ ?_
  cases h9; exact ⟨rfl,rfl⟩
  refine xaf rfl (TL.done (TQ.then (TC.condF rfl (TC.skip (TQ.inBlock (TQ.then (TC.seq (TC.draw [(0,true),(1,true),(2,true),(3,true),(4,true),(5,true),(6,false),(7,false),(8,false)] [1] fc_m (by kernel_rfl) ?_))))))))
  refine xL6 1 zad rfl rfl (xmi rfl (xL6 1 zad rfl rfl (xmi rfl (xL6 1 zad rfl rfl (xmi rfl (TL.callD [0] [0] (zdb hM hl) ⟨rfl,rfl,rfl,trivial⟩ ⟨rfl,trivial⟩ zdm rfl rfl rfl rfl rfl (kL1 rfl trivial) ?_))))))
  rw [merge,if_neg q1,if_neg q2] at h
  dsimp only at h
  rw [if_neg (by rw [q3]; decide)] at h
  obtain ⟨⟨c,σ3⟩,h1,h9⟩:=Option.bind_eq_some_iff.1 h
  refine TL.callD [0] [0] (ih h1) ⟨rfl,rfl,rfl,trivial⟩ ⟨rfl,trivial⟩ zkq rfl rfl rfl rfl rfl (kL1 rfl trivial) (TL.callD [0] [0] (zkJ hM hl) ⟨rfl,rfl,rfl,rfl,trivial⟩ ⟨rfl,trivial⟩ ziH rfl rfl rfl rfl rfl (kL1 rfl trivial) (dA (xmi rfl (xai rfl (dR ?_)))))
  refine FQ.ret1 (v:=(.int _ _)) (Bs:=[A _]) [0] rfl rfl rfl ⟨rfl,trivial⟩ ?_
  cases h9; exact ⟨rfl,rfl⟩
theorem zdO {S:Type} [MemLike S] {mt:TypeId} {mv:Value} {A:S→Assn} (hM:MemI Tryz.prog mt mv A) {l:Lay} (hl:l.Ok) {p:Pen} {σ:S} {a b r:Int} {k:Nat} {σ2:S} (h:zeM l p k σ a b=some (r,σ2)):FnD Tryz.prog 171 [zbc l mt mv p,.int .i64 a,.int .i64 b] [A σ] (.int .i64 r) [A σ2]:=by
 obtain ⟨⟨c,σ3⟩,h1,h9⟩:=Option.bind_eq_some_iff.1 h
 cases h9
 refine Fn.enter (Tryz.func171) rfl rfl (fun w0 R=>?_)
 refine sA (xB 1 rfl (fun bk1=>(xai rfl (dA (xL6 1 zad rfl rfl (xmi rfl (xmi rfl (TL.callD [0] [0] (zoW hM hl h1) ⟨rfl,rfl,rfl,trivial⟩ ⟨rfl,trivial⟩ zkq rfl rfl rfl rfl rfl trivial (xai rfl ?_)))))))))
 refine dA (xL6 1 zad rfl rfl (xmi rfl (TL.callD [0] [0] (zgW hM hl) ⟨rfl,rfl,rfl,trivial⟩ ⟨rfl,trivial⟩ zhh rfl rfl rfl rfl rfl trivial (dA (xmi rfl (xai rfl (dR ?_)))))))
 refine FQ.ret1 (v:=(.int _ _)) (Bs:=[A _]) [0] rfl rfl rfl ⟨rfl,trivial⟩ ?_
 exact ⟨rfl,rfl⟩
theorem zmT {S:Type} [MemLike S] {mt:TypeId} {mv:Value} {A:S→Assn} (hM:MemI Tryz.prog mt mv A) {l:Lay} (hl:l.Ok) {p:Pen} {σ:S} {x m:Int} {k:Nat} {σ2:S} (h0:0≤m) (h:zgT l k σ x m true=some σ2):FnD Tryz.prog 173 [zbc l mt mv p,.int .i64 x,.int .i64 m,.bool true] [A σ] (.tuple #[]) [A σ2]:=by
 unfold zgT at h
 dsimp only [zir] at h
 simp only [if_true,Bool.false_eq_true,if_false] at h
 refine Fn.enter (Tryz.func173) rfl rfl (fun w0 R=>?_)
 refine sA (xB 1 rfl (fun bk1=>(dS (TC.draw [(0,true),(1,true),(3,true),(4,true),(2,false),(5,true),(6,true)] [1] fc_m (by kernel_rfl) (xL6 1 zad rfl rfl (xmi rfl (xmi rfl (TL.shl _ rfl rfl (by omega) rfl rfl rfl (TL.callD [0] [0] (zeC hM hl) ⟨rfl,rfl,trivial⟩ ⟨rfl,trivial⟩ zf0 rfl rfl rfl rfl rfl (kL1 rfl trivial) ?_)))))))))
 refine TL.andNot _ rfl rfl rfl rfl rfl (xai rfl (dB (xmt rfl (TL.done (TQ.then (TC.condT rfl (TC.region (xmi rfl ?_))))))))
 refine xmi rfl (TL.shl _ rfl rfl (by omega) rfl rfl rfl (TL.or _ rfl rfl rfl rfl rfl (xai rfl (dA (xL6 1 zad rfl rfl (xmi rfl (xmi rfl (TL.callD [0] [0] (zfh hM hl) ⟨rfl,rfl,rfl,trivial⟩ ⟨rfl,trivial⟩ zhe rfl rfl rfl rfl rfl trivial ?_))))))))
 refine dA (xL6 1 zad rfl rfl (xmi rfl (TL.callD [0] [0] (zdL hM hl) ⟨rfl,rfl,trivial⟩ ⟨rfl,trivial⟩ zf4 rfl rfl rfl rfl rfl trivial (xai rfl (dK (TC.loopK (X:=Nat×S×Int) [4] [1] (fun y=>[(9,.int .i64 y.2.2)]) (fun y=>[(0,A y.2.1)]) (fun y=>zcu l y.1 y.2.1 y.2.2=some σ2) (fun y=>y.1) ((k,_,_)) h ⟨rfl,trivial⟩ ⟨rfl,trivial⟩ (fun y hI=>?_)))))))
 obtain ⟨k,σ1,z⟩:=y
 rcases k with _ | k
 ·simp [zcu] at hI
 dsimp only at hI
 refine TC.sub (env':=[(9,_),(4,_)]) (L':=[(0,_),(1,_)]) ⟨rfl,rfl,trivial⟩ ⟨rfl,rfl,trivial⟩ (sB (xmi rfl (TL.neq rfl rfl rfl rfl (fun q1=>?_) (fun q1=>?_))))
 refine TL.done (TQ.then (TC.condT rfl (TC.skip (TQ.then (TC.seq (TC.block (TC.draw [(0,true),(1,true),(2,true),(3,true),(4,false),(5,false)] [1] fc_m (by kernel_rfl) (xL6 1 zad rfl rfl ?_))))))))
 refine xmi rfl (xL6 1 zad rfl rfl (xmi rfl (TL.callD [0] [0] (zeC hM hl) ⟨rfl,rfl,trivial⟩ ⟨rfl,trivial⟩ zf0 rfl rfl rfl rfl rfl (kL1 rfl trivial) (TL.callD [0] [0] (zfh hM hl) ⟨rfl,rfl,rfl,trivial⟩ ⟨rfl,trivial⟩ zhe rfl rfl rfl rfl rfl (kL1 rfl trivial) (dI (xL6 1 zad rfl rfl (xmi rfl (TL.callD [0] [0] (zdL hM hl) ⟨rfl,rfl,trivial⟩ ⟨rfl,trivial⟩ zf4 rfl rfl rfl rfl rfl trivial ?_))))))))
 refine xai rfl (TL.done (TQ.roundK ((k,_,_)) ⟨(by rw [zcu,if_pos q1] at hI; exact hI),Nat.lt_succ_self _⟩ ⟨rfl,trivial⟩ ⟨rfl,trivial⟩ (kE1 rfl trivial) (kL1 rfl trivial)))
 refine TL.done (TQ.then (TC.condF rfl (TC.exit (TQ.thenExit (TQ.thenExit (TQ.blockHere ?_))))))
 refine FQ.end0 (Bs:=[A _]) [0] rfl rfl ⟨rfl,trivial⟩ ?_
 rw [zcu,if_neg q1] at hI; cases hI; exact ⟨rfl,rfl⟩
theorem zlI {S:Type} [MemLike S] {mt:TypeId} {mv:Value} {A:S→Assn} (hM:MemI Tryz.prog mt mv A) {l:Lay} (hl:l.Ok) {p:Pen} {σ:S} {x m:Int} {k:Nat} {σ2:S} (h0:0≤m) (h:zgT l k σ x m false=some σ2):FnD Tryz.prog 173 [zbc l mt mv p,.int .i64 x,.int .i64 m,.bool false] [A σ] (.tuple #[]) [A σ2]:=by
 unfold zgT at h
 dsimp only [zir] at h
 simp only [if_true,Bool.false_eq_true,if_false] at h
 refine Fn.enter (Tryz.func173) rfl rfl (fun w0 R=>?_)
 refine sA (xB 1 rfl (fun bk1=>(dS (TC.draw [(0,true),(1,true),(3,true),(4,true),(2,false),(5,true),(6,true)] [1] fc_m (by kernel_rfl) (xL6 1 zad rfl rfl (xmi rfl (xmi rfl (TL.shl _ rfl rfl (by omega) rfl rfl rfl (TL.callD [0] [0] (zeC hM hl) ⟨rfl,rfl,trivial⟩ ⟨rfl,trivial⟩ zf0 rfl rfl rfl rfl rfl (kL1 rfl trivial) ?_)))))))))
 refine TL.andNot _ rfl rfl rfl rfl rfl (xai rfl (dB (xmf rfl (dF rfl (xL6 1 zad rfl rfl (xmi rfl (xmi rfl (TL.callD [0] [0] (zfh hM hl) ⟨rfl,rfl,rfl,trivial⟩ ⟨rfl,trivial⟩ zhe rfl rfl rfl rfl rfl trivial ?_))))))))
 refine dA (xL6 1 zad rfl rfl (xmi rfl (TL.callD [0] [0] (zdL hM hl) ⟨rfl,rfl,trivial⟩ ⟨rfl,trivial⟩ zf4 rfl rfl rfl rfl rfl trivial (xai rfl (dK (TC.loopK (X:=Nat×S×Int) [4] [1] (fun y=>[(9,.int .i64 y.2.2)]) (fun y=>[(0,A y.2.1)]) (fun y=>zcu l y.1 y.2.1 y.2.2=some σ2) (fun y=>y.1) ((k,_,_)) h ⟨rfl,trivial⟩ ⟨rfl,trivial⟩ (fun y hI=>?_)))))))
 obtain ⟨k,σ1,z⟩:=y
 rcases k with _ | k
 ·simp [zcu] at hI
 dsimp only at hI
 refine TC.sub (env':=[(9,_),(4,_)]) (L':=[(0,_),(1,_)]) ⟨rfl,rfl,trivial⟩ ⟨rfl,rfl,trivial⟩ (sB (xmi rfl (TL.neq rfl rfl rfl rfl (fun q1=>?_) (fun q1=>?_))))
 refine TL.done (TQ.then (TC.condT rfl (TC.skip (TQ.then (TC.seq (TC.block (TC.draw [(0,true),(1,true),(2,true),(3,true),(4,false),(5,false)] [1] fc_m (by kernel_rfl) (xL6 1 zad rfl rfl ?_))))))))
 refine xmi rfl (xL6 1 zad rfl rfl (xmi rfl (TL.callD [0] [0] (zeC hM hl) ⟨rfl,rfl,trivial⟩ ⟨rfl,trivial⟩ zf0 rfl rfl rfl rfl rfl (kL1 rfl trivial) (TL.callD [0] [0] (zfh hM hl) ⟨rfl,rfl,rfl,trivial⟩ ⟨rfl,trivial⟩ zhe rfl rfl rfl rfl rfl (kL1 rfl trivial) (dI (xL6 1 zad rfl rfl (xmi rfl (TL.callD [0] [0] (zdL hM hl) ⟨rfl,rfl,trivial⟩ ⟨rfl,trivial⟩ zf4 rfl rfl rfl rfl rfl trivial ?_))))))))
 refine xai rfl (TL.done (TQ.roundK ((k,_,_)) ⟨(by rw [zcu,if_pos q1] at hI; exact hI),Nat.lt_succ_self _⟩ ⟨rfl,trivial⟩ ⟨rfl,trivial⟩ (kE1 rfl trivial) (kL1 rfl trivial)))
 refine TL.done (TQ.then (TC.condF rfl (TC.exit (TQ.thenExit (TQ.thenExit (TQ.blockHere ?_))))))
 refine FQ.end0 (Bs:=[A _]) [0] rfl rfl ⟨rfl,trivial⟩ ?_
 rw [zcu,if_neg q1] at hI; cases hI; exact ⟨rfl,rfl⟩
theorem zmU {S:Type} [MemLike S] {mt:TypeId} {mv:Value} {A:S→Assn} (hM:MemI Tryz.prog mt mv A) {l:Lay} (hl:l.Ok) {p:Pen} {σ:S} {x m:Int} {on:Bool} {k:Nat} {σ2:S} (h0:0≤m) (h:zgT l k σ x m on=some σ2):FnD Tryz.prog 173 [zbc l mt mv p,.int .i64 x,.int .i64 m,.bool on] [A σ] (.tuple #[]) [A σ2]:=by
 cases on
 ·exact zlI hM hl h0 h
 ·exact zmT hM hl h0 h
theorem zji {S:Type} [MemLike S] {mt:TypeId} {mv:Value} {A:S→Assn} (hM:MemI Tryz.prog mt mv A) {l:Lay} (hl:l.Ok) {p:Pen} {σ:S} {x m:Int} (h0:0≤m):FnD Tryz.prog 184 [zbc l mt mv p,.int .i64 x,.int .i64 m] [A σ] (.bool (zhM l σ x m)) [A (zgc l σ x)]:=by
 refine Fn.enter (Tryz.func184) rfl rfl (fun w0 R=>?_)
 refine sA (xB 1 rfl (fun bk1=>(xaf rfl (dA (xL6 1 zad rfl rfl (xmi rfl (TL.callD [0] [0] (zeC hM hl) ⟨rfl,rfl,trivial⟩ ⟨rfl,trivial⟩ zf0 rfl rfl rfl rfl rfl trivial (xmi rfl (TL.shr _ rfl rfl (by omega) rfl rfl rfl ?_)))))))))
 refine TL.and _ rfl rfl rfl rfl rfl (TL.eqlV rfl rfl rfl rfl (xab rfl (dR ?_)))
 refine FQ.ret1 (v:=(.bool _)) (Bs:=[A _]) [0] rfl rfl rfl ⟨rfl,trivial⟩ ?_
 exact ⟨rfl,rfl⟩
theorem zpI {S:Type} [MemLike S] {mt:TypeId} {mv:Value} {A:S→Assn} (hM:MemI Tryz.prog mt mv A) {l:Lay} (hl:l.Ok) {p:Pen} {σ:S} {x m:Int} (h0:0≤m):FnD Tryz.prog 197 [zbc l mt mv p,.int .i64 x,.int .i64 m] [A σ] (.bool (has l σ x m)) [A (zcE l σ x)]:=by
 refine Fn.enter (Tryz.func197) rfl rfl (fun w0 R=>?_)
 refine sA (xB 1 rfl (fun bk1=>(xaf rfl (dA (xL6 1 zad rfl rfl (xmi rfl (TL.callD [0] [0] (zgC hM hl) ⟨rfl,rfl,trivial⟩ ⟨rfl,trivial⟩ zhd rfl rfl rfl rfl rfl trivial (TL.shr _ rfl rfl (by decide) rfl rfl rfl (xmi rfl ?_)))))))))
 refine TL.shr _ rfl rfl (by omega) rfl rfl rfl (TL.and _ rfl rfl rfl rfl rfl (TL.eqlV rfl rfl rfl rfl (xab rfl (dR ?_))))
 refine FQ.ret1 (v:=(.bool _)) (Bs:=[A _]) [0] rfl rfl rfl ⟨rfl,trivial⟩ ?_
 exact ⟨rfl,rfl⟩
theorem zo6 {S:Type} [MemLike S] {mt:TypeId} {mv:Value} {A:S→Assn} (hM:MemI Tryz.prog mt mv A) {l:Lay} (hl:l.Ok) {p:Pen} {σ:S} {x m r:Int} {k:Nat} {σ2:S} (h0:0≤m) (h:first l k σ x m=some (r,σ2)):FnD Tryz.prog 191 [zbc l mt mv p,.int .i64 x,.int .i64 m] [A σ] (.int .i64 r) [A σ2]:=by
 unfold first at h
 refine Fn.enter (Tryz.func191) rfl rfl (fun w0 R=>?_)
 refine sA (xB 1 rfl (fun bk1=>(xai rfl (dA (xmi rfl (xai rfl (dB (xL6 1 zad rfl rfl (xmi rfl ?_)))))))))
 refine xmi rfl (TL.callD [0] [0] (zpI hM hl h0) ⟨rfl,rfl,rfl,trivial⟩ ⟨rfl,trivial⟩ zny rfl rfl rfl rfl rfl trivial (TL.cases rfl (fun q1=>?_) (fun q1=>?_)))
 refine xnt rfl (TL.done (TQ.then (TC.condF rfl (TC.skip (TQ.then (TC.block (TC.loopK (X:=Nat×S×Int) [2,3] [1] (fun y=>[(7,.int .i64 y.2.2)]) (fun y=>[(0,A y.2.1)]) (fun y=>zdr l m y.1 y.2.1 y.2.2=some (r,σ2)) (fun y=>y.1) ((k,_,x)) (by rw [if_pos q1] at h; exact h) ⟨rfl,trivial⟩ ⟨rfl,trivial⟩ (fun y hI=>?_))))))))
 obtain ⟨k,σ1,z⟩:=y
 rcases k with _ | k
 ·simp [zdr] at hI
 dsimp only at hI
 refine TC.sub (env':=[(7,_),(2,_),(3,_)]) (L':=[(0,_),(1,_)]) ⟨rfl,rfl,rfl,trivial⟩ ⟨rfl,rfl,trivial⟩ (TC.block (sA (xL6 1 zad rfl rfl (xmi rfl (TL.callD [0] [0] (zdb hM hl) ⟨rfl,rfl,rfl,trivial⟩ ⟨rfl,trivial⟩ zdm rfl rfl rfl rfl rfl trivial (xai rfl (dK (sA ?_))))))))
 refine xL6 1 zad rfl rfl (xmi rfl (xmi rfl (TL.callD [0] [0] (zpI hM hl h0) ⟨rfl,rfl,rfl,trivial⟩ ⟨rfl,trivial⟩ zny rfl rfl rfl rfl rfl trivial (TL.cases rfl (fun q2=>?_) (fun q2=>?_)))))
 refine xat rfl (TL.done (TQ.then (TC.condT rfl (TC.region (xmi rfl (xai rfl (TL.done (TQ.inBlock ?_))))))))
 refine TQ.inBlock (TQ.roundK ((k,_,_)) ⟨(by rw [zdr] at hI; dsimp only at hI; rw [if_pos q2] at hI; exact hI),Nat.lt_succ_self _⟩ ⟨rfl,trivial⟩ ⟨rfl,trivial⟩ (kE2 rfl rfl trivial) (kL1 rfl trivial))
 refine xaf rfl (TL.done (TQ.then (TC.condF rfl (sA (xL6 1 zad rfl rfl (xmi rfl (xmi rfl (TL.callD [0] [0] (zji hM hl h0) ⟨rfl,rfl,rfl,trivial⟩ ⟨rfl,trivial⟩ znA rfl rfl rfl rfl rfl trivial ?_))))))))
 refine TL.cases rfl (fun q3=>?_) (fun q3=>?_)
 refine xat rfl (dT rfl (xmi rfl (xai rfl (dR (TQ.blockRet (TQ.blockRet (TQ.thenRet (TQ.blockRet ?_))))))))
 refine FQ.ret1 (v:=(.int _ _)) (Bs:=[A _]) [0] rfl rfl rfl ⟨rfl,trivial⟩ ?_
 rw [zdr] at hI; dsimp only at hI; rw [if_neg (by rw [q2]; decide),if_pos q3] at hI; cases hI; exact ⟨rfl,rfl⟩
 refine xaf rfl (TL.done (TQ.then (TC.condF rfl (TC.region (xL6 1 zad rfl rfl (xmi rfl (TL.callD [0] [0] (zdb hM hl) ⟨rfl,rfl,rfl,trivial⟩ ⟨rfl,trivial⟩ zdm rfl rfl rfl rfl rfl trivial (xai rfl ?_))))))))
 refine TL.done (TQ.inBlock (TQ.inBlock (TQ.roundK ((k,_,_)) ⟨(by rw [zdr] at hI; dsimp only at hI; rw [if_neg (by rw [q2]; decide),if_neg (by rw [q3]; decide)] at hI; exact hI),Nat.lt_succ_self _⟩ ⟨rfl,trivial⟩ ⟨rfl,trivial⟩ (kE2 rfl rfl trivial) (kL1 rfl trivial))))
 refine xnf rfl (dT rfl (xai rfl (dRR ?_)))
 refine FQ.ret1 (v:=(.int _ _)) (Bs:=[A _]) [0] rfl rfl rfl ⟨rfl,trivial⟩ ?_
 rw [if_neg (by rw [q1]; decide)] at h; cases h; exact ⟨rfl,rfl⟩
theorem zlm {S:Type} [MemLike S] {mt:TypeId} {mv:Value} {A:S→Assn} (hM:MemI Tryz.prog mt mv A) {l:Lay} (hl:l.Ok) {p:Pen} {σ:S} {i u r:Int} {k:Nat} {σ2:S} (h:zhr l p k σ i u=some (r,σ2)):FnD Tryz.prog 172 [zbc l mt mv p,.int .i64 i,.int .i64 u] [A σ] (.int .i64 r) [A σ2]:=by
 unfold zhr at h
 dsimp only at h
 obtain ⟨⟨a,σa⟩,h1,h⟩:=Option.bind_eq_some_iff.1 h
 obtain ⟨⟨j,σb⟩,h2,h⟩:=Option.bind_eq_some_iff.1 h
 obtain ⟨⟨s,σc⟩,h3,h4⟩:=Option.bind_eq_some_iff.1 h
 dsimp only at h1 h2 h3 h4
 refine Fn.enter (Tryz.func172) rfl rfl (fun w0 R=>?_)
 refine sA (xB 1 rfl (fun bk1=>(xai rfl (dA (xf 0 zat rfl (xf 0 zaM rfl (xL3 1 zaa rfl rfl (xmi rfl (xmi rfl ?_)))))))))
 refine TL.callD [] [] (zcT hl) ⟨rfl,rfl,rfl,trivial⟩ trivial zgg rfl rfl rfl rfl rfl trivial (xai rfl (dS (TC.draw [(0,true),(1,true),(2,true),(3,true),(4,true),(6,true),(7,true),(8,true),(5,false),(9,false),(10,false),(11,true),(12,true),(13,true),(14,true),(15,true)] [1] fc_m (by kernel_rfl) (xf 0 zat rfl (xL6 1 zad rfl rfl (xf 0 zat rfl (xL6 1 zad rfl rfl (xmi rfl ?_))))))))
 refine xf 0 zat rfl (xL6 1 zad rfl rfl (xmi rfl (TL.callD [0] [0] (zeU hM hl h1) ⟨rfl,rfl,trivial⟩ ⟨rfl,trivial⟩ zhb rfl rfl rfl rfl rfl (kL1 rfl trivial) (TL.callD [0] [0] (ziy hM hl h2) ⟨rfl,rfl,trivial⟩ ⟨rfl,trivial⟩ zkr rfl rfl rfl rfl rfl (kL1 rfl trivial) (TL.callD [0] [0] (zcr hM hl h3) ⟨rfl,rfl,rfl,trivial⟩ ⟨rfl,trivial⟩ zeb rfl rfl rfl rfl rfl (kL1 rfl trivial) (xmu rfl (xei rfl rfl (xei rfl rfl ?_))))))))
 refine xai rfl (xai rfl (dA (xf 0 zat rfl (xL6 1 zad rfl rfl (xmi rfl (xmi rfl (TL.callD [0] [0] (zdO hM hl h4) ⟨rfl,rfl,rfl,trivial⟩ ⟨rfl,trivial⟩ zf1 rfl rfl rfl rfl rfl trivial (xai rfl ?_))))))))
 refine dR ?_
 refine FQ.ret1 (v:=(.int _ _)) (Bs:=[A _]) [0] rfl rfl rfl ⟨rfl,trivial⟩ ?_
 exact ⟨rfl,rfl⟩
theorem zms {S:Type} [MemLike S] {mt:TypeId} {mv:Value} {A:S→Assn} (hM:MemI Tryz.prog mt mv A) {l:Lay} (hl:l.Ok) {p:Pen} {σ:S} {i u v:Int} {b:Bool} {k:Nat} {σ2:S} (h:same l k σ i u v=some (b,σ2)):FnD Tryz.prog 100 [zbc l mt mv p,.int .i64 i,.int .i64 u,.int .i64 v] [A σ] (.bool b) [A σ2]:=by
 unfold same at h
 obtain ⟨⟨a,σa⟩,h1,h⟩:=Option.bind_eq_some_iff.1 h
 obtain ⟨⟨c,σb⟩,h2,h⟩:=Option.bind_eq_some_iff.1 h
 dsimp only at h1 h2 h
 cases h
 refine Fn.enter (Tryz.func100) rfl rfl (fun w0 R=>?_)
 refine sA (xB 1 rfl (fun bk1=>(xaf rfl (dS (TC.draw [(0,true),(1,true),(2,true),(3,true),(4,true),(5,true),(6,true),(9,true),(10,true),(11,true),(12,true),(13,true),(14,true),(15,true),(7,false),(8,false),(16,false),(17,false),(18,true),(19,true)] [1] fc_m (by kernel_rfl) (xf 0 zat rfl (xL6 1 zad rfl rfl (xf 0 zat rfl (xf 0 zaM rfl ?_)))))))))
 refine xL3 1 zaa rfl rfl (xmi rfl (xmi rfl (xf 0 zat rfl (xL6 1 zad rfl rfl (xf 0 zat rfl (xf 0 zaM rfl (xL3 1 zaa rfl rfl (xmi rfl ?_))))))))
 refine xmi rfl (TL.callD [] [] (zcT hl) ⟨rfl,rfl,rfl,trivial⟩ trivial zgg rfl rfl rfl rfl rfl (kL1 rfl trivial) (TL.callD [0] [0] (zeU hM hl h1) ⟨rfl,rfl,trivial⟩ ⟨rfl,trivial⟩ zhb rfl rfl rfl rfl rfl (kL1 rfl trivial) (TL.callD [] [] (zcT hl) ⟨rfl,rfl,rfl,trivial⟩ trivial zgg rfl rfl rfl rfl rfl (kL1 rfl trivial) (TL.callD [0] [0] (zeU hM hl h2) ⟨rfl,rfl,trivial⟩ ⟨rfl,trivial⟩ zhb rfl rfl rfl rfl rfl (kL1 rfl trivial) (TL.eqlV rfl rfl rfl rfl (xab rfl (dR ?_)))))))
 refine FQ.ret1 (v:=(.bool _)) (Bs:=[A _]) [0] rfl rfl rfl ⟨rfl,trivial⟩ ?_
 exact ⟨rfl,rfl⟩
theorem zlk {S:Type} [MemLike S] {mt:TypeId} {mv:Value} {A:S→Assn} (hM:MemI Tryz.prog mt mv A) {l:Lay} (hl:l.Ok) {p:Pen} {σ:S} {i u r:Int} {k:Nat} {σ2:S} (h:count l k σ i u=some (r,σ2)):FnD Tryz.prog 177 [zbc l mt mv p,.int .i64 i,.int .i64 u] [A σ] (.int .i64 r) [A σ2]:=by
 unfold count at h
 obtain ⟨⟨a,σa⟩,h1,h⟩:=Option.bind_eq_some_iff.1 h
 dsimp only at h1 h
 cases h
 refine Fn.enter (Tryz.func177) rfl rfl (fun w0 R=>?_)
 refine sA (xB 1 rfl (fun bk1=>(xai rfl (dS (TC.draw [(0,true),(1,true),(2,true),(3,true),(4,true),(5,true),(6,true),(7,true),(8,true),(9,false),(10,false),(11,false),(12,true)] [1] fc_m (by kernel_rfl) (xf 0 zat rfl (xL6 1 zad rfl rfl (xf 0 zat rfl (xL6 1 zad rfl rfl ?_)))))))))
 refine xf 0 zat rfl (xf 0 zaM rfl (xL3 1 zaa rfl rfl (xmi rfl (xmi rfl (TL.callD [] [] (zcT hl) ⟨rfl,rfl,rfl,trivial⟩ trivial zgg rfl rfl rfl rfl rfl (kL1 rfl trivial) (TL.callD [0] [0] (zeU hM hl h1) ⟨rfl,rfl,trivial⟩ ⟨rfl,trivial⟩ zhb rfl rfl rfl rfl rfl (kL1 rfl trivial) (TL.callD [0] [0] (zoy hM hl) ⟨rfl,rfl,trivial⟩ ⟨rfl,trivial⟩ zq5 rfl rfl rfl rfl rfl (kL1 rfl trivial) (xai rfl ?_))))))))
 refine dR ?_
 refine FQ.ret1 (v:=(.int _ _)) (Bs:=[A _]) [0] rfl rfl rfl ⟨rfl,trivial⟩ ?_
 exact ⟨rfl,rfl⟩
theorem zln {mt:TypeId} {mv:Value} {l:Lay} (hl:l.Ok) {p:Pen} {i s:Int}:FnD Tryz.prog 170 [zbc l mt mv p,.int .i64 i,.int .i64 s] [] (.tuple #[.int .i64 (l.arc s i 0),.int .i64 (l.arc s i 1)]) []:=by
 refine Fn.enter (Tryz.func170) rfl rfl (fun w0 R=>?_)
 refine sA (xB 0 rfl (fun bk0=>(xai rfl (xai rfl (dS (TC.draw [(0,true),(1,true),(2,true),(3,true),(4,true),(6,true),(7,true),(8,true),(9,true),(10,true),(5,false),(11,false),(12,true),(13,true)] [0] fc_m (by kernel_rfl) (xf 0 zat rfl (xf 0 zaM rfl (xL3 0 zaa rfl rfl ?_)))))))))
 refine xmi rfl (xmi rfl (xf 0 zat rfl (xf 0 zaM rfl (xL3 0 zaa rfl rfl (xmi rfl (xmi rfl (TL.callD [] [] (zop hl) ⟨rfl,rfl,rfl,rfl,trivial⟩ trivial zks rfl rfl rfl rfl rfl (kL1 rfl trivial) (TL.callD [] [] (zop hl) ⟨rfl,rfl,rfl,rfl,trivial⟩ trivial zks rfl rfl rfl rfl rfl (kL1 rfl trivial) ?_))))))))
 refine xai rfl (xai rfl (dR ?_))
 refine FQ.ret2 (v:=(.int _ _)) (x:=(.int _ _)) (Bs:=[]) [] rfl rfl rfl rfl trivial ?_
 exact ⟨rfl,rfl⟩
theorem zm2 {S:Type} [MemLike S] {mt:TypeId} {mv:Value} {A:S→Assn} (hM:MemI Tryz.prog mt mv A) {l:Lay} (hl:l.Ok) {p:Pen} {σ:S} {i s u v r:Int} {k:Nat} {σ2:S} (h:link l p k σ i s u v=some (r,σ2)):FnD Tryz.prog 141 [zbc l mt mv p,.int .i64 i,.int .i64 s,.int .i64 u,.int .i64 v] [A σ] (.int .i64 r) [A σ2]:=by
 unfold link at h
 obtain ⟨⟨a,σa⟩,h1,h⟩:=Option.bind_eq_some_iff.1 h
 obtain ⟨⟨x,σb⟩,h2,h⟩:=Option.bind_eq_some_iff.1 h
 obtain ⟨⟨b,σc⟩,h3,h⟩:=Option.bind_eq_some_iff.1 h
 obtain ⟨⟨y,σd⟩,h4,h5⟩:=Option.bind_eq_some_iff.1 h
 dsimp only at h1 h2 h3 h4 h5
 refine Fn.enter (Tryz.func141) rfl rfl (fun w0 R=>?_)
 refine sA (xB 1 rfl (fun bk1=>(xai rfl (dA (xL6 1 zb7 rfl rfl (xmi rfl (xmi rfl (TL.callD [] [] (zln hl) ⟨rfl,rfl,rfl,trivial⟩ trivial znE rfl rfl rfl rfl rfl trivial (xmu rfl ?_)))))))))
 refine xei rfl rfl (xei rfl rfl (xai rfl (xai rfl (dS (TC.draw [(0,true),(1,true),(2,true),(3,true),(4,true),(6,true),(5,false),(7,false),(8,true)] [1] fc_m (by kernel_rfl) (xf 0 zat rfl (xL6 1 zad rfl rfl (xL6 1 zb7 rfl rfl ?_))))))))
 refine xmi rfl (xmi rfl (xmi rfl (TL.callD [0] [0] (zlm hM hl h1) ⟨rfl,rfl,rfl,trivial⟩ ⟨rfl,trivial⟩ znD rfl rfl rfl rfl rfl (kL1 rfl trivial) (TL.callD [0] [0] (zdO hM hl h2) ⟨rfl,rfl,rfl,trivial⟩ ⟨rfl,trivial⟩ zf1 rfl rfl rfl rfl rfl (kL1 rfl trivial) (xai rfl (dS (TC.draw [(0,true),(1,true),(2,true),(3,true),(4,true),(5,true),(6,false),(7,false),(8,true)] [1] fc_m (by kernel_rfl) (xf 0 zat rfl ?_))))))))
 refine xL6 1 zad rfl rfl (xmi rfl (xL6 1 zb7 rfl rfl (xmi rfl (xmi rfl (TL.callD [0] [0] (zlm hM hl h3) ⟨rfl,rfl,rfl,trivial⟩ ⟨rfl,trivial⟩ znD rfl rfl rfl rfl rfl (kL1 rfl trivial) (TL.callD [0] [0] (zdO hM hl h4) ⟨rfl,rfl,rfl,trivial⟩ ⟨rfl,trivial⟩ zf1 rfl rfl rfl rfl rfl (kL1 rfl trivial) (xai rfl (dA ?_))))))))
 refine xf 0 zat rfl (xL6 1 zad rfl rfl (xmi rfl (xmi rfl (TL.callD [0] [0] (zdO hM hl h5) ⟨rfl,rfl,rfl,trivial⟩ ⟨rfl,trivial⟩ zf1 rfl rfl rfl rfl rfl trivial (xai rfl (dR ?_))))))
 refine FQ.ret1 (v:=(.int _ _)) (Bs:=[A _]) [0] rfl rfl rfl ⟨rfl,trivial⟩ ?_
 exact ⟨rfl,rfl⟩
theorem zss {S:Type} [MemLike S] {mt:TypeId} {mv:Value} {A:S→Assn} (hM:MemI Tryz.prog mt mv A) {l:Lay} (hl:l.Ok) {p:Pen} {σ:S} {i s:Int} {r:Int×Int} {k:Nat} {σ2:S} (h:cut l p k σ i s=some (r,σ2)):FnD Tryz.prog 155 [zbc l mt mv p,.int .i64 i,.int .i64 s] [A σ] (.tuple #[.int .i64 r.1,.int .i64 r.2]) [A σ2]:=by
 unfold cut at h
 dsimp only at h
 obtain ⟨⟨i0,σa⟩,h1,h⟩:=Option.bind_eq_some_iff.1 h
 obtain ⟨⟨j0,σb⟩,h2,h⟩:=Option.bind_eq_some_iff.1 h
 obtain ⟨⟨rt,σc⟩,h3,h⟩:=Option.bind_eq_some_iff.1 h
 obtain ⟨⟨s1,σd⟩,h4,h⟩:=Option.bind_eq_some_iff.1 h
 obtain ⟨⟨s2,σe⟩,h5,h⟩:=Option.bind_eq_some_iff.1 h
 obtain ⟨⟨s3,σf⟩,h6,h⟩:=Option.bind_eq_some_iff.1 h
 obtain ⟨⟨s4,σg⟩,h7,h⟩:=Option.bind_eq_some_iff.1 h
 obtain ⟨⟨m,σh⟩,h8,h9⟩:=Option.bind_eq_some_iff.1 h
 dsimp only at h1 h2 h3 h4 h5 h6 h7 h8 h9
 cases h9
 refine Fn.enter (Tryz.func155) rfl rfl (fun w0 R=>?_)
 refine sA (xB 1 rfl (fun bk1=>(xai rfl (xai rfl (dA (xL6 1 zb7 rfl rfl (xmi rfl (xmi rfl (TL.callD [] [] (zln hl) ⟨rfl,rfl,rfl,trivial⟩ trivial znE rfl rfl rfl rfl rfl trivial ?_)))))))))
 refine xmu rfl (xei rfl rfl (xei rfl rfl (xai rfl (xai rfl (dS (TC.draw [(0,true),(1,true),(2,true),(4,true),(5,true),(6,true),(3,false),(7,false),(8,true),(9,true)] [1] fc_m (by kernel_rfl) (xf 0 zat rfl (xL6 1 zad rfl rfl ?_))))))))
 refine xmi rfl (xf 0 zat rfl (xL6 1 zad rfl rfl (xmi rfl (TL.callD [0] [0] (ziy hM hl h1) ⟨rfl,rfl,trivial⟩ ⟨rfl,trivial⟩ zkr rfl rfl rfl rfl rfl (kL1 rfl trivial) (TL.callD [0] [0] (ziy hM hl h2) ⟨rfl,rfl,trivial⟩ ⟨rfl,trivial⟩ zkr rfl rfl rfl rfl rfl (kL1 rfl trivial) (xai rfl (xai rfl (dB ?_))))))))
 refine xmi rfl (xmi rfl (TL.gtr rfl rfl rfl rfl (fun q1=>?_) (fun q1=>?_)))
 refine TL.done (TQ.then (TC.condT rfl (TC.region (xmi rfl (xmi rfl (xai rfl (xai rfl (dS ?_))))))))
 refine TC.draw [(0,true),(1,true),(2,true),(3,true),(4,true),(6,true),(5,false),(7,false),(8,true),(9,true),(10,true),(11,true),(12,true)] [1] fc_m (by kernel_rfl) (xf 0 zat rfl (xL6 1 zad rfl rfl (xf 0 zat rfl (xL6 1 zad rfl rfl (xmi rfl (xmi rfl (TL.callD [0] [0] (zeU hM hl h3) ⟨rfl,rfl,trivial⟩ ⟨rfl,trivial⟩ zhb rfl rfl rfl rfl rfl (kL1 rfl trivial) (TL.callD [0] [0] (zcr hM hl (by rw [if_pos q1] at h4; exact h4)) ⟨rfl,rfl,rfl,trivial⟩ ⟨rfl,trivial⟩ zeb rfl rfl rfl rfl rfl (kL1 rfl trivial) ?_))))))))
 refine xmu rfl (xei rfl rfl (xei rfl rfl (xai rfl (xai rfl (dA (xf 0 zat rfl (xL6 1 zad rfl rfl (xmi rfl ?_))))))))
 refine TL.callD [0] [0] (zcr hM hl h5) ⟨rfl,rfl,rfl,trivial⟩ ⟨rfl,trivial⟩ zeb rfl rfl rfl rfl rfl trivial (xmu rfl (xei rfl rfl (xei rfl rfl (xai rfl (dA (xf 0 zat rfl (xL6 1 zad rfl rfl (xmi rfl ?_))))))))
 refine xmi rfl (TL.callD [0] [0] (zcr hM hl (by rw [if_pos q1] at h6; exact h6)) ⟨rfl,rfl,rfl,trivial⟩ ⟨rfl,trivial⟩ zeb rfl rfl rfl rfl rfl trivial (xmu rfl (xei rfl rfl (xei rfl rfl (xai rfl (xai rfl (dA (xf 0 zat rfl ?_))))))))
 refine xL6 1 zad rfl rfl (xmi rfl (TL.callD [0] [0] (zcr hM hl h7) ⟨rfl,rfl,rfl,trivial⟩ ⟨rfl,trivial⟩ zeb rfl rfl rfl rfl rfl trivial (xmu rfl (xei rfl rfl (xei rfl rfl (xai rfl (dA (xf 0 zat rfl ?_))))))))
 refine xL6 1 zad rfl rfl (xmi rfl (TL.callD [0] [0] (zfG hM hl) ⟨rfl,rfl,trivial⟩ ⟨rfl,trivial⟩ zhj rfl rfl rfl rfl rfl trivial (dA (xf 0 zat rfl (xL6 1 zad rfl rfl (xmi rfl (TL.callD [0] [0] (zfG hM hl) ⟨rfl,rfl,trivial⟩ ⟨rfl,trivial⟩ zhj rfl rfl rfl rfl rfl trivial (dA ?_))))))))
 refine xmi rfl (xf 0 zat rfl (xL6 1 zad rfl rfl (xmi rfl (xmi rfl (TL.callD [0] [0] (zdO hM hl h8) ⟨rfl,rfl,rfl,trivial⟩ ⟨rfl,trivial⟩ zf1 rfl rfl rfl rfl rfl trivial (xai rfl (xai rfl (dR ?_))))))))
 refine FQ.ret2 (v:=(.int _ _)) (x:=(.int _ _)) (Bs:=[A _]) [0] rfl rfl rfl rfl ⟨rfl,trivial⟩ ?_
 exact ⟨rfl,rfl⟩
 refine TL.done (TQ.then (TC.condF rfl (TC.skip (TQ.then (TC.seq (TC.draw [(0,true),(1,true),(2,true),(3,true),(4,true),(6,true),(5,false),(7,false),(8,true),(9,true),(10,true),(11,true),(12,true)] [1] fc_m (by kernel_rfl) (xf 0 zat rfl (xL6 1 zad rfl rfl ?_))))))))
 refine xf 0 zat rfl (xL6 1 zad rfl rfl (xmi rfl (xmi rfl (TL.callD [0] [0] (zeU hM hl h3) ⟨rfl,rfl,trivial⟩ ⟨rfl,trivial⟩ zhb rfl rfl rfl rfl rfl (kL1 rfl trivial) (TL.callD [0] [0] (zcr hM hl (by rw [if_neg q1] at h4; exact h4)) ⟨rfl,rfl,rfl,trivial⟩ ⟨rfl,trivial⟩ zeb rfl rfl rfl rfl rfl (kL1 rfl trivial) (xmu rfl (xei rfl rfl (xei rfl rfl ?_))))))))
 refine xai rfl (xai rfl (dA (xf 0 zat rfl (xL6 1 zad rfl rfl (xmi rfl (TL.callD [0] [0] (zcr hM hl h5) ⟨rfl,rfl,rfl,trivial⟩ ⟨rfl,trivial⟩ zeb rfl rfl rfl rfl rfl trivial (xmu rfl (xei rfl rfl ?_))))))))
 refine xei rfl rfl (xai rfl (dA (xf 0 zat rfl (xL6 1 zad rfl rfl (xmi rfl (xmi rfl (TL.callD [0] [0] (zcr hM hl (by rw [if_neg q1] at h6; exact h6)) ⟨rfl,rfl,rfl,trivial⟩ ⟨rfl,trivial⟩ zeb rfl rfl rfl rfl rfl trivial (xmu rfl ?_))))))))
 refine xei rfl rfl (xei rfl rfl (xai rfl (xai rfl (dA (xf 0 zat rfl (xL6 1 zad rfl rfl (xmi rfl (TL.callD [0] [0] (zcr hM hl h7) ⟨rfl,rfl,rfl,trivial⟩ ⟨rfl,trivial⟩ zeb rfl rfl rfl rfl rfl trivial ?_))))))))
 refine xmu rfl (xei rfl rfl (xei rfl rfl (xai rfl (dA (xf 0 zat rfl (xL6 1 zad rfl rfl (xmi rfl (TL.callD [0] [0] (zfG hM hl) ⟨rfl,rfl,trivial⟩ ⟨rfl,trivial⟩ zhj rfl rfl rfl rfl rfl trivial ?_))))))))
 refine dA (xf 0 zat rfl (xL6 1 zad rfl rfl (xmi rfl (TL.callD [0] [0] (zfG hM hl) ⟨rfl,rfl,trivial⟩ ⟨rfl,trivial⟩ zhj rfl rfl rfl rfl rfl trivial (dA (xmi rfl (xf 0 zat rfl (xL6 1 zad rfl rfl ?_))))))))
 refine xmi rfl (xmi rfl (TL.callD [0] [0] (zdO hM hl h8) ⟨rfl,rfl,rfl,trivial⟩ ⟨rfl,trivial⟩ zf1 rfl rfl rfl rfl rfl trivial (xai rfl (xai rfl (dR ?_)))))
 refine FQ.ret2 (v:=(.int _ _)) (x:=(.int _ _)) (Bs:=[A _]) [0] rfl rfl rfl rfl ⟨rfl,trivial⟩ ?_
 exact ⟨rfl,rfl⟩
theorem zp3 {b:Bool}:FnD Tryz.prog 137 [.bool b] [] (.int .u64 (bit b)) []:=by
 refine Fn.enter (Tryz.func137) rfl rfl (fun w0 R=>?_)
 refine sA (xai rfl (dB (xmb rfl (TL.cases rfl (fun q1=>?_) (fun q1=>?_)))))
 refine dT rfl (xai rfl (dRR ?_))
 refine FQ.ret1 (v:=(.int _ _)) (Bs:=[]) [] rfl rfl rfl trivial ?_
 cases b<;>first | exact ⟨rfl,rfl⟩ | (exfalso; simp at q1)
 refine dF rfl (xai rfl (dR ?_))
 refine FQ.ret1 (v:=(.int _ _)) (Bs:=[]) [] rfl rfl rfl trivial ?_
 cases b<;>first | exact ⟨rfl,rfl⟩ | (exfalso; simp at q1)
theorem zcw {S:Type} [MemLike S] {mt:TypeId} {mv:Value} {A:S→Assn} (hM:MemI Tryz.prog mt mv A) {l:Lay} (hl:l.Ok) {σ:S} {u v:Int}:FnD Tryz.prog 73 [zgh l mt mv,.int .i64 u,.int .i64 v] [A σ] (.tuple #[.int .i64 (find l σ u v).slot,.bool (find l σ u v).tree,.bool (find l σ u v).ok]) [A (zo7 l σ u v)]:=by
 refine Fn.enter (Tryz.func73) rfl rfl (fun w0 R=>?_)
 refine sA (xB 1 rfl (fun bk1=>(xai rfl (xaf rfl (xaf rfl (dS (TC.draw [(0,true),(1,true),(2,true),(3,true),(4,true),(5,true),(7,true),(8,true),(6,false),(9,false),(10,true)] [1] fc_m (by kernel_rfl) (xf 3 zbx rfl (xlc 1 zbN rfl rfl ?_)))))))))
 refine xf 0 zaL rfl (xL3 1 zaa rfl rfl (xmi rfl (xmi rfl (TL.ncI rfl rfl rfl (xmc rfl (TL.callD [] [] (ziT hl) ⟨rfl,rfl,rfl,trivial⟩ trivial ziQ rfl rfl rfl rfl rfl (kL1 rfl trivial) (TL.mload 0 hM rfl rfl rfl rfl rfl (kL1 rfl trivial) (xai rfl ?_))))))))
 refine dB (xmi rfl (TL.eql rfl rfl rfl rfl (fun q1=>?_) (fun q1=>?_)))
 refine dT rfl (xai rfl (xaf rfl (xaf rfl (dRR ?_))))
 refine FQ.ret3 (v:=(.int _ _)) (x:=(.bool false)) (y:=(.bool false)) (Bs:=[A _]) [0] rfl rfl rfl rfl rfl ⟨rfl,trivial⟩ ?_
 first | exact ⟨(by unfold find; dsimp only; rw [if_pos q1]),rfl⟩ | exact ⟨(by unfold find; dsimp only; rw [if_neg q1]; rfl),rfl⟩
 refine dF rfl (xmi rfl (TL.shr _ rfl rfl (by decide) rfl rfl rfl (TL.conv _ rfl zes zbY (rfl) rfl rfl (TL.sub _ rfl rfl (rfl) rfl rfl (xmi rfl (TL.and _ rfl rfl rfl rfl rfl (TL.eqlV rfl rfl rfl rfl (xai rfl ?_))))))))
 refine xab rfl (xat rfl (dR ?_))
 refine FQ.ret3 (v:=(.int _ _)) (x:=(.bool _)) (y:=(.bool true)) (Bs:=[A _]) [0] rfl rfl rfl rfl rfl ⟨rfl,trivial⟩ ?_
 first | exact ⟨(by unfold find; dsimp only; rw [if_pos q1]),rfl⟩ | exact ⟨(by unfold find; dsimp only; rw [if_neg q1]; rfl),rfl⟩
theorem zrq {S:Type} [MemLike S] {mt:TypeId} {mv:Value} {A:S→Assn} (hM:MemI Tryz.prog mt mv A) {l:Lay} (hl:l.Ok) {σ:S} {s u v i:Int} {t:Bool}:FnD Tryz.prog 110 [zgh l mt mv,.int .i64 s,.int .i64 u,.int .i64 v,.int .i64 i,.bool t] [A σ] (.tuple #[]) [A (eput l σ s u v i t)]:=by
 refine Fn.enter (Tryz.func110) rfl rfl (fun w0 R=>?_)
 refine sA (xB 1 rfl (fun bk1=>(dS (TC.draw [(0,true),(1,true),(2,true),(3,true),(4,true),(6,true),(7,true),(8,true),(9,true),(10,true),(11,true),(12,true),(13,true),(14,true),(15,true),(16,true),(5,false),(17,false)] [1] fc_m (by kernel_rfl) (xf 3 zbx rfl (xlc 1 zbN rfl rfl (xf 0 zaL rfl (xL3 1 zaa rfl rfl (xmi rfl ?_)))))))))
 refine xmi rfl (xmi rfl (TL.min2 rfl rfl rfl rfl (TL.shl _ rfl rfl (by decide) rfl rfl rfl (xmi rfl (xmi rfl (TL.max2 rfl rfl rfl rfl (TL.or _ rfl rfl rfl rfl rfl (TL.conv _ rfl zfA zbh (rfl) rfl rfl ?_))))))))
 refine TL.ncI rfl rfl rfl (xmc rfl (TL.callD [] [] (zn4 hl) ⟨rfl,rfl,trivial⟩ trivial znO rfl rfl rfl rfl rfl (kL1 rfl trivial) (TL.mstore 0 hM rfl rfl rfl (by first | exact zfb _ | exact zc1 _ _ | exact MemLike.rng _ _ | decide | assumption) rfl rfl rfl (kL1 rfl trivial) (dS (TC.draw [(0,true),(1,true),(2,true),(3,true),(4,true),(6,true),(7,true),(8,true),(9,true),(5,false),(10,false)] [1] fc_m (by kernel_rfl) (xf 3 zbx rfl (xlc 1 zbN rfl rfl (xf 0 zaL rfl ?_))))))))
 refine xL3 1 zaa rfl rfl (xmi rfl (xmi rfl (TL.conv _ rfl zfA zbh (rfl) rfl rfl (TL.ncI rfl rfl rfl (xmc rfl (TL.callD [] [] (ziv hl) ⟨rfl,rfl,trivial⟩ trivial zkw rfl rfl rfl rfl rfl (kL1 rfl trivial) (TL.mstore 0 hM rfl rfl rfl (by first | exact zfb _ | exact zc1 _ _ | exact MemLike.rng _ _ | decide | assumption) rfl rfl rfl (kL1 rfl trivial) (TL.done ?_))))))))
 refine TQ.then (TC.draw [(0,true),(1,true),(2,true),(3,true),(4,true),(5,true),(7,true),(8,true),(9,true),(10,true),(11,true),(14,true),(15,true),(6,false),(12,false),(13,true),(16,false)] [1] fc_m (by kernel_rfl) (xf 3 zbx rfl (xlc 1 zbN rfl rfl (xf 0 zaL rfl (xL3 1 zaa rfl rfl (xmi rfl (xmi rfl (xmi rfl ?_))))))))
 refine TL.add _ rfl rfl (rfl) rfl rfl (TL.conv _ rfl zfA zbh (rfl) rfl rfl (TL.shl _ rfl rfl (by decide) rfl rfl rfl (xmb rfl (TL.ncI rfl rfl rfl (xmc rfl (TL.callD [] [] (ziT hl) ⟨rfl,rfl,rfl,trivial⟩ trivial ziQ rfl rfl rfl rfl rfl (kL1 rfl trivial) (TL.callD [] [] zp3 ⟨rfl,trivial⟩ trivial znN rfl rfl rfl rfl rfl (kL1 rfl trivial) (TL.or _ rfl rfl rfl rfl rfl ?_))))))))
 refine TL.mstore 0 hM rfl rfl rfl (by first | exact zfb _ | exact zc1 _ _ | exact MemLike.rng _ _ | decide | assumption) rfl rfl rfl (kL1 rfl trivial) (TL.done ?_)
 refine FQ.end0 (Bs:=[A _]) [0] rfl rfl ⟨rfl,trivial⟩ ?_
 exact ⟨rfl,rfl⟩
theorem zh3 {S:Type} [MemLike S] {mt:TypeId} {mv:Value} {A:S→Assn} (hM:MemI Tryz.prog mt mv A) {l:Lay} (hl:l.Ok) {σ:S} {u v:Int}:FnD Tryz.prog 127 [zgh l mt mv,.int .i64 u,.int .i64 v] [A σ] (.tuple #[]) [A (zcP l σ u v)]:=by
 refine Fn.enter (Tryz.func127) rfl rfl (fun w0 R=>?_)
 refine sA (xB 1 rfl (fun bk1=>(TL.done (TQ.then (TC.draw [(0,true),(1,true),(2,true),(3,true),(4,true),(5,true),(7,true),(8,true),(6,false),(9,false)] [1] fc_m (by kernel_rfl) (xf 3 zbx rfl (xlc 1 zbN rfl rfl (xf 0 zaL rfl (xL3 1 zaa rfl rfl ?_)))))))))
 refine xmi rfl (xmi rfl (TL.ncI rfl rfl rfl (xmc rfl (TL.callD [] [] (ziT hl) ⟨rfl,rfl,rfl,trivial⟩ trivial ziQ rfl rfl rfl rfl rfl (kL1 rfl trivial) (TL.mstore 0 hM rfl rfl rfl (by first | exact zfb _ | exact zc1 _ _ | exact MemLike.rng _ _ | decide | assumption) rfl rfl rfl (kL1 rfl trivial) (TL.done ?_))))))
 refine FQ.end0 (Bs:=[A _]) [0] rfl rfl ⟨rfl,trivial⟩ ?_
 exact ⟨rfl,rfl⟩
theorem zle {S:Type} [MemLike S] {mt:TypeId} {mv:Value} {A:S→Assn} (hM:MemI Tryz.prog mt mv A) {l:Lay} (hl:l.Ok) {σ:S} {s:Int}:FnD Tryz.prog 153 [zgh l mt mv,.int .i64 s] [A σ] (.tuple #[.int .i64 (zlX l σ s),.int .i64 (zlW l σ s)]) [A (ziS l σ s)]:=by
 refine Fn.enter (Tryz.func153) rfl rfl (fun w0 R=>?_)
 refine sA (xB 1 rfl (fun bk1=>(xai rfl (xai rfl (dS (TC.draw [(0,true),(1,true),(2,true),(3,true),(4,true),(6,true),(7,true),(5,false),(8,false),(9,true),(10,true)] [1] fc_m (by kernel_rfl) (xf 3 zbx rfl (xlc 1 zbN rfl rfl (xf 0 zaL rfl ?_)))))))))
 refine xL3 1 zaa rfl rfl (xmi rfl (TL.ncI rfl rfl rfl (xmc rfl (TL.callD [] [] (zn4 hl) ⟨rfl,rfl,trivial⟩ trivial znO rfl rfl rfl rfl rfl (kL1 rfl trivial) (TL.mload 0 hM rfl rfl rfl rfl rfl (kL1 rfl trivial) (TL.conv _ rfl zes zbY (rfl) rfl rfl (xai rfl (dA ?_))))))))
 refine xmi rfl (TL.shr _ rfl rfl (by decide) rfl rfl rfl (xmi rfl (TL.and _ rfl rfl rfl rfl rfl (xai rfl (xai rfl (dR ?_))))))
 refine FQ.ret2 (v:=(.int _ _)) (x:=(.int _ _)) (Bs:=[A _]) [0] rfl rfl rfl rfl ⟨rfl,trivial⟩ ?_
 exact ⟨rfl,rfl⟩
theorem zex {S:Type} [MemLike S] {mt:TypeId} {mv:Value} {A:S→Assn} (hM:MemI Tryz.prog mt mv A) {l:Lay} (hl:l.Ok) {σ:S} {s:Int}:FnD Tryz.prog 125 [zgh l mt mv,.int .i64 s] [A σ] (edgV (eget l σ s)) [A (ze4 l σ s)]:=by
 refine Fn.enter (Tryz.func125) rfl rfl (fun w0 R=>?_)
 refine sA (xB 1 rfl (fun bk1=>(TL.alloc 2 (cs:=#[.int .i64 0,.int .i64 0,.int .i64 0,.bool false]) zer rfl rfl rfl (fun _=>trivial) (fun bk2=>(dA (xL4 1 zaP rfl rfl (xmi rfl (TL.callD [0] [0] (zle hM hl) ⟨rfl,rfl,trivial⟩ ⟨rfl,trivial⟩ znH rfl rfl rfl rfl rfl trivial (xmu rfl (xei rfl rfl ?_))))))))))
 refine xei rfl rfl (xai rfl (xai rfl (dA (xL4 1 zaP rfl rfl (xmi rfl (xmi rfl (TL.callD [0] [0] (zcw hM hl) ⟨rfl,rfl,rfl,trivial⟩ ⟨rfl,trivial⟩ zdv rfl rfl rfl rfl rfl trivial (xmu rfl ?_))))))))
 refine xei rfl rfl (TL.ext (.bool _) rfl rfl rfl rfl (TL.ext (.bool _) rfl rfl rfl rfl (xai rfl (xab rfl (xab rfl (dS (TC.draw [(0,true),(1,true),(2,true),(3,true),(4,true),(5,true),(6,true),(8,true),(9,true),(12,true),(7,false),(10,false),(11,true),(13,true),(14,false)] [1] fc_m (by kernel_rfl) (xmi rfl ?_))))))))
 refine xmi rfl (xf 3 zbx rfl (xlc 1 zbN rfl rfl (xf 0 zaL rfl (xL3 1 zaa rfl rfl (xmi rfl (TL.ncI rfl rfl rfl (xmc rfl (xmb rfl ?_))))))))
 refine TL.callD [] [] (ziv hl) ⟨rfl,rfl,trivial⟩ trivial zkw rfl rfl rfl rfl rfl (kL1 rfl trivial) (TL.mload 0 hM rfl rfl rfl rfl rfl (kL1 rfl trivial) (TL.conv _ rfl zes zbY (rfl) rfl rfl (TL.bld [.int .i64 0,.int .i64 0,.int .i64 0,.bool false] [(.int _ _),(.int _ _),(.int _ _),(.bool _)] [_,_,_,_] zer zqV ⟨rfl,rfl,rfl,rfl,trivial⟩ ⟨rfl,rfl⟩ rfl rfl (TL.stW 2 4 [_,_,_,_] rfl rfl rfl rfl rfl rfl zcW rfl rfl (kL1 rfl trivial) (dR ?_)))))
 refine FQ.retG (rs:=[.cell 4 183]) [(.agg _)] (Bs:=[A _]) [0] rfl ⟨⟨_,_,_,_,_,2,rfl,rfl,.inr ⟨4,[_,_,_,_],zcW,rfl,rfl⟩⟩,trivial⟩ rfl rfl ⟨rfl,trivial⟩ ?_
 exact ⟨rfl,rfl⟩
theorem zpa {S:Type} [MemLike S] {mt:TypeId} {mv:Value} {A:S→Assn} (hM:MemI Tryz.prog mt mv A) {l:Lay} (hl:l.Ok) {σ:S} {s:Int} {t:Bool}:FnD Tryz.prog 140 [zgh l mt mv,.int .i64 s,.bool t] [A σ] (.tuple #[]) [A (zhB l σ s t)]:=by
 refine Fn.enter (Tryz.func140) rfl rfl (fun w0 R=>?_)
 refine sA (xB 1 rfl (fun bk1=>(dA (xL4 1 zaP rfl rfl (xmi rfl (TL.callD [0] [0] (zle hM hl) ⟨rfl,rfl,trivial⟩ ⟨rfl,trivial⟩ znH rfl rfl rfl rfl rfl trivial (xmu rfl (xei rfl rfl (xei rfl rfl ?_)))))))))
 refine xai rfl (xai rfl (TL.done (TQ.then (TC.draw [(0,true),(1,true),(2,true),(3,true),(4,true),(5,true),(7,true),(8,true),(9,true),(10,true),(11,true),(14,true),(15,true),(6,false),(12,false),(13,true),(16,false)] [1] fc_m (by kernel_rfl) (xf 3 zbx rfl (xlc 1 zbN rfl rfl (xf 0 zaL rfl (xL3 1 zaa rfl rfl ?_))))))))
 refine xmi rfl (xmi rfl (xmi rfl (TL.add _ rfl rfl (rfl) rfl rfl (TL.conv _ rfl zfA zbh (rfl) rfl rfl (TL.shl _ rfl rfl (by decide) rfl rfl rfl (xmb rfl (TL.ncI rfl rfl rfl (xmc rfl ?_))))))))
 refine TL.callD [] [] (ziT hl) ⟨rfl,rfl,rfl,trivial⟩ trivial ziQ rfl rfl rfl rfl rfl (kL1 rfl trivial) (TL.callD [] [] zp3 ⟨rfl,trivial⟩ trivial znN rfl rfl rfl rfl rfl (kL1 rfl trivial) (TL.or _ rfl rfl rfl rfl rfl (TL.mstore 0 hM rfl rfl rfl (by first | exact zfb _ | exact zc1 _ _ | exact MemLike.rng _ _ | decide | assumption) rfl rfl rfl (kL1 rfl trivial) (TL.done ?_))))
 refine FQ.end0 (Bs:=[A _]) [0] rfl rfl ⟨rfl,trivial⟩ ?_
 exact ⟨rfl,rfl⟩
theorem zlf {S:Type} [MemLike S] {mt:TypeId} {mv:Value} {A:S→Assn} (hM:MemI Tryz.prog mt mv A) {l:Lay} (hl:l.Ok) {σ:S} {s i:Int}:FnD Tryz.prog 192 [zgh l mt mv,.int .i64 s,.int .i64 i] [A σ] (.tuple #[]) [A (zgp l σ s i)]:=by
 refine Fn.enter (Tryz.func192) rfl rfl (fun w0 R=>?_)
 refine sA (xB 1 rfl (fun bk1=>(TL.done (TQ.then (TC.draw [(0,true),(1,true),(2,true),(3,true),(4,true),(6,true),(7,true),(8,true),(9,true),(5,false),(10,false)] [1] fc_m (by kernel_rfl) (xf 3 zbx rfl (xlc 1 zbN rfl rfl (xf 0 zaL rfl (xL3 1 zaa rfl rfl ?_)))))))))
 refine xmi rfl (xmi rfl (TL.conv _ rfl zfA zbh (rfl) rfl rfl (TL.ncI rfl rfl rfl (xmc rfl (TL.callD [] [] (ziv hl) ⟨rfl,rfl,trivial⟩ trivial zkw rfl rfl rfl rfl rfl (kL1 rfl trivial) (TL.mstore 0 hM rfl rfl rfl (by first | exact zfb _ | exact zc1 _ _ | exact MemLike.rng _ _ | decide | assumption) rfl rfl rfl (kL1 rfl trivial) (TL.done ?_)))))))
 refine FQ.end0 (Bs:=[A _]) [0] rfl rfl ⟨rfl,trivial⟩ ?_
 exact ⟨rfl,rfl⟩
theorem zhy {S:Type} [MemLike S] {mt:TypeId} {mv:Value} {A:S→Assn} (hM:MemI Tryz.prog mt mv A) {l:Lay} (hl:l.Ok) {p:Pen} {σ:S} {c:Int}:FnD Tryz.prog 165 [adjV l mt mv p,.int .i64 c] [A σ] (.int .i64 (aget σ c)) [A (MemLike.ld σ c)]:=by
 refine Fn.enter (Tryz.func165) rfl rfl (fun w0 R=>?_)
 refine sA (xB 1 rfl (fun bk1=>(xai rfl (dA (xf 6 zas rfl (xf 3 zbx rfl (xlc 1 zbN rfl rfl (xmi rfl (TL.mload 0 hM rfl rfl rfl rfl rfl trivial ?_)))))))))
 refine TL.conv _ rfl zes zbY (rfl) rfl rfl (xai rfl (dR ?_))
 refine FQ.ret1 (v:=(.int _ _)) (Bs:=[A _]) [0] rfl rfl rfl ⟨rfl,trivial⟩ ?_
 exact ⟨rfl,rfl⟩
theorem zef {S:Type} [MemLike S] {mt:TypeId} {mv:Value} {A:S→Assn} (hM:MemI Tryz.prog mt mv A) {l:Lay} (hl:l.Ok) {p:Pen} {σ:S} {c v:Int}:FnD Tryz.prog 166 [adjV l mt mv p,.int .i64 c,.int .i64 v] [A σ] (.tuple #[]) [A (MemLike.st σ c (IntKind.u64.wrap v))]:=by
 refine Fn.enter (Tryz.func166) rfl rfl (fun w0 R=>?_)
 refine sA (xB 1 rfl (fun bk1=>(dG (xf 6 zas rfl (xf 3 zbx rfl (xlc 1 zbN rfl rfl (xmi rfl (xmi rfl (TL.conv _ rfl zfA zbh (rfl) rfl rfl ?_)))))))))
 refine TL.mstore 0 hM rfl rfl rfl (by first | exact zfb _ | exact zc1 _ _ | exact MemLike.rng _ _ | decide | assumption) rfl rfl rfl trivial (TL.done ?_)
 refine FQ.end0 (Bs:=[A _]) [0] rfl rfl ⟨rfl,trivial⟩ ?_
 exact ⟨rfl,rfl⟩
theorem zic {s d:Int}:FnD Tryz.prog 139 [.int .i64 s,.int .i64 d] [] (.int .i64 (side s d)) []:=by
 refine Fn.enter (Tryz.func139) rfl rfl (fun w0 R=>?_)
 refine sA (xai rfl (dA (xmi rfl (TL.mul _ rfl rfl (rfl) rfl rfl (xmi rfl (TL.add _ rfl rfl (rfl) rfl rfl (TL.add _ rfl rfl (rfl) rfl rfl (xai rfl ?_))))))))
 refine dR ?_
 refine FQ.ret1 (v:=(.int _ _)) (Bs:=[]) [] rfl rfl rfl trivial ?_
 exact ⟨rfl,rfl⟩
theorem ziX {mt:TypeId} {mv:Value} {l:Lay} (hl:l.Ok) {p:Pen} {x:Int}:FnD Tryz.prog 167 [adjV l mt mv p,.int .i64 x] [] (.int .i64 (zbf l x)) []:=by
 refine Fn.enter (Tryz.func167) rfl rfl (fun w0 R=>?_)
 refine sA (xB 0 rfl (fun bk0=>(xai rfl (dA (xf 6 zas rfl (xf 0 zaL rfl (xL3 0 zaa rfl rfl (xmi rfl (TL.sub _ rfl rfl (rfl) rfl rfl ?_)))))))))
 refine TL.quo _ rfl rfl (by omega) (quo2 _) rfl rfl (xmi rfl (TL.sub _ rfl rfl (rfl) rfl rfl (TL.rem _ rfl rfl (by omega) (rfl) rfl rfl (TL.callD [] [] (zqz hl) ⟨rfl,rfl,rfl,trivial⟩ trivial zq7 rfl rfl rfl rfl rfl trivial (xai rfl (dR ?_))))))
 refine FQ.ret1 (v:=(.int _ _)) (Bs:=[]) [] rfl rfl rfl trivial ?_
 exact ⟨rfl,rfl⟩
theorem zfF {mt:TypeId} {mv:Value} {l:Lay} (hl:l.Ok) {p:Pen} {x:Int}:FnD Tryz.prog 168 [adjV l mt mv p,.int .i64 x] [] (.int .i64 (zaZ l x)) []:=by
 refine Fn.enter (Tryz.func168) rfl rfl (fun w0 R=>?_)
 refine sA (xB 0 rfl (fun bk0=>(xai rfl (dA (xf 6 zas rfl (xf 0 zaL rfl (xL3 0 zaa rfl rfl (xmi rfl (TL.sub _ rfl rfl (rfl) rfl rfl ?_)))))))))
 refine TL.quo _ rfl rfl (by omega) (quo2 _) rfl rfl (xmi rfl (TL.sub _ rfl rfl (rfl) rfl rfl (TL.rem _ rfl rfl (by omega) (rfl) rfl rfl (TL.callD [] [] (zqo hl) ⟨rfl,rfl,rfl,trivial⟩ trivial zq6 rfl rfl rfl rfl rfl trivial (xai rfl (dR ?_))))))
 refine FQ.ret1 (v:=(.int _ _)) (Bs:=[]) [] rfl rfl rfl trivial ?_
 exact ⟨rfl,rfl⟩
theorem zeG {S:Type} [MemLike S] {mt:TypeId} {mv:Value} {A:S→Assn} (hM:MemI Tryz.prog mt mv A) {l:Lay} (hl:l.Ok) {p:Pen} {σ:S} {v i:Int} {k:Nat} {σ2:S} (h:zhv l k σ v i=some σ2):FnD Tryz.prog 169 [adjV l mt mv p,.int .i64 v,.int .i64 i] [A σ] (.tuple #[]) [A σ2]:=by
 unfold zhv at h
 dsimp only at h
 refine Fn.enter (Tryz.func169) rfl rfl (fun w0 R=>?_)
 refine sA (xB 1 rfl (fun bk1=>(dA (xf 6 zas rfl (xf 0 zaL rfl (xL3 1 zaa rfl rfl (xmi rfl (xmi rfl (TL.callD [] [] (zcT hl) ⟨rfl,rfl,rfl,trivial⟩ trivial zgg rfl rfl rfl rfl rfl trivial ?_)))))))))
 refine xai rfl (dS (TC.draw [(0,true),(1,true),(2,true),(3,true),(4,true),(5,true),(6,false),(7,false),(8,true),(9,true)] [1] fc_m (by kernel_rfl) (xL10 1 zax rfl rfl (xf 6 zas rfl (xf 0 zaL rfl (xL3 1 zaa rfl rfl (xmi rfl (xmi rfl ?_))))))))
 refine TL.callD [] [] (ziA hl) ⟨rfl,rfl,rfl,trivial⟩ trivial ziK rfl rfl rfl rfl rfl (kL1 rfl trivial) (TL.callD [0] [0] (zhy hM hl) ⟨rfl,rfl,trivial⟩ ⟨rfl,trivial⟩ zhg rfl rfl rfl rfl rfl (kL1 rfl trivial) (TL.neqV rfl rfl rfl rfl (xab rfl (dA (xmb rfl (xf 0 zbp rfl (xf 0 zat rfl (xL6 1 zad rfl rfl ?_))))))))
 refine xmi rfl (TL.callD [0] [0] (zji hM hl (by decide)) ⟨rfl,rfl,rfl,trivial⟩ ⟨rfl,trivial⟩ znA rfl rfl rfl rfl rfl trivial (TL.neqB rfl rfl zsp rfl rfl (TL.cases rfl (fun q1=>?_) (fun q1=>?_))))
 refine TL.done (TQ.then (TC.condT rfl (TC.region (xf 0 zbp rfl (xf 0 zat rfl (xL6 1 zad rfl rfl (xmi rfl (xmb rfl ?_))))))))
 refine TL.callD [0] [0] (zmU hM hl (by decide) (by rw [if_pos (by simpa using q1)] at h; exact h)) ⟨rfl,rfl,rfl,rfl,trivial⟩ ⟨rfl,trivial⟩ znC rfl rfl rfl rfl rfl trivial (TL.done ?_)
 refine FQ.end0 (Bs:=[A _]) [0] rfl rfl ⟨rfl,trivial⟩ ?_
 exact ⟨rfl,rfl⟩
 refine TL.done (TQ.then (TC.condF rfl (TC.skip ?_)))
 refine FQ.end0 (Bs:=[A _]) [0] rfl rfl ⟨rfl,trivial⟩ ?_
 rw [if_neg (fun hc=>by revert q1 hc; cases zhM l (MemLike.ld σ (l.head v i)) (l.vertex i v) 0<;>simp<;>omega)] at h; cases h; exact ⟨rfl,rfl⟩
theorem zmB {S:Type} [MemLike S] {mt:TypeId} {mv:Value} {A:S→Assn} (hM:MemI Tryz.prog mt mv A) {l:Lay} (hl:l.Ok) {p:Pen} {σ:S} {x v i:Int} {k:Nat} {σ2:S} (h:push l k σ x v i=some σ2):FnD Tryz.prog 138 [adjV l mt mv p,.int .i64 x,.int .i64 v,.int .i64 i] [A σ] (.tuple #[]) [A σ2]:=by
 unfold push at h
 dsimp only at h
 refine Fn.enter (Tryz.func138) rfl rfl (fun w0 R=>?_)
 refine sA (xB 1 rfl (fun bk1=>(dA (xf 6 zas rfl (xf 0 zaL rfl (xL3 1 zaa rfl rfl (xmi rfl (xmi rfl (TL.callD [] [] (ziA hl) ⟨rfl,rfl,rfl,trivial⟩ trivial ziK rfl rfl rfl rfl rfl trivial ?_)))))))))
 refine xai rfl (dA (xL10 1 zax rfl rfl (xmi rfl (TL.callD [0] [0] (zhy hM hl) ⟨rfl,rfl,trivial⟩ ⟨rfl,trivial⟩ zhg rfl rfl rfl rfl rfl trivial (xai rfl (dS (TC.draw [(0,true),(1,true),(2,true),(4,true),(3,false),(5,false)] [1] fc_m (by kernel_rfl) (xL10 1 zax rfl rfl ?_))))))))
 refine xL10 1 zax rfl rfl (xmi rfl (xmi rfl (TL.callD [] [] (ziX hl) ⟨rfl,rfl,trivial⟩ trivial zkt rfl rfl rfl rfl rfl (kL1 rfl trivial) (TL.callD [0] [0] (zef hM hl) ⟨rfl,rfl,rfl,trivial⟩ ⟨rfl,trivial⟩ zec rfl rfl rfl rfl rfl (kL1 rfl trivial) (dS (TC.draw [(0,true),(1,true),(2,true),(3,false),(4,false)] [1] fc_m (by kernel_rfl) (xL10 1 zax rfl rfl (xL10 1 zax rfl rfl ?_))))))))
 refine xmi rfl (TL.callD [] [] (zfF hl) ⟨rfl,rfl,trivial⟩ trivial zhf rfl rfl rfl rfl rfl (kL1 rfl trivial) (TL.callD [0] [0] (zef hM hl) ⟨rfl,rfl,rfl,trivial⟩ ⟨rfl,trivial⟩ zec rfl rfl rfl rfl rfl (kL1 rfl trivial) (dB (xmi rfl (TL.neq rfl rfl rfl rfl (fun q1=>?_) (fun q1=>?_))))))
 refine TL.done (TQ.then (TC.condT rfl (TC.draw [(0,true),(1,true),(2,true),(4,true),(3,false),(5,false)] [1] fc_m (by kernel_rfl) (xL10 1 zax rfl rfl (xL10 1 zax rfl rfl (xmi rfl (xmi rfl (TL.callD [] [] (zfF hl) ⟨rfl,rfl,trivial⟩ trivial zhf rfl rfl rfl rfl rfl (kL1 rfl trivial) ?_))))))))
 refine TL.callD [0] [0] (zef hM hl) ⟨rfl,rfl,rfl,trivial⟩ ⟨rfl,trivial⟩ zec rfl rfl rfl rfl rfl (kL1 rfl trivial) (dA (xL10 1 zax rfl rfl (xmi rfl (xmi rfl (TL.callD [0] [0] (zef hM hl) ⟨rfl,rfl,rfl,trivial⟩ ⟨rfl,trivial⟩ zec rfl rfl rfl rfl rfl trivial (dG (xL10 1 zax rfl rfl (xmi rfl ?_))))))))
 refine xmi rfl (TL.callD [0] [0] (zeG hM hl (by rw [if_pos q1] at h; exact h)) ⟨rfl,rfl,rfl,trivial⟩ ⟨rfl,trivial⟩ zf2 rfl rfl rfl rfl rfl trivial (TL.done ?_))
 refine FQ.end0 (Bs:=[A _]) [0] rfl rfl ⟨rfl,trivial⟩ ?_
 exact ⟨rfl,rfl⟩
 refine dF rfl (xL10 1 zax rfl rfl (xmi rfl (xmi rfl (TL.callD [0] [0] (zef hM hl) ⟨rfl,rfl,rfl,trivial⟩ ⟨rfl,trivial⟩ zec rfl rfl rfl rfl rfl trivial (dG (xL10 1 zax rfl rfl (xmi rfl (xmi rfl ?_))))))))
 refine TL.callD [0] [0] (zeG hM hl (by rw [if_neg q1] at h; exact h)) ⟨rfl,rfl,rfl,trivial⟩ ⟨rfl,trivial⟩ zf2 rfl rfl rfl rfl rfl trivial (TL.done ?_)
 refine FQ.end0 (Bs:=[A _]) [0] rfl rfl ⟨rfl,trivial⟩ ?_
 exact ⟨rfl,rfl⟩
theorem zmE {S:Type} [MemLike S] {mt:TypeId} {mv:Value} {A:S→Assn} (hM:MemI Tryz.prog mt mv A) {l:Lay} (hl:l.Ok) {p:Pen} {σ:S} {x v i:Int} {k:Nat} {σ2:S} (h:pull l k σ x v i=some σ2):FnD Tryz.prog 154 [adjV l mt mv p,.int .i64 x,.int .i64 v,.int .i64 i] [A σ] (.tuple #[]) [A σ2]:=by
 unfold pull at h
 dsimp only at h
 refine Fn.enter (Tryz.func154) rfl rfl (fun w0 R=>?_)
 refine sA (xB 1 rfl (fun bk1=>(dS (TC.draw [(0,true),(1,true),(2,true),(5,true),(6,true),(7,true),(3,false),(4,false),(8,false),(9,false),(10,true),(11,true)] [1] fc_m (by kernel_rfl) (xL10 1 zax rfl rfl (xL10 1 zax rfl rfl (xmi rfl (xL10 1 zax rfl rfl (xL10 1 zax rfl rfl ?_)))))))))
 refine xmi rfl (TL.callD [] [] (zfF hl) ⟨rfl,rfl,trivial⟩ trivial zhf rfl rfl rfl rfl rfl (kL1 rfl trivial) (TL.callD [0] [0] (zhy hM hl) ⟨rfl,rfl,trivial⟩ ⟨rfl,trivial⟩ zhg rfl rfl rfl rfl rfl (kL1 rfl trivial) (TL.callD [] [] (ziX hl) ⟨rfl,rfl,trivial⟩ trivial zkt rfl rfl rfl rfl rfl (kL1 rfl trivial) (TL.callD [0] [0] (zhy hM hl) ⟨rfl,rfl,trivial⟩ ⟨rfl,trivial⟩ zhg rfl rfl rfl rfl rfl (kL1 rfl trivial) (xai rfl (xai rfl (dB (xmi rfl ?_))))))))
 refine TL.eql rfl rfl rfl rfl (fun q1=>?_) (fun q1=>?_)
 refine TL.done (TQ.then (TC.condT rfl (TC.draw [(0,true),(1,true),(2,true),(3,true),(4,true),(5,true),(7,true),(6,false),(8,false)] [1] fc_m (by kernel_rfl) (xL10 1 zax rfl rfl (xf 6 zas rfl (xf 0 zaL rfl (xL3 1 zaa rfl rfl (xmi rfl ?_))))))))
 refine xmi rfl (xmi rfl (TL.callD [] [] (ziA hl) ⟨rfl,rfl,rfl,trivial⟩ trivial ziK rfl rfl rfl rfl rfl (kL1 rfl trivial) (TL.callD [0] [0] (zef hM hl) ⟨rfl,rfl,rfl,trivial⟩ ⟨rfl,trivial⟩ zec rfl rfl rfl rfl rfl (kL1 rfl trivial) (dB (xmi rfl (TL.neq rfl rfl rfl rfl (fun q2=>?_) (fun q2=>?_)))))))
 refine TL.done (TQ.then (TC.condT rfl (TC.draw [(0,true),(1,true),(2,true),(4,true),(3,false),(5,false)] [1] fc_m (by kernel_rfl) (xL10 1 zax rfl rfl (xL10 1 zax rfl rfl (xmi rfl (xmi rfl (TL.callD [] [] (zfF hl) ⟨rfl,rfl,trivial⟩ trivial zhf rfl rfl rfl rfl rfl (kL1 rfl trivial) ?_))))))))
 refine TL.callD [0] [0] (zef hM hl) ⟨rfl,rfl,rfl,trivial⟩ ⟨rfl,trivial⟩ zec rfl rfl rfl rfl rfl (kL1 rfl trivial) (dG (xL10 1 zax rfl rfl (xmi rfl (xmi rfl (TL.callD [0] [0] (zeG hM hl (by rw [if_pos q1,if_pos q2] at h; exact h)) ⟨rfl,rfl,rfl,trivial⟩ ⟨rfl,trivial⟩ zf2 rfl rfl rfl rfl rfl trivial (TL.done ?_))))))
 refine FQ.end0 (Bs:=[A _]) [0] rfl rfl ⟨rfl,trivial⟩ ?_
 exact ⟨rfl,rfl⟩
 refine TL.done (TQ.then (TC.condF rfl (TC.skip (TQ.then (TC.region (xL10 1 zax rfl rfl (xmi rfl (xmi rfl ?_))))))))
 refine TL.callD [0] [0] (zeG hM hl (by rw [if_pos q1,if_neg q2] at h; exact h)) ⟨rfl,rfl,rfl,trivial⟩ ⟨rfl,trivial⟩ zf2 rfl rfl rfl rfl rfl trivial (TL.done ?_)
 refine FQ.end0 (Bs:=[A _]) [0] rfl rfl ⟨rfl,trivial⟩ ?_
 exact ⟨rfl,rfl⟩
 refine TL.done (TQ.then (TC.condF rfl (TC.draw [(0,true),(1,true),(2,true),(4,true),(3,false),(5,false)] [1] fc_m (by kernel_rfl) (xL10 1 zax rfl rfl (xL10 1 zax rfl rfl (xmi rfl (xmi rfl (TL.callD [] [] (ziX hl) ⟨rfl,rfl,trivial⟩ trivial zkt rfl rfl rfl rfl rfl (kL1 rfl trivial) ?_))))))))
 refine TL.callD [0] [0] (zef hM hl) ⟨rfl,rfl,rfl,trivial⟩ ⟨rfl,trivial⟩ zec rfl rfl rfl rfl rfl (kL1 rfl trivial) (dB (xmi rfl (TL.neq rfl rfl rfl rfl (fun q2=>?_) (fun q2=>?_))))
 refine TL.done (TQ.then (TC.condT rfl (TC.draw [(0,true),(1,true),(2,true),(4,true),(3,false),(5,false)] [1] fc_m (by kernel_rfl) (xL10 1 zax rfl rfl (xL10 1 zax rfl rfl (xmi rfl (xmi rfl (TL.callD [] [] (zfF hl) ⟨rfl,rfl,trivial⟩ trivial zhf rfl rfl rfl rfl rfl (kL1 rfl trivial) ?_))))))))
 refine TL.callD [0] [0] (zef hM hl) ⟨rfl,rfl,rfl,trivial⟩ ⟨rfl,trivial⟩ zec rfl rfl rfl rfl rfl (kL1 rfl trivial) (dG (xL10 1 zax rfl rfl (xmi rfl (xmi rfl (TL.callD [0] [0] (zeG hM hl (by rw [if_neg q1,if_pos q2] at h; exact h)) ⟨rfl,rfl,rfl,trivial⟩ ⟨rfl,trivial⟩ zf2 rfl rfl rfl rfl rfl trivial (TL.done ?_))))))
 refine FQ.end0 (Bs:=[A _]) [0] rfl rfl ⟨rfl,trivial⟩ ?_
 exact ⟨rfl,rfl⟩
 refine TL.done (TQ.then (TC.condF rfl (TC.skip (TQ.then (TC.region (xL10 1 zax rfl rfl (xmi rfl (xmi rfl ?_))))))))
 refine TL.callD [0] [0] (zeG hM hl (by rw [if_neg q1,if_neg q2] at h; exact h)) ⟨rfl,rfl,rfl,trivial⟩ ⟨rfl,trivial⟩ zf2 rfl rfl rfl rfl rfl trivial (TL.done ?_)
 refine FQ.end0 (Bs:=[A _]) [0] rfl rfl ⟨rfl,trivial⟩ ?_
 exact ⟨rfl,rfl⟩
theorem zjD {S:Type} [MemLike S] {mt:TypeId} {mv:Value} {A:S→Assn} (hM:MemI Tryz.prog mt mv A) {l:Lay} (hl:l.Ok) {p:Pen} {σ:S} {s:Int} {k:Nat} {σ2:S} (h:add l k σ s=some σ2):FnD Tryz.prog 111 [adjV l mt mv p,.int .i64 s] [A σ] (.tuple #[]) [A σ2]:=by
 unfold add at h
 dsimp only at h
 obtain ⟨σ1,h1,h2⟩:=Option.bind_eq_some_iff.1 h
 refine Fn.enter (Tryz.func111) rfl rfl (fun w0 R=>?_)
 refine sA (xB 1 rfl (fun bk1=>(dA (xf 6 zas rfl (xL4 1 zaP rfl rfl (xmi rfl (TL.callD [0] [0] (zex hM hl) ⟨rfl,rfl,trivial⟩ ⟨rfl,trivial⟩ zeu rfl rfl rfl rfl rfl trivial (TL.alloc 2 (cs:=#[.int .i64 0,.int .i64 0,.int .i64 0,.bool false]) zer rfl rfl rfl (fun _=>trivial) (fun bk2=>(TL.stW 2 4 [_,_,_,_] rfl rfl rfl rfl rfl rfl zcW rfl rfl trivial ?_))))))))))
 refine dS (TC.draw [(0,true),(1,true),(3,true),(4,true),(5,true),(6,true),(2,false),(7,false)] [1,2] fc_m (by kernel_rfl) (xL10 1 zax rfl rfl (xmi rfl (xf 0 zb0 rfl (xli 2 zac rfl rfl (xf 2 zbk rfl (xli 2 zac rfl rfl (TL.callD [] [] zic ⟨rfl,rfl,trivial⟩ trivial ziN rfl rfl rfl rfl rfl (kL2 rfl rfl trivial) ?_))))))))
 refine TL.callD [0] [0] (zmB hM hl h1) ⟨rfl,rfl,rfl,rfl,trivial⟩ ⟨rfl,trivial⟩ znM rfl rfl rfl rfl rfl (kL2 rfl rfl trivial) (TL.done (TQ.then (TC.draw [(0,true),(1,true),(3,true),(4,true),(5,true),(6,true),(2,false),(7,false)] [1,2] fc_m (by kernel_rfl) (xL10 1 zax rfl rfl (xmi rfl (xf 1 zbZ rfl (xli 2 zac rfl rfl (xf 2 zbk rfl ?_))))))))
 refine xli 2 zac rfl rfl (TL.callD [] [] zic ⟨rfl,rfl,trivial⟩ trivial ziN rfl rfl rfl rfl rfl (kL2 rfl rfl trivial) (TL.callD [0] [0] (zmB hM hl h2) ⟨rfl,rfl,rfl,rfl,trivial⟩ ⟨rfl,trivial⟩ znM rfl rfl rfl rfl rfl (kL2 rfl rfl trivial) (TL.done ?_)))
 refine FQ.end0 (Bs:=[A _]) [0] rfl rfl ⟨rfl,trivial⟩ ?_
 exact ⟨rfl,rfl⟩
theorem zht {S:Type} [MemLike S] {mt:TypeId} {mv:Value} {A:S→Assn} (hM:MemI Tryz.prog mt mv A) {l:Lay} (hl:l.Ok) {p:Pen} {σ:S} {s:Int} {k:Nat} {σ2:S} (h:remove l k σ s=some σ2):FnD Tryz.prog 126 [adjV l mt mv p,.int .i64 s] [A σ] (.tuple #[]) [A σ2]:=by
 unfold remove at h
 dsimp only at h
 obtain ⟨σ1,h1,h2⟩:=Option.bind_eq_some_iff.1 h
 refine Fn.enter (Tryz.func126) rfl rfl (fun w0 R=>?_)
 refine sA (xB 1 rfl (fun bk1=>(dA (xf 6 zas rfl (xL4 1 zaP rfl rfl (xmi rfl (TL.callD [0] [0] (zex hM hl) ⟨rfl,rfl,trivial⟩ ⟨rfl,trivial⟩ zeu rfl rfl rfl rfl rfl trivial (TL.alloc 2 (cs:=#[.int .i64 0,.int .i64 0,.int .i64 0,.bool false]) zer rfl rfl rfl (fun _=>trivial) (fun bk2=>(TL.stW 2 4 [_,_,_,_] rfl rfl rfl rfl rfl rfl zcW rfl rfl trivial ?_))))))))))
 refine dS (TC.draw [(0,true),(1,true),(3,true),(4,true),(5,true),(6,true),(2,false),(7,false)] [1,2] fc_m (by kernel_rfl) (xL10 1 zax rfl rfl (xmi rfl (xf 0 zb0 rfl (xli 2 zac rfl rfl (xf 2 zbk rfl (xli 2 zac rfl rfl (TL.callD [] [] zic ⟨rfl,rfl,trivial⟩ trivial ziN rfl rfl rfl rfl rfl (kL2 rfl rfl trivial) ?_))))))))
 refine TL.callD [0] [0] (zmE hM hl h1) ⟨rfl,rfl,rfl,rfl,trivial⟩ ⟨rfl,trivial⟩ znG rfl rfl rfl rfl rfl (kL2 rfl rfl trivial) (TL.done (TQ.then (TC.draw [(0,true),(1,true),(3,true),(4,true),(5,true),(6,true),(2,false),(7,false)] [1,2] fc_m (by kernel_rfl) (xL10 1 zax rfl rfl (xmi rfl (xf 1 zbZ rfl (xli 2 zac rfl rfl (xf 2 zbk rfl ?_))))))))
 refine xli 2 zac rfl rfl (TL.callD [] [] zic ⟨rfl,rfl,trivial⟩ trivial ziN rfl rfl rfl rfl rfl (kL2 rfl rfl trivial) (TL.callD [0] [0] (zmE hM hl h2) ⟨rfl,rfl,rfl,rfl,trivial⟩ ⟨rfl,trivial⟩ znG rfl rfl rfl rfl rfl (kL2 rfl rfl trivial) (TL.done ?_)))
 refine FQ.end0 (Bs:=[A _]) [0] rfl rfl ⟨rfl,trivial⟩ ?_
 exact ⟨rfl,rfl⟩
theorem zot {S:Type} [MemLike S] {mt:TypeId} {mv:Value} {A:S→Assn} (hM:MemI Tryz.prog mt mv A) {l:Lay} (hl:l.Ok) {p:Pen} {σ:S} {v i:Int}:FnD Tryz.prog 180 [adjV l mt mv p,.int .i64 v,.int .i64 i] [A σ] (.tuple #[.int .i64 (zfI l σ v i).1,.bool (zfI l σ v i).2]) [A (zkC l σ v i)]:=by
 refine Fn.enter (Tryz.func180) rfl rfl (fun w0 R=>?_)
 refine sA (xB 1 rfl (fun bk1=>(xai rfl (xaf rfl (dS (TC.draw [(0,true),(1,true),(2,true),(3,true),(4,true),(5,true),(6,false),(7,false),(8,true)] [1] fc_m (by kernel_rfl) (xL10 1 zax rfl rfl (xf 6 zas rfl (xf 0 zaL rfl ?_)))))))))
 refine xL3 1 zaa rfl rfl (xmi rfl (xmi rfl (TL.callD [] [] (ziA hl) ⟨rfl,rfl,rfl,trivial⟩ trivial ziK rfl rfl rfl rfl rfl (kL1 rfl trivial) (TL.callD [0] [0] (zhy hM hl) ⟨rfl,rfl,trivial⟩ ⟨rfl,trivial⟩ zhg rfl rfl rfl rfl rfl (kL1 rfl trivial) (xai rfl (dB (xmi rfl (TL.eql rfl rfl rfl rfl (fun q1=>?_) (fun q1=>?_)))))))))
 refine dT rfl (xai rfl (xaf rfl (dRR ?_)))
 refine FQ.ret2 (v:=(.int _ _)) (x:=(.bool false)) (Bs:=[A _]) [0] rfl rfl rfl rfl ⟨rfl,trivial⟩ ?_
 first | exact ⟨(by unfold zfI; dsimp only; rw [if_pos q1]),rfl⟩ | exact ⟨(by unfold zfI; dsimp only; rw [if_neg q1]),rfl⟩
 refine dF rfl (xmi rfl (TL.sub _ rfl rfl (rfl) rfl rfl (TL.quo _ rfl rfl (by omega) (quo2 _) rfl rfl (xai rfl (xat rfl (dR ?_))))))
 refine FQ.ret2 (v:=(.int _ _)) (x:=(.bool true)) (Bs:=[A _]) [0] rfl rfl rfl rfl ⟨rfl,trivial⟩ ?_
 first | exact ⟨(by unfold zfI; dsimp only; rw [if_pos q1]),rfl⟩ | exact ⟨(by unfold zfI; dsimp only; rw [if_neg q1]),rfl⟩
theorem zit {S:Type} [MemLike S] {mt:TypeId} {mv:Value} {A:S→Assn} (hM:MemI Tryz.prog mt mv A) {l:Lay} (hl:l.Ok) {p:Pen} {σ:S} {s i:Int} {on:Bool} {k:Nat} {σ2:S} (h:lmark l k σ s i on=some σ2):FnD Tryz.prog 142 [adjV l mt mv p,.int .i64 s,.int .i64 i,.bool on] [A σ] (.tuple #[]) [A σ2]:=by
 unfold lmark at h
 refine Fn.enter (Tryz.func142) rfl rfl (fun w0 R=>?_)
 refine sA (xB 1 rfl (fun bk1=>(TL.done (TQ.then (TC.draw [(0,true),(1,true),(2,true),(3,true),(4,true),(5,true),(6,true),(7,true),(8,true),(9,true),(11,true),(10,false),(12,false)] [1] fc_m (by kernel_rfl) (xf 0 zan rfl (xf 0 zbp rfl (xf 0 zat rfl (xL6 1 zad rfl rfl ?_)))))))))
 refine xf 0 zan rfl (xf 6 zas rfl (xf 0 zaL rfl (xL3 1 zaa rfl rfl (xmi rfl (xmi rfl (xmb rfl (TL.callD [] [] (zop hl) ⟨rfl,rfl,rfl,rfl,trivial⟩ trivial zks rfl rfl rfl rfl rfl (kL1 rfl trivial) (TL.callD [0] [0] (zmU hM hl (by decide) h) ⟨rfl,rfl,rfl,rfl,trivial⟩ ⟨rfl,trivial⟩ znC rfl rfl rfl rfl rfl (kL1 rfl trivial) ?_))))))))
 refine TL.done ?_
 refine FQ.end0 (Bs:=[A _]) [0] rfl rfl ⟨rfl,trivial⟩ ?_
 exact ⟨rfl,rfl⟩
theorem zkP {S:Type} [MemLike S] {mt:TypeId} {mv:Value} {A:S→Assn} (hM:MemI Tryz.prog mt mv A) {l:Lay} (hl:l.Ok) {p:Pen} {σ:S} {s:Int} {k:Nat} {σ2:S} (h:plant l p k σ s=some σ2):FnD Tryz.prog 112 [adjV l mt mv p,.int .i64 s] [A σ] (.tuple #[]) [A σ2]:=by
 unfold plant at h
 dsimp only at h
 obtain ⟨σ1,h1,h2⟩:=Option.bind_eq_some_iff.1 h
 refine Fn.enter (Tryz.func112) rfl rfl (fun w0 R=>?_)
 refine sA (xB 1 rfl (fun bk1=>(dA (xf 0 zan rfl (xf 6 zas rfl (xL4 1 zaP rfl rfl (xmi rfl (TL.callD [0] [0] (zex hM hl) ⟨rfl,rfl,trivial⟩ ⟨rfl,trivial⟩ zeu rfl rfl rfl rfl rfl trivial (TL.alloc 2 (cs:=#[.int .i64 0,.int .i64 0,.int .i64 0,.bool false]) zer rfl rfl rfl (fun _=>trivial) (fun bk2=>?_))))))))))
 refine TL.stW 2 4 [_,_,_,_] rfl rfl rfl rfl rfl rfl zcW rfl rfl trivial (dA (xf 0 zan rfl (xf 6 zas rfl (xL4 1 zaP rfl rfl (xmi rfl (TL.callD [0] [0] (zpa hM hl) ⟨rfl,rfl,rfl,trivial⟩ ⟨rfl,trivial⟩ zri rfl rfl rfl rfl rfl trivial (dB (xf 2 zbk rfl ?_))))))))
 refine xli 2 zac rfl rfl (TL.add _ rfl rfl (rfl) rfl rfl (xmi rfl (dK (TC.loopK (X:=Nat×S×Int) [1,2,4,18] [1,2] (fun y=>[(19,.int .i64 y.2.2)]) (fun y=>[(0,A y.2.1)]) (fun y=>zdK l p s (eget l σ s).u (eget l σ s).v y.1 k y.2.1 y.2.2 (IntKind.i64.wrap ((eget l σ s).level+1))=some σ1) (fun y=>y.1) ((k,_,0)) h1 ⟨rfl,trivial⟩ ⟨rfl,trivial⟩ (fun y hI=>?_)))))
 obtain ⟨j,σ3,z⟩:=y
 rcases j with _ | j
 ·simp [zdK] at hI
 dsimp only at hI
 refine TC.sub (env':=[(19,_),(1,_),(2,_),(4,_),(18,_)]) (L':=[(0,_),(1,_),(2,_)]) ⟨rfl,rfl,rfl,rfl,rfl,trivial⟩ ⟨rfl,rfl,rfl,trivial⟩ (sA (TL.lss rfl rfl rfl rfl (fun q1=>?_) (fun q1=>?_)))
 refine dS (TC.condT rfl (TC.skip (TQ.then (TC.seq (TC.block (sA (xmi rfl (xai rfl ?_))))))))
 refine dG (xf 0 zan rfl (xf 0 zbp rfl (xL6 1 zb7 rfl rfl (xmi rfl (xmi rfl (xf 0 zb0 rfl (xli 2 zac rfl rfl (xf 1 zbZ rfl ?_))))))))
 refine xli 2 zac rfl rfl ?_
 rw [zdK,if_pos q1] at hI
 obtain ⟨⟨r,σ4⟩,h3,h4⟩:=Option.bind_eq_some_iff.1 hI
 refine TL.callD [0] [0] (zm2 hM hl h3) ⟨rfl,rfl,rfl,rfl,rfl,trivial⟩ ⟨rfl,trivial⟩ znL rfl rfl rfl rfl rfl trivial (dI (TL.add _ rfl rfl (rfl) rfl rfl (xmi rfl (TL.done (TQ.roundK ((j,_,_)) ⟨h4,Nat.lt_succ_self _⟩ ⟨rfl,trivial⟩ ⟨rfl,trivial⟩ (kE4 rfl rfl rfl rfl trivial) (kL2 rfl rfl trivial))))))
 refine dS (TC.condF rfl (TC.exit (TQ.thenExit (TQ.thenExit (TQ.blockHere (TQ.then (TC.region (xL10 1 zbm rfl rfl ?_))))))))
 refine xmi rfl (xf 2 zbk rfl (xli 2 zac rfl rfl ?_))
 rw [zdK,if_neg q1] at hI
 cases hI
 refine TL.callD [0] [0] (zit hM hl h2) ⟨rfl,rfl,rfl,rfl,trivial⟩ ⟨rfl,trivial⟩ zkv rfl rfl rfl rfl rfl trivial (TL.done ?_)
 refine FQ.end0 (Bs:=[A _]) [0] rfl rfl ⟨rfl,trivial⟩ ?_
 exact ⟨rfl,rfl⟩
theorem zqK {S:Type} [MemLike S] {mt:TypeId} {mv:Value} {A:S→Assn} (hM:MemI Tryz.prog mt mv A) {l:Lay} (hl:l.Ok) {p:Pen} {σ:S} {s:Int} {k:Nat} {σ2:S} (h:fell l p k σ s=some σ2):FnD Tryz.prog 128 [adjV l mt mv p,.int .i64 s] [A σ] (.tuple #[]) [A σ2]:=by
 unfold fell at h
 refine Fn.enter (Tryz.func128) rfl rfl (fun w0 R=>?_)
 refine sA (xB 1 rfl (fun bk1=>(dA (xf 0 zan rfl (xf 6 zas rfl (xL4 1 zaP rfl rfl (xmi rfl (TL.callD [0] [0] (zex hM hl) ⟨rfl,rfl,trivial⟩ ⟨rfl,trivial⟩ zeu rfl rfl rfl rfl rfl trivial (TL.fv 2 3 (.int _ _) rfl zfD zac rfl rfl rfl ?_)))))))))
 refine TL.add _ rfl rfl (rfl) rfl rfl (xmi rfl (dK (TC.loopK (X:=Nat×S×Int) [1,2,11] [1] (fun y=>[(12,.int .i64 y.2.2)]) (fun y=>[(0,A y.2.1)]) (fun y=>zgo l p s y.1 k y.2.1 y.2.2 (IntKind.i64.wrap ((eget l σ s).level+1))=some σ2) (fun y=>y.1) ((k,_,0)) h ⟨rfl,trivial⟩ ⟨rfl,trivial⟩ (fun y hI=>?_))))
 obtain ⟨j,σ3,z⟩:=y
 rcases j with _ | j
 ·simp [zgo] at hI
 dsimp only at hI
 refine TC.sub (env':=[(12,_),(1,_),(2,_),(11,_)]) (L':=[(0,_),(1,_)]) ⟨rfl,rfl,rfl,rfl,trivial⟩ ⟨rfl,rfl,trivial⟩ (sA (TL.lss rfl rfl rfl rfl (fun q1=>?_) (fun q1=>?_)))
 refine dS (TC.condT rfl (TC.skip (TQ.then (TC.seq (TC.block (sA (xmi rfl (xai rfl ?_))))))))
 refine dG (xf 0 zan rfl (xf 0 zbp rfl (xL6 1 zb7 rfl rfl (xmi rfl (xmi rfl ?_)))))
 rw [zgo,if_pos q1] at hI
 obtain ⟨⟨r,σ4⟩,h3,h4⟩:=Option.bind_eq_some_iff.1 hI
 refine TL.callD [0] [0] (zss hM hl h3) ⟨rfl,rfl,rfl,trivial⟩ ⟨rfl,trivial⟩ zrg rfl rfl rfl rfl rfl trivial (dI (TL.add _ rfl rfl (rfl) rfl rfl (xmi rfl (TL.done (TQ.roundK ((j,_,_)) ⟨h4,Nat.lt_succ_self _⟩ ⟨rfl,trivial⟩ ⟨rfl,trivial⟩ (kE3 rfl rfl rfl trivial) (kL1 rfl trivial))))))
 refine dS (TC.condF rfl (TC.exit (TQ.thenExit (TQ.thenExit (TQ.blockHere ?_)))))
 refine FQ.end0 (Bs:=[A _]) [0] rfl rfl ⟨rfl,trivial⟩ ?_
 rw [zgo,if_neg q1] at hI; cases hI; exact ⟨rfl,rfl⟩
theorem zme {S:Type} [MemLike S] {mt:TypeId} {mv:Value} {A:S→Assn} (hM:MemI Tryz.prog mt mv A) {l:Lay} (hl:l.Ok) {p:Pen} {σ:S} {s:Int} {k:Nat} {σ2:S} (h:treeUp l p k σ s=some σ2):FnD Tryz.prog 179 [adjV l mt mv p,.int .i64 s] [A σ] (.tuple #[]) [A σ2]:=by
 unfold treeUp at h
 dsimp only at h
 obtain ⟨σ1,h1,h⟩:=Option.bind_eq_some_iff.1 h
 obtain ⟨⟨r,σ3⟩,h2,h3⟩:=Option.bind_eq_some_iff.1 h
 dsimp only at h3
 refine Fn.enter (Tryz.func179) rfl rfl (fun w0 R=>?_)
 refine sA (xB 1 rfl (fun bk1=>(dA (xf 0 zan rfl (xf 6 zas rfl (xL4 1 zaP rfl rfl (xmi rfl (TL.callD [0] [0] (zex hM hl) ⟨rfl,rfl,trivial⟩ ⟨rfl,trivial⟩ zeu rfl rfl rfl rfl rfl trivial (TL.alloc 2 (cs:=#[.int .i64 0,.int .i64 0,.int .i64 0,.bool false]) zer rfl rfl rfl (fun _=>trivial) (fun bk2=>?_))))))))))
 refine TL.stW 2 4 [_,_,_,_] rfl rfl rfl rfl rfl rfl zcW rfl rfl trivial (dA (xL10 1 zbm rfl rfl (xmi rfl (xf 2 zbk rfl (xli 2 zac rfl rfl (TL.callD [0] [0] (zit hM hl h1) ⟨rfl,rfl,rfl,rfl,trivial⟩ ⟨rfl,trivial⟩ zkv rfl rfl rfl rfl rfl trivial (dA (xf 0 zan rfl ?_))))))))
 refine xf 6 zas rfl (xL4 1 zaP rfl rfl (xmi rfl (xf 2 zbk rfl (xli 2 zac rfl rfl (TL.add _ rfl rfl (rfl) rfl rfl (TL.callD [0] [0] (zlf hM hl) ⟨rfl,rfl,rfl,trivial⟩ ⟨rfl,trivial⟩ znz rfl rfl rfl rfl rfl trivial (dA (xf 0 zan rfl ?_))))))))
 refine xf 0 zbp rfl (xL6 1 zb7 rfl rfl (xf 2 zbk rfl (xli 2 zac rfl rfl (TL.add _ rfl rfl (rfl) rfl rfl (xmi rfl (xf 0 zb0 rfl (xli 2 zac rfl rfl (xf 1 zbZ rfl ?_))))))))
 refine xli 2 zac rfl rfl (TL.callD [0] [0] (zm2 hM hl h2) ⟨rfl,rfl,rfl,rfl,rfl,trivial⟩ ⟨rfl,trivial⟩ znL rfl rfl rfl rfl rfl trivial (dG (xL10 1 zbm rfl rfl (xmi rfl (xf 2 zbk rfl (xli 2 zac rfl rfl (TL.add _ rfl rfl (rfl) rfl rfl (TL.callD [0] [0] (zit hM hl h3) ⟨rfl,rfl,rfl,rfl,trivial⟩ ⟨rfl,trivial⟩ zkv rfl rfl rfl rfl rfl trivial ?_))))))))
 refine TL.done ?_
 refine FQ.end0 (Bs:=[A _]) [0] rfl rfl ⟨rfl,trivial⟩ ?_
 exact ⟨rfl,rfl⟩
theorem zoS {S:Type} [MemLike S] {mt:TypeId} {mv:Value} {A:S→Assn} (hM:MemI Tryz.prog mt mv A) {l:Lay} (hl:l.Ok) {p:Pen} {σ:S} {s:Int} {k:Nat} {σ2:S} (h:plain l k σ s=some σ2):FnD Tryz.prog 181 [adjV l mt mv p,.int .i64 s] [A σ] (.tuple #[]) [A σ2]:=by
 unfold plain at h
 dsimp only at h
 obtain ⟨σ1,h1,h2⟩:=Option.bind_eq_some_iff.1 h
 refine Fn.enter (Tryz.func181) rfl rfl (fun w0 R=>?_)
 refine sA (xB 1 rfl (fun bk1=>(dA (xf 0 zan rfl (xf 6 zas rfl (xL4 1 zaP rfl rfl (xmi rfl (TL.callD [0] [0] (zex hM hl) ⟨rfl,rfl,trivial⟩ ⟨rfl,trivial⟩ zeu rfl rfl rfl rfl rfl trivial (TL.fv 2 3 (.int _ _) rfl zfD zac rfl rfl rfl ?_)))))))))
 refine xai rfl (dA (xf 0 zan rfl (xL10 1 zax rfl rfl (xmi rfl (TL.callD [0] [0] (zht hM hl h1) ⟨rfl,rfl,trivial⟩ ⟨rfl,trivial⟩ zkx rfl rfl rfl rfl rfl trivial (dA (xf 0 zan rfl (xf 6 zas rfl ?_))))))))
 refine xL4 1 zaP rfl rfl (xmi rfl (xmi rfl (TL.add _ rfl rfl (rfl) rfl rfl (TL.callD [0] [0] (zlf hM hl) ⟨rfl,rfl,rfl,trivial⟩ ⟨rfl,trivial⟩ znz rfl rfl rfl rfl rfl trivial (dG (xf 0 zan rfl (xL10 1 zax rfl rfl (xmi rfl ?_))))))))
 refine TL.callD [0] [0] (zjD hM hl h2) ⟨rfl,rfl,trivial⟩ ⟨rfl,trivial⟩ znY rfl rfl rfl rfl rfl trivial (TL.done ?_)
 refine FQ.end0 (Bs:=[A _]) [0] rfl rfl ⟨rfl,trivial⟩ ?_
 exact ⟨rfl,rfl⟩
theorem zfx {S:Type} [MemLike S] {mt:TypeId} {mv:Value} {A:S→Assn} (hM:MemI Tryz.prog mt mv A) {l:Lay} (hl:l.Ok) {p:Pen} {σ:S} {i v m r:Int} {k:Nat} {σ2:S} (h0:0≤m) (h:lfirst l k σ i v m=some (r,σ2)):FnD Tryz.prog 178 [adjV l mt mv p,.int .i64 i,.int .i64 v,.int .i64 m] [A σ] (.int .i64 r) [A σ2]:=by
 unfold lfirst at h
 obtain ⟨⟨a,σ1⟩,h1,h2⟩:=Option.bind_eq_some_iff.1 h
 refine Fn.enter (Tryz.func178) rfl rfl (fun w0 R=>?_)
 refine sA (xB 1 rfl (fun bk1=>(xai rfl (dS (TC.draw [(0,true),(1,true),(2,true),(3,true),(4,true),(5,true),(6,true),(7,true),(8,true),(9,true),(10,true),(11,true),(12,true),(13,true),(16,true),(14,false),(15,false),(17,false),(18,true)] [1] fc_m (by kernel_rfl) (xf 0 zan rfl (xf 0 zbp rfl (xf 0 zat rfl (xL6 1 zad rfl rfl ?_)))))))))
 refine xf 0 zan rfl (xf 0 zbp rfl (xf 0 zat rfl (xL6 1 zad rfl rfl (xf 0 zan rfl (xf 6 zas rfl (xf 0 zaL rfl (xL3 1 zaa rfl rfl (xmi rfl ?_))))))))
 refine xmi rfl (xmi rfl (TL.callD [] [] (zcT hl) ⟨rfl,rfl,rfl,trivial⟩ trivial zgg rfl rfl rfl rfl rfl (kL1 rfl trivial) (TL.callD [0] [0] (zeU hM hl h1) ⟨rfl,rfl,trivial⟩ ⟨rfl,trivial⟩ zhb rfl rfl rfl rfl rfl (kL1 rfl trivial) (TL.callD [0] [0] (zo6 hM hl h0 h2) ⟨rfl,rfl,rfl,trivial⟩ ⟨rfl,trivial⟩ zq4 rfl rfl rfl rfl rfl (kL1 rfl trivial) (xai rfl (dR ?_))))))
 refine FQ.ret1 (v:=(.int _ _)) (Bs:=[A _]) [0] rfl rfl rfl ⟨rfl,trivial⟩ ?_
 exact ⟨rfl,rfl⟩
theorem zoz {S:Type} [MemLike S] {mt:TypeId} {mv:Value} {A:S→Assn} (hM:MemI Tryz.prog mt mv A) {l:Lay} (hl:l.Ok) {p:Pen} {σ:S} {i v:Int} {k:Nat} {σ2:S} (h:trees l p k σ i v=some σ2):FnD Tryz.prog 157 [adjV l mt mv p,.int .i64 i,.int .i64 v] [A σ] (.tuple #[]) [A σ2]:=by
 unfold trees at h
 obtain ⟨⟨a,σ1⟩,h1,h2⟩:=Option.bind_eq_some_iff.1 h
 dsimp only at h2
 refine Fn.enter (Tryz.func157) rfl rfl (fun w0 R=>?_)
 refine sA (xB 1 rfl (fun bk1=>(dA (xL10 1 zbm rfl rfl (xmi rfl (xmi rfl (TL.callD [0] [0] (zfx hM hl (by decide) h1) ⟨rfl,rfl,rfl,rfl,trivial⟩ ⟨rfl,trivial⟩ ziJ rfl rfl rfl rfl rfl trivial (xai rfl (dK ?_)))))))))
 refine TC.loopK (X:=Nat×S×Int) [1,2,3] [1] (fun y=>[(6,.int .i64 y.2.2)]) (fun y=>[(0,A y.2.1)]) (fun y=>zdF l p i v y.1 k y.2.1 y.2.2=some σ2) (fun y=>y.1) ((k,_,_)) h2 ⟨rfl,trivial⟩ ⟨rfl,trivial⟩ (fun y hI=>?_)
 obtain ⟨j,σ3,z⟩:=y
 rcases j with _ | j
 ·simp [zdF] at hI
 dsimp only at hI
 refine TC.sub (env':=[(6,_),(1,_),(2,_),(3,_)]) (L':=[(0,_),(1,_)]) ⟨rfl,rfl,rfl,rfl,trivial⟩ ⟨rfl,rfl,trivial⟩ (sB (xmi rfl (TL.neq rfl rfl rfl rfl (fun q1=>?_) (fun q1=>?_))))
 refine TL.done (TQ.then (TC.condT rfl (TC.skip (TQ.then (TC.seq (TC.block (sA (xf 0 zan rfl ?_))))))))
 refine xf 6 zas rfl (xf 0 zaL rfl (xL3 1 zaa rfl rfl (xmi rfl (TL.callD [] [] (zbj hl) ⟨rfl,rfl,trivial⟩ trivial zb1 rfl rfl rfl rfl rfl trivial (xmu rfl (TL.ext (.agg _) rfl rfl rfl rfl (TL.ext (.bool _) rfl rfl rfl rfl (TL.alloc 2 (cs:=#[.bool false,.int .i64 0,.int .i64 0,.int .i64 0,.int .i64 0]) zbw rfl rfl rfl (fun _=>trivial) (fun bk2=>?_)))))))))
 refine TL.stW 2 5 [_,_,_,_,_] rfl rfl rfl rfl rfl rfl zaQ rfl rfl trivial (xab rfl (dG (xL10 1 zbm rfl rfl (xf 3 zlT rfl (xli 2 zac rfl rfl ?_)))))
 rw [zdF,if_pos q1] at hI
 obtain ⟨σ4,h3,hI⟩:=Option.bind_eq_some_iff.1 hI
 obtain ⟨⟨r,σ5⟩,h5,h6⟩:=Option.bind_eq_some_iff.1 hI
 refine TL.callD [0] [0] (zme hM hl h3) ⟨rfl,rfl,trivial⟩ ⟨rfl,trivial⟩ zra rfl rfl rfl rfl rfl trivial (dI (xL10 1 zbm rfl rfl (xmi rfl (xmi rfl (TL.callD [0] [0] (zfx hM hl (by decide) h5) ⟨rfl,rfl,rfl,rfl,trivial⟩ ⟨rfl,trivial⟩ ziJ rfl rfl rfl rfl rfl trivial (xai rfl (TL.done (TQ.roundK ((j,_,_)) ⟨h6,Nat.lt_succ_self _⟩ ⟨rfl,trivial⟩ ⟨rfl,trivial⟩ (kE3 rfl rfl rfl trivial) (kL1 rfl trivial)))))))))
 refine TL.done (TQ.then (TC.condF rfl (TC.exit (TQ.thenExit (TQ.thenExit (TQ.blockHere ?_))))))
 refine FQ.end0 (Bs:=[A _]) [0] rfl rfl ⟨rfl,trivial⟩ ?_
 rw [zdF,if_neg q1] at hI; cases hI; exact ⟨rfl,rfl⟩
theorem zqh {S:Type} [MemLike S] {mt:TypeId} {mv:Value} {A:S→Assn} (hM:MemI Tryz.prog mt mv A) {l:Lay} (hl:l.Ok) {p:Pen} {σ:S} {i v:Int} {r:Int×Bool} {k:Nat} {σ2:S} (h:seek l k σ i v=some (r,σ2)):FnD Tryz.prog 158 [adjV l mt mv p,.int .i64 i,.int .i64 v] [A σ] (.tuple #[.int .i64 r.1,.bool r.2]) [A σ2]:=by
 unfold seek at h
 obtain ⟨⟨a,σ1⟩,h1,h2⟩:=Option.bind_eq_some_iff.1 h
 dsimp only at h2
 refine Fn.enter (Tryz.func158) rfl rfl (fun w0 R=>?_)
 refine sA (xB 1 rfl (fun bk1=>(xai rfl (xaf rfl (dB (xL10 1 zbm rfl rfl (xmi rfl (xmi rfl (TL.callD [0] [0] (zfx hM hl (by decide) h1) ⟨rfl,rfl,rfl,rfl,trivial⟩ ⟨rfl,trivial⟩ ziJ rfl rfl rfl rfl rfl trivial ?_)))))))))
 refine xai rfl (dK (TC.loopK (X:=Nat×S×Int) [1,2,3] [1] (fun y=>[(8,.int .i64 y.2.2),(6,.int .i64 0),(7,.bool false)]) (fun y=>[(0,A y.2.1)]) (fun y=>zeT l i v y.1 k y.2.1 y.2.2=some (r,σ2)) (fun y=>y.1) ((k,_,_)) h2 ⟨rfl,rfl,rfl,trivial⟩ ⟨rfl,trivial⟩ (fun y hI=>?_)))
 obtain ⟨j,σ3,z⟩:=y
 rcases j with _ | j
 ·simp [zeT] at hI
 dsimp only at hI
 refine TC.sub (env':=[(8,_),(6,_),(7,_),(1,_),(2,_),(3,_)]) (L':=[(0,_),(1,_)]) ⟨rfl,rfl,rfl,rfl,rfl,rfl,trivial⟩ ⟨rfl,rfl,trivial⟩ (sB (xmi rfl (TL.neq rfl rfl rfl rfl (fun q1=>?_) (fun q1=>?_))))
 refine TL.done (TQ.then (TC.condT rfl (TC.skip (TQ.then (TC.seq (TC.block (sA (xf 0 zan rfl ?_))))))))
 refine xf 6 zas rfl (xf 0 zaL rfl (xL3 1 zaa rfl rfl (xmi rfl (TL.callD [] [] (zbj hl) ⟨rfl,rfl,trivial⟩ trivial zb1 rfl rfl rfl rfl rfl trivial (xmu rfl (TL.ext (.agg _) rfl rfl rfl rfl (TL.ext (.bool _) rfl rfl rfl rfl (TL.alloc 2 (cs:=#[.bool false,.int .i64 0,.int .i64 0,.int .i64 0,.int .i64 0]) zbw rfl rfl rfl (fun _=>trivial) (fun bk2=>?_)))))))))
 refine TL.stW 2 5 [_,_,_,_,_] rfl rfl rfl rfl rfl rfl zaQ rfl rfl trivial (xab rfl (dA (xf 0 zan rfl (xL10 1 zax rfl rfl (xf 2 zlU rfl (xli 2 zac rfl rfl (xmi rfl (TL.callD [0] [0] (zot hM hl) ⟨rfl,rfl,rfl,trivial⟩ ⟨rfl,trivial⟩ zq9 rfl rfl rfl rfl rfl trivial ?_))))))))
 refine xmu rfl (xei rfl rfl (TL.ext (.bool _) rfl rfl rfl rfl (xai rfl (xab rfl (dB (xf 0 zan rfl (xf 6 zas rfl (xL4 1 zaP rfl rfl ?_))))))))
 refine xmi rfl (TL.callD [0] [0] (zex hM hl) ⟨rfl,rfl,trivial⟩ ⟨rfl,trivial⟩ zeu rfl rfl rfl rfl rfl trivial (TL.alloc 3 (cs:=#[.int .i64 0,.int .i64 0,.int .i64 0,.bool false]) zer rfl rfl rfl (fun _=>trivial) (fun bk3=>(TL.stW 3 4 [_,_,_,_] rfl rfl rfl rfl rfl rfl zcW rfl rfl trivial (dA (xf 0 zan rfl (xf 0 zbp rfl (xL6 1 zb7 rfl rfl (xmi rfl ?_)))))))))
 refine xf 0 zb0 rfl (xli 3 zac rfl rfl (xf 1 zbZ rfl (xli 3 zac rfl rfl ?_)))
 rw [zeT,if_pos q1] at hI
 dsimp only at hI
 obtain ⟨⟨b,σ4⟩,h3,hI⟩:=Option.bind_eq_some_iff.1 hI
 dsimp only at hI
 refine TL.callD [0] [0] (zms hM hl h3) ⟨rfl,rfl,rfl,rfl,trivial⟩ ⟨rfl,trivial⟩ zn1 rfl rfl rfl rfl rfl trivial (TL.cases rfl (fun q2=>?_) (fun q2=>?_))
 refine xnt rfl (TL.done (TQ.then (TC.condF rfl (TC.skip (TQ.then (TC.region (xL10 1 zbm rfl rfl (xmi rfl ?_))))))))
 rw [if_pos (by simpa using q2)] at hI
 obtain ⟨σ5,h4,hI⟩:=Option.bind_eq_some_iff.1 hI
 obtain ⟨⟨r2,σ6⟩,h5,h6⟩:=Option.bind_eq_some_iff.1 hI
 refine TL.callD [0] [0] (zoS hM hl h4) ⟨rfl,rfl,trivial⟩ ⟨rfl,trivial⟩ zq8 rfl rfl rfl rfl rfl trivial (dI (xL10 1 zbm rfl rfl (xmi rfl (xmi rfl (TL.callD [0] [0] (zfx hM hl (by decide) h5) ⟨rfl,rfl,rfl,rfl,trivial⟩ ⟨rfl,trivial⟩ ziJ rfl rfl rfl rfl rfl trivial (xai rfl (TL.done (TQ.roundK ((j,_,_)) ⟨h6,Nat.lt_succ_self _⟩ ⟨rfl,rfl,rfl,trivial⟩ ⟨rfl,trivial⟩ (kE3 rfl rfl rfl trivial) (kL1 rfl trivial)))))))))
 refine xnf rfl (dT rfl (xmi rfl (xai rfl (xat rfl (dRR (TQ.blockRet (TQ.thenRet (TQ.thenRet ?_))))))))
 refine TQ.blockRet (TQ.thenRet ?_)
 refine FQ.ret2 (v:=(.int _ _)) (x:=(.bool true)) (Bs:=[A _]) [0] rfl rfl rfl rfl ⟨rfl,trivial⟩ ?_
 rw [if_neg (by simpa using q2)] at hI; cases hI; exact ⟨rfl,rfl⟩
 refine dE rfl (sA (xai rfl (xaf rfl (dR ?_))))
 refine FQ.ret2 (v:=(.int _ _)) (x:=(.bool false)) (Bs:=[A _]) [0] rfl rfl rfl rfl ⟨rfl,trivial⟩ ?_
 rw [zeT,if_neg q1] at hI; cases hI; exact ⟨rfl,rfl⟩
theorem zly {S:Type} [MemLike S] {mt:TypeId} {mv:Value} {A:S→Assn} (hM:MemI Tryz.prog mt mv A) {l:Lay} (hl:l.Ok) {p:Pen} {σ:S} {i u v r:Int} {k:Nat} {σ2:S} (h:smaller l k σ i u v=some (r,σ2)):FnD Tryz.prog 156 [adjV l mt mv p,.int .i64 i,.int .i64 u,.int .i64 v] [A σ] (.int .i64 r) [A σ2]:=by
 unfold smaller at h
 obtain ⟨⟨a,σ1⟩,h1,h⟩:=Option.bind_eq_some_iff.1 h
 obtain ⟨⟨b,σ3⟩,h2,h⟩:=Option.bind_eq_some_iff.1 h
 dsimp only at h2 h
 cases h
 refine Fn.enter (Tryz.func156) rfl rfl (fun w0 R=>?_)
 refine sA (xB 1 rfl (fun bk1=>(xai rfl (dS (TC.seq (TC.draw [(0,true),(1,true),(2,true),(3,true),(4,true),(6,true),(7,true),(8,true),(9,true),(10,true),(5,false),(11,false),(12,true)] [1] fc_m (by kernel_rfl) (xf 0 zan rfl (xf 0 zbp rfl (xL6 1 zb7 rfl rfl ?_)))))))))
 refine xmi rfl (xmi rfl (xf 0 zan rfl (xf 0 zbp rfl (xL6 1 zb7 rfl rfl (xmi rfl (xmi rfl (TL.callD [0] [0] (zlk hM hl h1) ⟨rfl,rfl,rfl,trivial⟩ ⟨rfl,trivial⟩ znB rfl rfl rfl rfl rfl (kL1 rfl trivial) (TL.callD [0] [0] (zlk hM hl h2) ⟨rfl,rfl,rfl,trivial⟩ ⟨rfl,trivial⟩ znB rfl rfl rfl rfl rfl (kL1 rfl trivial) ?_))))))))
 refine TL.lss rfl rfl rfl rfl (fun q1=>?_) (fun q1=>?_)
 refine dT rfl (xmi rfl (xai rfl (dRR ?_)))
 refine FQ.ret1 (v:=(.int _ _)) (Bs:=[A _]) [0] rfl rfl rfl ⟨rfl,trivial⟩ ?_
 first | exact ⟨iE (by rw [if_pos q1]),rfl⟩ | exact ⟨iE (by rw [if_neg q1]),rfl⟩
 refine dF rfl (xmi rfl (xai rfl (dR ?_)))
 refine FQ.ret1 (v:=(.int _ _)) (Bs:=[A _]) [0] rfl rfl rfl ⟨rfl,trivial⟩ ?_
 first | exact ⟨iE (by rw [if_pos q1]),rfl⟩ | exact ⟨iE (by rw [if_neg q1]),rfl⟩
theorem zci {mt:TypeId} {mv:Value} {l:Lay} {p:Pen}:FnD Tryz.prog 37 [layV l,.iface mt mv,.agg #[.int .i64 p.thread,.int .i64 p.tag]] [] (adjV l mt mv p) []:=by
 refine Fn.enter (Tryz.func37) rfl rfl (fun w0 R=>?_)
 refine sA (xB 0 rfl (fun bk0=>(xB 1 rfl (fun bk1=>(TL.alloc 2 (cs:=#[.int .i64 0,.int .i64 0,.int .i64 0,.nilIface,.int .i64 0,.int .i64 0,.int .i64 0,.int .i64 0,.int .i64 0,.nilIface]) zds rfl rfl rfl (fun _=>trivial) (fun bk2=>(dA (xL3 0 zaa rfl rfl (xmc rfl (xL2 1 zar rfl rfl (TL.bld [.int .i64 0,.int .i64 0,.int .i64 0,.nilIface,.int .i64 0,.int .i64 0] [(.agg _),(.iface _ _),(.agg _)] [_,_,_,_,_,_] zjt znq ⟨rfl,rfl,rfl,trivial⟩ ⟨rfl,rfl⟩ rfl rfl ?_)))))))))))
 refine TL.bld [.int .i64 0,.int .i64 0,.int .i64 0,.nilIface,.int .i64 0,.int .i64 0] [(.agg _)] [_,_,_,_,_,_] zpL zsb ⟨rfl,trivial⟩ ⟨rfl,rfl⟩ rfl rfl (TL.alloc 3 (cs:=#[.int .i64 0,.int .i64 0,.int .i64 0,.nilIface,.int .i64 0,.int .i64 0]) zpL rfl rfl rfl (fun _=>trivial) (fun bk3=>(TL.stW 3 6 [_,_,_,_,_,_] rfl rfl rfl rfl rfl rfl zb7 rfl rfl trivial (dA (xL6 3 zb7 rfl rfl (xL3 0 zaa rfl rfl (xmc rfl (TL.bld [.int .i64 0,.int .i64 0,.int .i64 0,.nilIface] [(.agg _),(.iface _ _)] [_,_,_,_] zr2 zsa ⟨rfl,rfl,trivial⟩ ⟨rfl,rfl⟩ rfl rfl ?_))))))))
 refine TL.bld [.int .i64 0,.int .i64 0,.int .i64 0,.nilIface,.int .i64 0,.int .i64 0,.int .i64 0,.int .i64 0,.int .i64 0,.nilIface] [(.agg _),(.agg _)] [_,_,_,_,_,_,_,_,_,_] zr1 zr9 ⟨rfl,rfl,trivial⟩ ⟨rfl,rfl⟩ rfl rfl (TL.bld [.int .i64 0,.int .i64 0,.int .i64 0,.nilIface,.int .i64 0,.int .i64 0,.int .i64 0,.int .i64 0,.int .i64 0,.nilIface] [(.agg _)] [_,_,_,_,_,_,_,_,_,_] zr0 zr8 ⟨rfl,trivial⟩ ⟨rfl,rfl⟩ rfl rfl (TL.bld [.int .i64 0,.int .i64 0,.int .i64 0,.nilIface,.int .i64 0,.int .i64 0,.int .i64 0,.int .i64 0,.int .i64 0,.nilIface] [(.agg _)] [_,_,_,_,_,_,_,_,_,_] zds zr7 ⟨rfl,trivial⟩ ⟨rfl,rfl⟩ rfl rfl ?_))
 refine TL.stW 2 10 [_,_,_,_,_,_,_,_,_,_] rfl rfl rfl rfl rfl rfl zae rfl rfl trivial (dR ?_)
 refine FQ.retG (rs:=[.cell 6 49]) [(.agg _)] (Bs:=[]) [] rfl ⟨⟨_,_,_,_,_,2,rfl,rfl,.inr ⟨10,[_,_,_,_,_,_,_,_,_,_],zae,rfl,rfl⟩⟩,trivial⟩ rfl rfl trivial ?_
 exact ⟨rfl,rfl⟩
theorem zm7 {S:Type} [MemLike S] {mt:TypeId} {mv:Value} {A:S→Assn} (hM:MemI Tryz.prog mt mv A) {l:Lay} (hl:l.Ok) {p:Pen} {σ:S} {u v:Int} {b:Bool} {k:Nat} {σ2:S} (h:same l k σ 0 u v=some (b,σ2)):FnD Tryz.prog 42 [adjV l mt mv p,.int .i64 u,.int .i64 v] [A σ] (.bool b) [A σ2]:=by
 refine Fn.enter (Tryz.func42) rfl rfl (fun w0 R=>?_)
 refine sA (xB 1 rfl (fun bk1=>(xaf rfl (dA (xf 0 zaE rfl (xf 0 zan rfl (xf 0 zbp rfl (xL6 1 zb7 rfl rfl (xmi rfl ?_)))))))))
 refine xmi rfl (TL.callD [0] [0] (zms hM hl h) ⟨rfl,rfl,rfl,rfl,trivial⟩ ⟨rfl,trivial⟩ zn1 rfl rfl rfl rfl rfl trivial (xab rfl (dR ?_)))
 refine FQ.ret1 (v:=(.bool _)) (Bs:=[A _]) [0] rfl rfl rfl ⟨rfl,trivial⟩ ?_
 exact ⟨rfl,rfl⟩
theorem zbo {S:Type} [MemLike S] {mt:TypeId} {mv:Value} {A:S→Assn} (hM:MemI Tryz.prog mt mv A) {l:Lay} (hl:l.Ok) {p:Pen} {σ:S} {s u v:Int} {b:Bool} {k:Nat} {σ2:S} (h:zd2 l p k σ s u v=some (b,σ2)):FnD Tryz.prog 74 [adjV l mt mv p,.int .i64 s,.int .i64 u,.int .i64 v] [A σ] (.bool b) [A σ2]:=by
 unfold zd2 at h
 obtain ⟨⟨j,σ1⟩,h1,h⟩:=Option.bind_eq_some_iff.1 h
 dsimp only at h
 refine Fn.enter (Tryz.func74) rfl rfl (fun w0 R=>?_)
 refine sA (xB 1 rfl (fun bk1=>(xaf rfl (dA (xL10 1 zae rfl rfl (xmi rfl (xmi rfl (TL.callD [0] [0] (zm7 hM hl h1) ⟨rfl,rfl,rfl,trivial⟩ ⟨rfl,trivial⟩ zsm rfl rfl rfl rfl rfl trivial (xab rfl ?_)))))))))
 refine dA (xf 0 zaE rfl (xf 0 zan rfl (xf 6 zas rfl (xL4 1 zaP rfl rfl (xmi rfl (xmi rfl (xmi rfl (TL.callD [0] [0] (zrq hM hl) ⟨rfl,rfl,rfl,rfl,rfl,rfl,trivial⟩ ⟨rfl,trivial⟩ zro rfl rfl rfl rfl rfl trivial ?_))))))))
 refine dB (xmb rfl (TL.cases rfl (fun q1=>?_) (fun q1=>?_)))
 refine TL.done (TQ.then (TC.condT rfl (TC.region (xf 0 zaE rfl (xf 0 zan rfl (xL10 1 zax rfl rfl (xmi rfl ?_)))))))
 rw [if_pos (by simpa using q1)] at h
 obtain ⟨σ3,h2,h3⟩:=Option.bind_eq_some_iff.1 h
 cases h3
 refine TL.callD [0] [0] (zjD hM hl h2) ⟨rfl,rfl,trivial⟩ ⟨rfl,trivial⟩ znY rfl rfl rfl rfl rfl trivial (dA (xmb rfl (TL.not _ _ rfl rfl rfl rfl (xab rfl (dR ?_)))))
 refine FQ.ret1 (v:=(.bool _)) (Bs:=[A _]) [0] rfl rfl rfl ⟨rfl,trivial⟩ ?_
 first | exact ⟨by rw [q1]; rfl,rfl⟩ | exact ⟨by simp [*],rfl⟩
 refine TL.done (TQ.then (TC.condF rfl (TC.region (xf 0 zaE rfl (xL10 1 zbm rfl rfl (xmi rfl ?_))))))
 rw [if_neg (by simpa using q1)] at h
 obtain ⟨σ3,h2,h3⟩:=Option.bind_eq_some_iff.1 h
 cases h3
 refine TL.callD [0] [0] (zkP hM hl h2) ⟨rfl,rfl,trivial⟩ ⟨rfl,trivial⟩ znX rfl rfl rfl rfl rfl trivial (dA (xmb rfl (TL.not _ _ rfl rfl rfl rfl (xab rfl (dR ?_)))))
 refine FQ.ret1 (v:=(.bool _)) (Bs:=[A _]) [0] rfl rfl rfl ⟨rfl,trivial⟩ ?_
 first | exact ⟨by rw [q1]; rfl,rfl⟩ | exact ⟨by simp [*],rfl⟩
theorem zlF {S:Type} [MemLike S] {mt:TypeId} {mv:Value} {A:S→Assn} (hM:MemI Tryz.prog mt mv A) {l:Lay} (hl:l.Ok) {p:Pen} {σ:S} {i u v:Int} {r:Int×Bool} {k:Nat} {σ2:S} (h:replace l p k σ i u v=some (r,σ2)):FnD Tryz.prog 129 [adjV l mt mv p,.int .i64 i,.int .i64 u,.int .i64 v] [A σ] (.tuple #[.int .i64 r.1,.bool r.2]) [A σ2]:=by
 unfold replace at h
 refine Fn.enter (Tryz.func129) rfl rfl (fun w0 R=>?_)
 refine sA (xB 1 rfl (fun bk1=>(xai rfl (xaf rfl (dB (xmi rfl (TL.add _ rfl rfl (rfl) rfl rfl (xf 0 zaE rfl (xf 0 zan rfl ?_)))))))))
 refine xf 6 zas rfl (xf 0 zaL rfl (xL3 1 zaa rfl rfl (TL.callD [] [] (zce hl) ⟨rfl,trivial⟩ trivial zeP rfl rfl rfl rfl rfl trivial (TL.geq rfl rfl rfl rfl (fun q1=>?_) (fun q1=>?_)))))
 refine dT rfl (xai rfl (xaf rfl (dRR ?_)))
 refine FQ.ret2 (v:=(.int _ _)) (x:=(.bool false)) (Bs:=[A _]) [0] rfl rfl rfl rfl ⟨rfl,trivial⟩ ?_
 first | (rw [if_pos (by omega)] at h; cases h; exact ⟨rfl,rfl⟩) | exact ⟨by dsimp only at q2; rw [q2],rfl⟩ | (rw [if_neg (by simpa using q2)] at h; cases h; exact ⟨by simp_all,rfl⟩)
 refine dF rfl (xf 0 zaE rfl (xL10 1 zbm rfl rfl (xmi rfl (xmi rfl (xmi rfl ?_)))))
 rw [if_neg (by omega)] at h
 obtain ⟨⟨w,σ3⟩,h1,h⟩:=Option.bind_eq_some_iff.1 h
 obtain ⟨σ4,h2,h⟩:=Option.bind_eq_some_iff.1 h
 obtain ⟨⟨⟨b,ok⟩,σ5⟩,h3,h⟩:=Option.bind_eq_some_iff.1 h
 dsimp only at h2 h3 h
 refine TL.callD [0] [0] (zly hM hl h1) ⟨rfl,rfl,rfl,rfl,trivial⟩ ⟨rfl,trivial⟩ zrf rfl rfl rfl rfl rfl trivial (xai rfl (dA (xf 0 zaE rfl (xL10 1 zbm rfl rfl (xmi rfl (xmi rfl (TL.callD [0] [0] (zoz hM hl h2) ⟨rfl,rfl,rfl,trivial⟩ ⟨rfl,trivial⟩ zre rfl rfl rfl rfl rfl trivial (dB ?_))))))))
 refine xf 0 zaE rfl (xL10 1 zbm rfl rfl (xmi rfl (xmi rfl (TL.callD [0] [0] (zqh hM hl h3) ⟨rfl,rfl,rfl,trivial⟩ ⟨rfl,trivial⟩ zrd rfl rfl rfl rfl rfl trivial (xmu rfl (xei rfl rfl (TL.ext (.bool _) rfl rfl rfl rfl (xai rfl ?_))))))))
 refine xab rfl (dA (xmb rfl (TL.cases rfl (fun q2=>?_) (fun q2=>?_))))
 refine dT rfl (xf 0 zaE rfl (xf 0 zan rfl (xL10 1 zax rfl rfl (xmi rfl ?_))))
 rw [if_pos (by simpa using q2)] at h
 obtain ⟨σ6,h4,h⟩:=Option.bind_eq_some_iff.1 h
 obtain ⟨σ7,h5,h6⟩:=Option.bind_eq_some_iff.1 h
 cases h6
 refine TL.callD [0] [0] (zht hM hl h4) ⟨rfl,rfl,trivial⟩ ⟨rfl,trivial⟩ zkx rfl rfl rfl rfl rfl trivial (dG (xf 0 zaE rfl (xL10 1 zbm rfl rfl (xmi rfl (TL.callD [0] [0] (zkP hM hl h5) ⟨rfl,rfl,trivial⟩ ⟨rfl,trivial⟩ znX rfl rfl rfl rfl rfl trivial (dA (xmi rfl (xmb rfl ?_))))))))
 refine xai rfl (xab rfl (dR ?_))
 refine FQ.ret2 (v:=(.int _ _)) (x:=(.bool _)) (Bs:=[A _]) [0] rfl rfl rfl rfl ⟨rfl,trivial⟩ ?_
 first | (rw [if_pos (by omega)] at h; cases h; exact ⟨rfl,rfl⟩) | exact ⟨by dsimp only at q2; rw [q2],rfl⟩ | (rw [if_neg (by simpa using q2)] at h; cases h; exact ⟨by simp_all,rfl⟩)
 refine dF rfl (xmi rfl (xmb rfl (xai rfl (xab rfl (dR ?_)))))
 refine FQ.ret2 (v:=(.int _ _)) (x:=(.bool _)) (Bs:=[A _]) [0] rfl rfl rfl rfl ⟨rfl,trivial⟩ ?_
 first | (rw [if_pos (by omega)] at h; cases h; exact ⟨rfl,rfl⟩) | exact ⟨by dsimp only at q2; rw [q2],rfl⟩ | (rw [if_neg (by simpa using q2)] at h; cases h; exact ⟨by simp_all,rfl⟩)
theorem zau {S:Type} [MemLike S] {mt:TypeId} {mv:Value} {A:S→Assn} (hM:MemI Tryz.prog mt mv A) {l:Lay} (hl:l.Ok) {p:Pen} {σ:S} {s b:Int} {t o:Bool} {k:Nat} {σ2:S} (h:zc3 l p k σ s=some ((t,b,o),σ2)):FnD Tryz.prog 96 [adjV l mt mv p,.int .i64 s] [A σ] (.tuple #[.bool t,.int .i64 b,.bool o]) [A σ2]:=by
 unfold zc3 at h
 dsimp only at h
 refine Fn.enter (Tryz.func96) rfl rfl (fun w0 R=>?_)
 refine sA (xB 1 rfl (fun bk1=>(xaf rfl (xai rfl (xaf rfl (dA (xf 0 zaE rfl (xf 0 zan rfl (xf 6 zas rfl ?_)))))))))
 refine xL4 1 zaP rfl rfl (xmi rfl (TL.callD [0] [0] (zex hM hl) ⟨rfl,rfl,trivial⟩ ⟨rfl,trivial⟩ zeu rfl rfl rfl rfl rfl trivial (TL.alloc 2 (cs:=#[.int .i64 0,.int .i64 0,.int .i64 0,.bool false]) zer rfl rfl rfl (fun _=>trivial) (fun bk2=>(TL.stW 2 4 [_,_,_,_] rfl rfl rfl rfl rfl rfl zcW rfl rfl trivial (dB (xf 3 zkn rfl (xlb 2 zbq rfl rfl (TL.not _ _ rfl rfl rfl rfl ?_)))))))))
 refine TL.done (TQ.then (TC.cond rfl (fun q1=>?_) (fun q1=>?_)))
 refine sA (xf 0 zaE rfl (xf 0 zan rfl (xL10 1 zax rfl rfl (xmi rfl ?_))))
 rw [if_neg (by simpa using q1)] at h
 obtain ⟨σ3,h1,h2⟩:=Option.bind_eq_some_iff.1 h
 cases h2
 refine TL.callD [0] [0] (zht hM hl h1) ⟨rfl,rfl,trivial⟩ ⟨rfl,trivial⟩ zkx rfl rfl rfl rfl rfl trivial (dA (xf 0 zaE rfl (xf 0 zan rfl (xf 6 zas rfl (xL4 1 zaP rfl rfl (xf 0 zb0 rfl (xli 2 zac rfl rfl (xf 1 zbZ rfl ?_))))))))
 refine xli 2 zac rfl rfl (TL.callD [0] [0] (zh3 hM hl) ⟨rfl,rfl,rfl,trivial⟩ ⟨rfl,trivial⟩ znS rfl rfl rfl rfl rfl trivial (dA (xaf rfl (xai rfl (xaf rfl (dRR ?_))))))
 refine FQ.ret3 (v:=(.bool false)) (x:=(.int _ _)) (y:=(.bool false)) (Bs:=[A _]) [0] rfl rfl rfl rfl rfl ⟨rfl,trivial⟩ ?_
 exact ⟨rfl,rfl⟩
 refine TC.skip (TQ.then (sA (xf 0 zaE rfl (xL10 1 zbm rfl rfl (xmi rfl ?_)))))
 rw [if_pos (by simpa using q1)] at h
 obtain ⟨σ3,h1,h⟩:=Option.bind_eq_some_iff.1 h
 obtain ⟨⟨⟨b2,o2⟩,σ4⟩,h2,h3⟩:=Option.bind_eq_some_iff.1 h
 dsimp only at h2 h3
 cases h3
 refine TL.callD [0] [0] (zqK hM hl h1) ⟨rfl,rfl,trivial⟩ ⟨rfl,trivial⟩ zrk rfl rfl rfl rfl rfl trivial (dA (xf 0 zaE rfl (xf 0 zan rfl (xf 6 zas rfl (xL4 1 zaP rfl rfl (xf 0 zb0 rfl (xli 2 zac rfl rfl (xf 1 zbZ rfl ?_))))))))
 refine xli 2 zac rfl rfl (TL.callD [0] [0] (zh3 hM hl) ⟨rfl,rfl,rfl,trivial⟩ ⟨rfl,trivial⟩ znS rfl rfl rfl rfl rfl trivial (dB (xf 2 zbk rfl (xli 2 zac rfl rfl (xai rfl (dK (TC.loopK (X:=Nat×S×Int×Int×Bool) [2,4,7] [1,2] (fun y=>[(8,.int .i64 y.2.2.1),(5,.int .i64 y.2.2.2.1),(6,.bool y.2.2.2.2)]) (fun y=>[(0,A y.2.1)]) (fun y=>zch l p (eget l σ s).u (eget l σ s).v y.1 k y.2.1 y.2.2.1 (y.2.2.2.1,y.2.2.2.2)=some ((b,o),σ2)) (fun y=>y.1) ((k,_,_,0,false)) h2 ⟨rfl,rfl,rfl,trivial⟩ ⟨rfl,trivial⟩ (fun y hI=>?_))))))))
 obtain ⟨j,σ5,z,b4,o4⟩:=y
 rcases j with _ | j
 ·simp [zch] at hI
 dsimp only at hI
 refine TC.sub (env':=[(8,_),(5,_),(6,_),(2,_),(4,_),(7,_)]) (L':=[(0,_),(1,_),(2,_)]) ⟨rfl,rfl,rfl,rfl,rfl,rfl,trivial⟩ ⟨rfl,rfl,rfl,trivial⟩ (sB (xmi rfl (TL.geq rfl rfl rfl rfl (fun q2=>?_) (fun q2=>?_))))
 refine TL.done (TQ.then (TC.condT rfl (TC.skip (TQ.then (TC.seq (TC.block (sA (xL10 1 zae rfl rfl ?_))))))))
 refine xmi rfl (xf 0 zb0 rfl (xli 2 zac rfl rfl (xf 1 zbZ rfl (xli 2 zac rfl rfl ?_))))
 rw [zch,if_pos q2] at hI
 obtain ⟨⟨⟨b3,o3⟩,σ6⟩,h4,hI⟩:=Option.bind_eq_some_iff.1 hI
 dsimp only at h4 hI
 refine TL.callD [0] [0] (zlF hM hl h4) ⟨rfl,rfl,rfl,rfl,trivial⟩ ⟨rfl,trivial⟩ zrj rfl rfl rfl rfl rfl trivial (xmu rfl (xei rfl rfl (TL.ext (.bool _) rfl rfl rfl rfl (xai rfl (xab rfl (dA (xmb rfl (TL.cases rfl (fun q3=>?_) (fun q3=>?_)))))))))
 refine TL.done (TQ.then (TC.condT rfl (TC.exit (TQ.blockOut rfl (TQ.thenExit (TQ.thenExit (TQ.blockHere (TQ.then ?_))))))))
 refine sA (xmi rfl (xmb rfl (xat rfl (xai rfl (xab rfl (dR ?_))))))
 refine FQ.ret3 (v:=(.bool true)) (x:=(.int _ _)) (y:=(.bool _)) (Bs:=[A _]) [0] rfl rfl rfl rfl rfl ⟨rfl,trivial⟩ ?_
 rw [if_pos (by simpa using q3)] at hI; cases hI; exact ⟨rfl,rfl⟩
 refine TL.done (TQ.then (TC.condF rfl (TC.skip (TQ.inBlock (TQ.then (TC.region (xmi rfl (TL.sub _ rfl rfl (rfl) rfl rfl ?_))))))))
 refine xai rfl (TL.done (TQ.roundK ((j,_,_,_,_)) ⟨(by rw [if_neg (by simpa using q3)] at hI; exact hI),Nat.lt_succ_self _⟩ ⟨rfl,rfl,rfl,trivial⟩ ⟨rfl,trivial⟩ (kE3 rfl rfl rfl trivial) (kL2 rfl rfl trivial)))
 refine dE rfl (sA (xmi rfl (xmb rfl (xat rfl (xai rfl (xab rfl (dR ?_)))))))
 refine FQ.ret3 (v:=(.bool true)) (x:=(.int _ _)) (y:=(.bool _)) (Bs:=[A _]) [0] rfl rfl rfl rfl rfl ⟨rfl,trivial⟩ ?_
 rw [zch,if_neg q2] at hI; cases hI; exact ⟨rfl,rfl⟩
theorem at_Li {ab mb N cap:Nat} {c:Cnt} {i:Int} (h0:0≤i) (h1:i<N):FnD Tryz.prog 89 [.pointer (some ⟨ab,0,none⟩),.int .i64 i,.pointer (some ⟨ab,1,none⟩)] [arO ab mb (N) cap 140 c] (.pointer (some ⟨mb,0+i.toNat * 1,none⟩)) [arO ab mb (N) cap 140 c.ld]:=by
 refine Fn.enter (Tryz.func89) rfl rfl (fun w0 R=>?_)
 refine sA (TL.asg (.pointer none) rfl rfl rfl (dB (xmi rfl (TL.lssF rfl rfl (by omega) rfl rfl (xmf rfl (xmi rfl (xmp rfl (xN0 rfl ?_))))))))
 refine xf 0 zdl rfl (xls 0 zgZ rfl rfl (xz za6 rfl (TL.geqF rfl rfl (by omega) rfl rfl (xpF rfl (dF rfl (xmp rfl (xN0 rfl (xli 0 zac rfl rfl ?_))))))))
 refine TL.add _ rfl rfl (rfl) rfl rfl (xN0 rfl (TL.st 0 #[_,_,_,_,_,_] (.int _ _) rfl rfl rfl rfl rfl rfl zac rfl rfl trivial (dA (xmp rfl (xN0 rfl (xf 0 zdl rfl (xls 0 zgZ rfl rfl (xmi rfl ?_))))))))
 refine TL.ia _ rfl rfl za6 (by omega) (by omega) rfl rfl rfl (xap rfl (dR ?_))
 refine FQ.ret1 (v:=(.pointer (some ⟨_,_,none⟩))) (Bs:=[_]) [0] rfl rfl rfl ⟨rfl,trivial⟩ ?_
 exact ⟨rfl,rfl⟩
theorem at_Si {ab mb N cap:Nat} {c:Cnt} {i:Int} (h0:0≤i) (h1:i<N):FnD Tryz.prog 89 [.pointer (some ⟨ab,0,none⟩),.int .i64 i,.pointer (some ⟨ab,2,none⟩)] [arO ab mb (N) cap 140 c] (.pointer (some ⟨mb,0+i.toNat * 1,none⟩)) [arO ab mb (N) cap 140 c.st]:=by
 refine Fn.enter (Tryz.func89) rfl rfl (fun w0 R=>?_)
 refine sA (TL.asg (.pointer none) rfl rfl rfl (dB (xmi rfl (TL.lssF rfl rfl (by omega) rfl rfl (xmf rfl (xmi rfl (xmp rfl (xN0 rfl ?_))))))))
 refine xf 0 zdl rfl (xls 0 zgZ rfl rfl (xz za6 rfl (TL.geqF rfl rfl (by omega) rfl rfl (xpF rfl (dF rfl (xmp rfl (xN0 rfl (xli 0 zac rfl rfl ?_))))))))
 refine TL.add _ rfl rfl (rfl) rfl rfl (xN0 rfl (TL.st 0 #[_,_,_,_,_,_] (.int _ _) rfl rfl rfl rfl rfl rfl zac rfl rfl trivial (dA (xmp rfl (xN0 rfl (xf 0 zdl rfl (xls 0 zgZ rfl rfl (xmi rfl ?_))))))))
 refine TL.ia _ rfl rfl za6 (by omega) (by omega) rfl rfl rfl (xap rfl (dR ?_))
 refine FQ.ret1 (v:=(.pointer (some ⟨_,_,none⟩))) (Bs:=[_]) [0] rfl rfl rfl ⟨rfl,trivial⟩ ?_
 exact ⟨rfl,rfl⟩
theorem at_o {ab mb N cap k:Nat} {c:Cnt} {i:Int} (h:¬(0≤i∧i<N)):FnD Tryz.prog 89 [.pointer (some ⟨ab,0,none⟩),.int .i64 i,.pointer (some ⟨ab,k,none⟩)] [arO ab mb (N) cap 140 c] (.pointer none) [arO ab mb (N) cap 140 c]:=by
 refine Fn.enter (Tryz.func89) rfl rfl (fun w0 R=>?_)
 refine sA (TL.asg (.pointer none) rfl rfl rfl (dB (xmi rfl (TL.lss rfl rfl rfl rfl (fun q1=>?_) (fun q1=>?_)))))
 refine xmt rfl (xo rfl (xo rfl (xo rfl (xo rfl (xo rfl (xo rfl (xo rfl (xpT rfl ?_))))))))
 refine dT rfl (TL.asg (.pointer none) rfl rfl rfl (dRR ?_))
 refine FQ.ret1 (v:=(.pointer none)) (Bs:=[_]) [0] rfl rfl rfl ⟨rfl,trivial⟩ ?_
 exact ⟨rfl,rfl⟩
 refine xmf rfl (xmi rfl (xmp rfl (xN0 rfl (xf 0 zdl rfl (xls 0 zgZ rfl rfl (xz za6 rfl (TL.geq rfl rfl rfl rfl (fun q2=>?_) (fun q2=>?_))))))))
 refine xpH rfl (dT rfl (TL.asg (.pointer none) rfl rfl rfl (dRR ?_)))
 refine FQ.ret1 (v:=(.pointer none)) (Bs:=[_]) [0] rfl rfl rfl ⟨rfl,trivial⟩ ?_
 exact ⟨rfl,rfl⟩
 refine xpF rfl (TL.done (TQ.then (TC.condF rfl (TC.skip (TQ.then (TC.seq ?_))))))
 exact absurd (by omega:False) id
theorem zrz {ab mb cap:Nat} {rs:Array Value} {σ:Array UInt64} {c:Cnt} {i:Int} (h0:0≤i) (h1:i<σ.size):FnD Tryz.prog 31 [.pointer (some ⟨ab,0,none⟩),.int .i64 i] [arO ab mb (σ.size) cap 140 c,pt mb (.cells (encM (σ)++rs) 71)] (.tuple #[.int .u64 (MemLike.get σ i),.int .i64 0]) [arO ab mb (σ.size) cap 140 c.ld,pt mb (.cells (encM (σ)++rs) 71)]:=by
 refine Fn.enter (Tryz.func31) rfl rfl (fun w0 R=>?_)
 refine sA (xai rfl (xai rfl (dA (xmp rfl (xmi rfl (xmp rfl (xN0 rfl (xf 1 zd9 rfl ?_))))))))
 refine xf 0 zhY rfl (TL.callD [0] [0] (at_Li h0 h1) ⟨rfl,rfl,rfl,trivial⟩ ⟨rfl,trivial⟩ zla rfl rfl rfl rfl rfl trivial (xap rfl (dB (xmp rfl (TL.nilP false rfl rfl ziG rfl rfl rfl (dF rfl (xmp rfl (xN0 rfl ?_))))))))
 refine TL.ldM 1 rfl rfl (by omega) (by omega) zk6 rfl rfl (xai rfl (xai rfl (dR ?_)))
 refine FQ.ret2 (v:=(.int _ _)) (x:=(.int _ _)) (Bs:=[_,_]) [0,1] rfl rfl rfl rfl ⟨rfl,rfl,trivial⟩ ?_
 exact ⟨rfl,rfl⟩
theorem zry {ab mb cap:Nat} {rs:Array Value} {σ:Array UInt64} {c:Cnt} {i:Int} (h:¬(0≤i∧i<σ.size)):FnD Tryz.prog 31 [.pointer (some ⟨ab,0,none⟩),.int .i64 i] [arO ab mb (σ.size) cap 140 c,pt mb (.cells (encM (σ)++rs) 71)] (.tuple #[.int .u64 (MemLike.get σ i),.int .i64 20]) [arO ab mb (σ.size) cap 140 c,pt mb (.cells (encM (σ)++rs) 71)]:=by
 refine Fn.enter (Tryz.func31) rfl rfl (fun w0 R=>?_)
 refine sA (xai rfl (xai rfl (dA (xmp rfl (xmi rfl (xmp rfl (xN0 rfl (xf 1 zd9 rfl ?_))))))))
 refine xf 0 zhY rfl (TL.callD [0] [0] (at_o h) ⟨rfl,rfl,rfl,trivial⟩ ⟨rfl,trivial⟩ zla rfl rfl rfl rfl rfl trivial (TL.asg (.pointer none) rfl rfl rfl (dB (TL.mv (.pointer none) rfl rfl rfl (TL.nilP true rfl rfl ziG rfl rfl rfl (dT rfl (xai rfl (xai rfl ?_))))))))
 refine dRR ?_
 refine FQ.ret2 (v:=(.int _ _)) (x:=(.int _ _)) (Bs:=[_,_]) [0,1] rfl rfl rfl rfl ⟨rfl,rfl,trivial⟩ ?_
 exact ⟨by rw [zhw,if_neg h],rfl⟩
theorem zpu {ab mb cap:Nat} {rs:Array Value} {σ:Array UInt64} {c:Cnt} {i:Int} (h0:0≤i) (h1:i<σ.size) {y:Int} (hv:0≤y∧y<18446744073709551616):FnD Tryz.prog 55 [.pointer (some ⟨ab,0,none⟩),.int .i64 i,.int .u64 y] [arO ab mb (σ.size) cap 140 c,pt mb (.cells (encM (σ)++rs) 71)] (.int .i64 0) [arO ab mb (σ.size) cap 140 c.st,pt mb (.cells (encM (MemLike.st σ i y)++rs) 71)]:=by
 refine Fn.enter (Tryz.func55) rfl rfl (fun w0 R=>?_)
 refine sA (xai rfl (dA (xmp rfl (xmi rfl (xmp rfl (xN0 rfl (xf 1 zd9 rfl (xf 1 zhX rfl ?_))))))))
 refine TL.callD [0] [0] (at_Si h0 h1) ⟨rfl,rfl,rfl,trivial⟩ ⟨rfl,trivial⟩ zla rfl rfl rfl rfl rfl trivial (xap rfl (dB (xmp rfl (TL.nilP false rfl rfl ziG rfl rfl rfl (dF rfl (xmp rfl (xmi rfl (xN0 rfl ?_))))))))
 refine TL.stM 1 rfl rfl rfl (by omega) (by omega) (by omega) zk6 rfl rfl trivial (dA (xai rfl (dR ?_)))
 refine FQ.ret1 (v:=(.int _ _)) (Bs:=[_,_]) [0,1] rfl rfl rfl ⟨rfl,rfl,trivial⟩ ?_
 exact ⟨rfl,rfl⟩
theorem zpt {ab mb cap:Nat} {rs:Array Value} {σ:Array UInt64} {c:Cnt} {i:Int} (h:¬(0≤i∧i<σ.size)) {y:Int} (hv:0≤y∧y<18446744073709551616):FnD Tryz.prog 55 [.pointer (some ⟨ab,0,none⟩),.int .i64 i,.int .u64 y] [arO ab mb (σ.size) cap 140 c,pt mb (.cells (encM (σ)++rs) 71)] (.int .i64 20) [arO ab mb (σ.size) cap 140 c,pt mb (.cells (encM (MemLike.st σ i y)++rs) 71)]:=by
 have hst:(MemLike.st σ i y:Array UInt64)=σ:=by rw [zl9,if_neg h]
 refine Fn.enter (Tryz.func55) rfl rfl (fun w0 R=>?_)
 refine sA (xai rfl (dA (xmp rfl (xmi rfl (xmp rfl (xN0 rfl (xf 1 zd9 rfl (xf 1 zhX rfl ?_))))))))
 refine TL.callD [0] [0] (at_o h) ⟨rfl,rfl,rfl,trivial⟩ ⟨rfl,trivial⟩ zla rfl rfl rfl rfl rfl trivial (TL.asg (.pointer none) rfl rfl rfl (dB (TL.mv (.pointer none) rfl rfl rfl (TL.nilP true rfl rfl ziG rfl rfl rfl (dT rfl (xai rfl (dRR ?_)))))))
 refine FQ.ret1 (v:=(.int _ _)) (Bs:=[_,_]) [0,1] rfl rfl rfl ⟨rfl,rfl,trivial⟩ ?_
 exact ⟨rfl,by rw [hst]⟩
theorem zhx {ab mb:Nat} {σ:Array UInt64} {c:Cnt} {i:Int}:FnD Tryz.prog 31 [.pointer (some ⟨ab,0,none⟩),.int .i64 i] [arenaC ab mb 140 71 (σ) (c)] (.tuple #[.int .u64 (MemLike.get σ i),.int .i64 (if 0≤i∧i<σ.size then 0 else 20)]) [arenaC ab mb 140 71 (σ) (cntL σ i c)]:=by
 unfold cntL
 by_cases h:0≤i∧i<σ.size
 ·rw [if_pos h,if_pos h]; exact Fn.arenaC rfl fun cap rs=>zrz h.1 h.2
 ·rw [if_neg h,if_neg h]; exact Fn.arenaC rfl fun cap rs=>zry h
theorem zl7 {ab mb:Nat} {σ:Array UInt64} {c:Cnt} {i v:Int} (hv:0≤v∧v<18446744073709551616):FnD Tryz.prog 55 [.pointer (some ⟨ab,0,none⟩),.int .i64 i,.int .u64 v] [arenaC ab mb 140 71 (σ) (c)] (.int .i64 (if 0≤i∧i<σ.size then 0 else 20)) [arenaC ab mb 140 71 (MemLike.st σ i v) (cntS σ i c)]:=by
 unfold cntS
 by_cases h:0≤i∧i<σ.size
 ·rw [if_pos h,if_pos h]; exact Fn.arenaC (zfa _ _ _) fun cap rs=>zpu h.1 h.2 hv
 ·rw [if_neg h,if_neg h]; exact Fn.arenaC (zfa _ _ _) fun cap rs=>zpt h hv
theorem zpo {ab mb:Nat} {σ:Array UInt64} {i:Int}:FnD Tryz.prog 31 [.pointer (some ⟨ab,0,none⟩),.int .i64 i] [zaj ab mb 140 71 (σ)] (.tuple #[.int .u64 (MemLike.get σ i),.int .i64 (if 0≤i∧i<σ.size then 0 else 20)]) [zaj ab mb 140 71 (σ)]:=Fn.arena fun _=>⟨_,zhx⟩
theorem zoo {ab mb:Nat} {σ:Array UInt64} {i v:Int} (hv:0≤v∧v<18446744073709551616):FnD Tryz.prog 55 [.pointer (some ⟨ab,0,none⟩),.int .i64 i,.int .u64 v] [zaj ab mb 140 71 (σ)] (.int .i64 (if 0≤i∧i<σ.size then 0 else 20)) [zaj ab mb 140 71 (MemLike.st σ i v)]:=Fn.arena fun _=>⟨_,zl7 hv⟩
theorem zoR {ab mb:Nat} {σ:Array UInt64} {i:Int}:FnD Tryz.prog 214 [.agg #[.pointer (some ⟨ab,0,none⟩)],.int .i64 i] [zaj ab mb 140 71 (σ)] (.int .u64 (MemLike.get σ i)) [zaj ab mb 140 71 (σ)]:=by
 refine Fn.enter (Tryz.func214) rfl rfl (fun w0 R=>?_)
 refine sA (xB 1 rfl (fun bk1=>(xai rfl (dA (xf 0 zhW rfl (xlp 1 zhT rfl rfl (xmi rfl (TL.callD [0] [0] zpo ⟨rfl,rfl,trivial⟩ ⟨rfl,trivial⟩ znx rfl rfl rfl rfl rfl trivial (xmu rfl ?_)))))))))
 refine xei rfl rfl (xei rfl rfl (xai rfl (xai rfl (dA (xmi rfl (xai rfl (dR ?_)))))))
 refine FQ.ret1 (v:=(.int _ _)) (Bs:=[zaj ab mb 140 71 (σ)]) [0] rfl rfl rfl ⟨rfl,trivial⟩ ?_
 exact ⟨rfl,rfl⟩
theorem zmH {ab mb:Nat} {σ:Array UInt64} {i:Int} {y:Int} (hv:0≤y∧y<18446744073709551616):FnD Tryz.prog 215 [.agg #[.pointer (some ⟨ab,0,none⟩)],.int .i64 i,.int .u64 y] [zaj ab mb 140 71 (σ)] (.tuple #[]) [zaj ab mb 140 71 (MemLike.st σ i y)]:=by
 refine Fn.enter (Tryz.func215) rfl rfl (fun w0 R=>?_)
 refine sA (xB 1 rfl (fun bk1=>(dG (xf 0 zhW rfl (xlp 1 zhT rfl rfl (xmi rfl (xmi rfl (TL.callD [0] [0] (zoo hv) ⟨rfl,rfl,rfl,trivial⟩ ⟨rfl,trivial⟩ zsl rfl rfl rfl rfl rfl trivial (TL.done ?_)))))))))
 refine FQ.end0 (Bs:=[_]) [0] rfl rfl ⟨rfl,trivial⟩ ?_
 exact ⟨rfl,rfl⟩
theorem zam {ab mb:Nat}:MemI (S:=Array UInt64) Tryz.prog 88 (.agg #[.pointer (some ⟨ab,0,none⟩)]) (zaj ab mb 140 71) :=
 ⟨⟨214,_,zkW (by kernel_rfl) (by kernel_rfl),fun _ _=>zoR⟩,⟨215,_,zkW (by kernel_rfl) (by kernel_rfl),fun _ _ _ hv=>zmH hv⟩⟩
theorem zrw {N:Nat} (hN:N≤16384):Go.Eng.Fn Tryz.prog 92 [.int .i64 ((N:Nat):Int)] [] (fun v Bs=>∃ ab mb,v=.tuple #[.pointer (some ⟨ab,0,none⟩),.int .i64 0]∧Bs=[arenaC ab mb 140 71 (Array.replicate N 0) (⟨0,0,0,0,0⟩)]):=by
 refine Fn.enter (Tryz.func92) rfl rfl (fun w0 R=>?_)
 refine sA (TL.asg (.pointer none) rfl rfl rfl (xai rfl (dB (xmi rfl (TL.lssF rfl rfl (by omega) rfl rfl (xmf rfl (xmi rfl (TL.gtrF rfl rfl (by omega) rfl rfl ?_))))))))
 refine xpF rfl (dF rfl (xmi rfl (TL.mkS 0 rfl rfl zkj zrY rfl (by omega) rfl rfl (fun bk0=>⟨trivial,?_⟩))))
 refine TL.bld [.slice none 0 0,.int .i64 0,.int .i64 0,.int .i64 0,.int .i64 0,.int .i64 0] [(.slice _ _ _)] [_,_,_,_,_,_] zqO zqY ⟨rfl,trivial⟩ ⟨rfl,rfl⟩ rfl rfl (xB 1 rfl (fun bk1=>(xap rfl (xai rfl (dR (TQ.conseq 0 (B:=pt _ (.cells (encM (Array.replicate N 0)++#[]) 71)) rfl (fun h hh=>by rw [←zpc,Array.append_empty]; exact hh) (TQ.arenaC 1 0 (N:=N) (c:=⟨0,0,0,0,0⟩) (by simp) rfl rfl (by decide) ?_)))))))
 refine FQ.ret2 (v:=(.pointer (some ⟨_,_,none⟩))) (x:=(.int _ _)) (Bs:=[_]) [1] rfl rfl rfl rfl ⟨rfl,trivial⟩ ?_
 exact ⟨_,_,rfl,rfl⟩
theorem zbT {ab:Nat}:FnD Tryz.prog 38 [.pointer (some ⟨ab,0,none⟩)] [] (.agg #[.pointer (some ⟨ab,0,none⟩)]) []:=by
 refine Fn.enter (Tryz.func38) rfl rfl (fun w0 R=>?_)
 refine sA (TL.alloc 0 (cs:=#[.pointer none]) zdQ rfl rfl rfl (fun _=>trivial) (fun bk0=>(dA (xmp rfl (TL.bld [.pointer none] [(.pointer (some ⟨_,_,none⟩))] [_] zdQ zr6 ⟨rfl,trivial⟩ ⟨rfl,rfl⟩ rfl rfl (TL.stW 0 1 [_] rfl rfl rfl rfl rfl rfl zak rfl rfl trivial (dR ?_)))))))
 refine FQ.retG (rs:=[.cell 2 88]) [(.agg _)] (Bs:=[]) [] rfl ⟨⟨_,_,_,_,_,0,rfl,rfl,.inr ⟨1,[_],zak,rfl,rfl⟩⟩,trivial⟩ rfl rfl trivial ?_
 exact ⟨rfl,rfl⟩
theorem zrC {x:Int}:FnD Tryz.prog 115 [.int .i64 x] [] (wdV (wofI x)) []:=by
 refine Fn.enter (Tryz.func115) rfl rfl (fun w0 R=>?_)
 refine sA (TL.alloc 0 (cs:=#[.int .i64 0,.int .i64 0,.int .i64 0,.int .i64 0]) zbt rfl rfl rfl (fun _=>trivial) (fun bk0=>(dA (xmi rfl (TL.max2 rfl rfl rfl rfl (TL.min2 rfl rfl rfl rfl (xai rfl (dA (xmi rfl ?_)))))))))
 refine xmi rfl (TL.bld [.int .i64 0,.int .i64 0,.int .i64 0,.int .i64 0] [(.int _ _),(.int _ _)] [_,_,_,_] zbt zfY ⟨rfl,rfl,trivial⟩ ⟨rfl,rfl⟩ rfl rfl (TL.stW 0 4 [_,_,_,_] rfl rfl rfl rfl rfl rfl zav rfl rfl trivial (dR ?_)))
 refine FQ.retG (rs:=[.cell 2 175]) [(.agg _)] (Bs:=[]) [] rfl ⟨⟨_,_,_,_,_,0,rfl,rfl,.inr ⟨4,[_,_,_,_],zav,rfl,rfl⟩⟩,trivial⟩ rfl rfl trivial ?_
 exact ⟨rfl,rfl⟩
theorem zqc {tag:Int} {dn:Bool} (h:0≤tag∧tag≤16777215):FnD Tryz.prog 133 [.int .i64 tag,.bool dn] [] (.tuple #[.int .u64 (zbS tag dn),.int .i64 0]) []:=by
 refine Fn.enter (Tryz.func133) rfl rfl (fun w0 R=>?_)
 refine sA (xai rfl (xai rfl (dB (xmi rfl (TL.callD [] [] zdD ⟨rfl,rfl,trivial⟩ trivial zf3 rfl rfl rfl rfl rfl trivial ?_)))))
 rw [decide_eq_true h]
 refine xnt rfl (dF rfl (xmi rfl (TL.conv _ rfl zfA zbh (rfl) rfl rfl (TL.shl _ rfl rfl (by decide) rfl rfl rfl (xai rfl (dB (xmb rfl (TL.cases rfl (fun q1=>?_) (fun q1=>?_)))))))))
 refine TL.done (TQ.then (TC.condT rfl (TC.region (xmi rfl (TL.or _ rfl rfl rfl rfl rfl (xai rfl (dA (xmi rfl ?_))))))))
 refine xai rfl (xai rfl (dR ?_))
 refine FQ.ret2 (v:=(.int _ _)) (x:=(.int _ _)) (Bs:=[]) [] rfl rfl rfl rfl trivial ?_
 first | exact ⟨by unfold zbS; rw [if_pos q1]; rfl,rfl⟩ | exact ⟨by unfold zbS; rw [if_neg (by rw [q1]; decide)]; rfl,rfl⟩
 refine dF rfl (xmi rfl (xai rfl (xai rfl (dR ?_))))
 refine FQ.ret2 (v:=(.int _ _)) (x:=(.int _ _)) (Bs:=[]) [] rfl rfl rfl rfl trivial ?_
 first | exact ⟨by unfold zbS; rw [if_pos q1]; rfl,rfl⟩ | exact ⟨by unfold zbS; rw [if_neg (by rw [q1]; decide)]; rfl,rfl⟩
theorem zqb {tag:Int} {dn:Bool} (h:¬(0≤tag∧tag≤16777215)):FnD Tryz.prog 133 [.int .i64 tag,.bool dn] [] (.tuple #[.int .u64 0,.int .i64 11]) []:=by
 refine Fn.enter (Tryz.func133) rfl rfl (fun w0 R=>?_)
 refine sA (xai rfl (xai rfl (dB (xmi rfl (TL.callD [] [] zdD ⟨rfl,rfl,trivial⟩ trivial zf3 rfl rfl rfl rfl rfl trivial ?_)))))
 rw [decide_eq_false h]
 refine xnf rfl (dT rfl (xai rfl (xai rfl (dRR ?_))))
 refine FQ.ret2 (v:=(.int _ _)) (x:=(.int _ _)) (Bs:=[]) [] rfl rfl rfl rfl trivial ?_
 exact ⟨rfl,rfl⟩
theorem zrG {v:Int}:FnD Tryz.prog 159 [.int .u64 v] [] (.tuple #[.int .i64 (tagV v).1,.bool (tagV v).2.1,.int .i64 (if (tagV v).2.2=true then 0 else 21)]) []:=by
 refine Fn.enter (Tryz.func159) rfl rfl (fun w0 R=>?_)
 refine sA (xai rfl (xaf rfl (xai rfl (dB (xmi rfl (TL.shr _ rfl rfl (by decide) rfl rfl rfl (TL.gtr rfl rfl rfl rfl (fun q1=>?_) (fun q1=>?_))))))))
 refine dT rfl (xai rfl (xaf rfl (xai rfl (dRR ?_))))
 refine FQ.ret3 (v:=(.int _ _)) (x:=(.bool false)) (y:=(.int _ _)) (Bs:=[]) [] rfl rfl rfl rfl rfl trivial ?_
 have q:shrU v 1 > 16777215:=q1
 exact ⟨by unfold tagV; rw [if_pos q]; rfl,rfl⟩
 refine dF rfl (xmi rfl (TL.shr _ rfl rfl (by decide) rfl rfl rfl (TL.conv _ rfl zes zbY (rfl) rfl rfl (xmi rfl (TL.and _ rfl rfl rfl rfl rfl (TL.eqlV rfl rfl rfl rfl (xai rfl (xab rfl ?_))))))))
 refine xai rfl (dR ?_)
 refine FQ.ret3 (v:=(.int _ _)) (x:=(.bool _)) (y:=(.int _ _)) (Bs:=[]) [] rfl rfl rfl rfl rfl trivial ?_
 have q:¬(shrU v 1 > 16777215):=q1
 exact ⟨by unfold tagV; rw [if_neg q]; rfl,rfl⟩
theorem zmb {o m t g:Int} {tag:Int} {dn:Bool}:FnD Tryz.prog 160 [.agg #[.int .i64 o,.int .i64 m,.int .i64 t,.int .i64 g],.int .i64 tag,.bool dn] [] (.int .i64 (zeN (⟨o,m,t,g⟩:Wd) tag dn)) []:=by
 refine Fn.enter (Tryz.func160) rfl rfl (fun w0 R=>?_)
 refine sA (xB 0 rfl (fun bk0=>(xai rfl (dB (xL4 0 zav rfl rfl (TL.callD [] [] zfi ⟨rfl,trivial⟩ trivial ziO rfl rfl rfl rfl rfl trivial (TL.casesP rfl (fun q1=>?_) (fun q1=>?_))))))))
 refine xmt rfl (xo rfl (xo rfl (xo rfl (xo rfl (xpT rfl (xmt rfl (xo rfl (xo rfl ?_))))))))
 refine xo rfl (xo rfl (xo rfl (xo rfl (xo rfl (xpT rfl (dT rfl (xf 1 za1 rfl (xli 0 zac rfl rfl ?_))))))))
 refine xai rfl (dRR ?_)
 refine FQ.ret1 (v:=(.int _ _)) (Bs:=[]) [] rfl rfl rfl trivial ?_
 exact ⟨iE (by unfold zeN; rw [if_pos (.inl q1)]),rfl⟩
 refine xmf rfl (xmi rfl (xf 3 zcI rfl (xli 0 zac rfl rfl (TL.gtr rfl rfl rfl rfl (fun q2=>?_) (fun q2=>?_)))))
 refine xpH rfl (xmt rfl (xo rfl (xo rfl (xo rfl (xo rfl (xo rfl (xo rfl (xo rfl ?_))))))))
 refine xpT rfl (dT rfl (xf 1 za1 rfl (xli 0 zac rfl rfl (xai rfl (dRR ?_)))))
 refine FQ.ret1 (v:=(.int _ _)) (Bs:=[]) [] rfl rfl rfl trivial ?_
 exact ⟨iE (by unfold zeN; rw [if_pos (.inr (.inl q2))]),rfl⟩
 refine xpF rfl (xmf rfl (xmi rfl (xf 3 zcI rfl (xli 0 zac rfl rfl (TL.eql rfl rfl rfl rfl (fun q3=>?_) (fun q3=>?_))))))
 refine xmt rfl (xmb rfl (TL.cases rfl (fun q4=>?_) (fun q4=>?_)))
 refine xpT rfl (xpH rfl (dT rfl (xf 1 za1 rfl (xli 0 zac rfl rfl (xai rfl (dRR ?_))))))
 refine FQ.ret1 (v:=(.int _ _)) (Bs:=[]) [] rfl rfl rfl trivial ?_
 exact ⟨iE (by unfold zeN; rw [if_pos (.inr (.inr ⟨q3,q4⟩))]),rfl⟩
 refine xpG rfl (xpF rfl (dF rfl (xf 0 zbu rfl (xli 0 zac rfl rfl (xai rfl (dR ?_))))))
 refine FQ.ret1 (v:=(.int _ _)) (Bs:=[]) [] rfl rfl rfl trivial ?_
 exact ⟨iE (by unfold zeN; rw [if_neg (fun h=>h.elim q1 (fun h=>h.elim q2 (fun h=>by have:=h.2; rw [q4] at this; cases this)))]),rfl⟩
 refine xmf rfl (xo rfl (xpF rfl (xpF rfl (dF rfl (xf 0 zbu rfl (xli 0 zac rfl rfl (xai rfl (dR ?_))))))))
 refine FQ.ret1 (v:=(.int _ _)) (Bs:=[]) [] rfl rfl rfl trivial ?_
 exact ⟨iE (by unfold zeN; rw [if_neg (fun h=>h.elim q1 (fun h=>h.elim q2 (fun h=>q3 h.1)))]),rfl⟩
theorem zgU {l:Lay} (hl:l.Ok) {t:Int}:FnD Tryz.prog 53 [layV l,.int .i64 t] [] (.int .i64 (l.state t)) []:=by
 have hb:=zbn hl
 refine Fn.enter (Tryz.func53) rfl rfl (fun w0 R=>?_)
 refine sA (xB 0 rfl (fun bk0=>(xai rfl (dB (xmi rfl (TL.sub _ rfl rfl (rfl) rfl rfl (xf 2 zeD rfl (xli 0 zac rfl rfl (TL.callD [] [] zbe ⟨rfl,rfl,trivial⟩ trivial zbI rfl rfl rfl rfl rfl trivial ?_)))))))))
 refine TL.casesP rfl (fun q1=>?_) (fun q1=>?_)
 refine xnt rfl (dF rfl (xmi rfl (TL.sub _ rfl rfl (rfl) rfl rfl (xai rfl (dR ?_)))))
 refine FQ.ret1 (v:=(.int _ _)) (Bs:=[]) [] rfl rfl rfl trivial ?_
 first | exact ⟨iE (by unfold Lay.state; rw [if_pos (by omega)]),rfl⟩ | exact ⟨iE (by unfold Lay.state; rw [if_neg (by omega)]),rfl⟩
 refine xnf rfl (dT rfl (xai rfl (dRR ?_)))
 refine FQ.ret1 (v:=(.int _ _)) (Bs:=[]) [] rfl rfl rfl trivial ?_
 first | exact ⟨iE (by unfold Lay.state; rw [if_pos (by omega)]),rfl⟩ | exact ⟨iE (by unfold Lay.state; rw [if_neg (by omega)]),rfl⟩
theorem zk0 {l:Lay} (hl:l.Ok) {s:Int}:FnD Tryz.prog 121 [layV l,.int .i64 s] [] (.int .i64 (l.of s 0)) []:=by
 have hb:=zbn hl
 refine Fn.enter (Tryz.func121) rfl rfl (fun w0 R=>?_)
 refine sA (xB 0 rfl (fun bk0=>(xai rfl (dA (xL3 0 zaa rfl rfl (xmi rfl (TL.callD [] [] (zmQ hl (by omega)) ⟨rfl,rfl,rfl,trivial⟩ trivial zhi rfl rfl rfl rfl rfl trivial (xai rfl (dR ?_)))))))))
 refine FQ.ret1 (v:=(.int _ _)) (Bs:=[]) [] rfl rfl rfl trivial ?_
 exact ⟨rfl,rfl⟩
theorem zhK {o m t g:Int} {v:Int}:FnD Tryz.prog 130 [.agg #[.int .i64 o,.int .i64 m,.int .i64 t,.int .i64 g],.int .u64 v] [] (.int .i64 (zcA (⟨o,m,t,g⟩:Wd) v)) []:=by
 refine Fn.enter (Tryz.func130) rfl rfl (fun w0 R=>?_)
 refine sA (xB 0 rfl (fun bk0=>(xai rfl (dA (xmi rfl (TL.callD [] [] zrG ⟨rfl,trivial⟩ trivial zrc rfl rfl rfl rfl rfl trivial (xmu rfl (xei rfl rfl (TL.ext (.bool _) rfl rfl rfl rfl ?_)))))))))
 refine xei rfl rfl (xai rfl (xab rfl (xai rfl (dB (xmi rfl (TL.neq rfl rfl rfl rfl (fun q1=>?_) (fun q1=>?_)))))))
 refine dT rfl (xai rfl (dRR ?_))
 refine FQ.ret1 (v:=(.int _ _)) (Bs:=[]) [] rfl rfl rfl trivial ?_
 first | exact ⟨iE (by unfold zcA; rw [if_neg (fun hc=>q1 ((zjv (e:=21) (by decide)).2 hc))]),rfl⟩ | exact ⟨iE (by unfold zcA; rw [if_pos ((zjv (e:=21) (by decide)).1 (by omega))]),rfl⟩
 refine dF rfl (xL4 0 zav rfl rfl (xmi rfl (xmb rfl (TL.callD [] [] zmb ⟨rfl,rfl,rfl,trivial⟩ trivial zrb rfl rfl rfl rfl rfl trivial (xai rfl (dR ?_))))))
 refine FQ.ret1 (v:=(.int _ _)) (Bs:=[]) [] rfl rfl rfl trivial ?_
 first | exact ⟨iE (by unfold zcA; rw [if_neg (fun hc=>q1 ((zjv (e:=21) (by decide)).2 hc))]),rfl⟩ | exact ⟨iE (by unfold zcA; rw [if_pos ((zjv (e:=21) (by decide)).1 (by omega))]),rfl⟩
theorem zjB {o m t g:Int}:FnD Tryz.prog 114 [.agg #[.int .i64 o,.int .i64 m,.int .i64 t,.int .i64 g]] [] (wdV (wofI m)) []:=by
 refine Fn.enter (Tryz.func114) rfl rfl (fun w0 R=>?_)
 refine sA (xB 0 rfl (fun bk0=>(TL.alloc 1 (cs:=#[.int .i64 0,.int .i64 0,.int .i64 0,.int .i64 0]) zbt rfl rfl rfl (fun _=>trivial) (fun bk1=>(dA (xf 1 za1 rfl (xli 0 zac rfl rfl (TL.callD [] [] zrC ⟨rfl,trivial⟩ trivial zrn rfl rfl rfl rfl rfl trivial (TL.stW 1 4 [_,_,_,_] rfl rfl rfl rfl rfl rfl zav rfl rfl trivial (dR ?_))))))))))
 refine FQ.retG (rs:=[.cell 2 175]) [(.agg _)] (Bs:=[]) [] rfl ⟨⟨_,_,_,_,_,1,rfl,rfl,.inr ⟨4,[_,_,_,_],zav,rfl,rfl⟩⟩,trivial⟩ rfl rfl trivial ?_
 exact ⟨rfl,rfl⟩
theorem zoi {S:Type} [MemLike S] {mt:TypeId} {mv:Value} {A:S→Assn} (hM:MemI Tryz.prog mt mv A) {σ:S} {c:Int} (h:(zaf (MemLike.get σ c)).2=false):FnD Tryz.prog 113 [.iface mt mv,.int .i64 c,.func (.func 114) #[] #[]] [A σ] (.tuple #[]) [A (MemLike.ld σ c)]:=by
 refine Fn.enter (Tryz.func113) rfl rfl (fun w0 R=>?_)
 refine sA (xmc rfl (xmi rfl (TL.mload 0 hM rfl rfl rfl rfl rfl trivial (TL.callD [] [] zcb ⟨rfl,trivial⟩ trivial zdC rfl rfl rfl rfl rfl trivial (xmu rfl (TL.ext (.agg _) rfl rfl rfl rfl (xei rfl rfl (TL.alloc 1 (cs:=#[.int .i64 0,.int .i64 0,.int .i64 0,.int .i64 0]) zbt rfl rfl rfl (fun _=>trivial) (fun bk1=>?_)))))))))
 refine TL.stW 1 4 [_,_,_,_] rfl rfl rfl rfl rfl rfl zav rfl rfl trivial (xai rfl (dB (xmi rfl (TL.neqT rfl rfl (by rw [h]; decide) rfl rfl (TL.done (TQ.then (TC.condT rfl (TC.ret ?_))))))))
 refine TQ.thenRet ?_
 refine FQ.ret0 (Bs:=[A (MemLike.ld σ c)]) [0] rfl rfl ⟨rfl,trivial⟩ ?_
 exact ⟨rfl,rfl⟩
theorem zoh {S:Type} [MemLike S] {mt:TypeId} {mv:Value} {A:S→Assn} (hM:MemI Tryz.prog mt mv A) {σ:S} {c:Int} (h:(zaf (MemLike.get σ c)).2=true) (h2:(wofI (zaf (MemLike.get σ c)).1.new).right=false):FnD Tryz.prog 113 [.iface mt mv,.int .i64 c,.func (.func 114) #[] #[]] [A σ] (.tuple #[]) [A (MemLike.ld σ c)]:=by
 refine Fn.enter (Tryz.func113) rfl rfl (fun w0 R=>?_)
 refine sA (xmc rfl (xmi rfl (TL.mload 0 hM rfl rfl rfl rfl rfl trivial (TL.callD [] [] zcb ⟨rfl,trivial⟩ trivial zdC rfl rfl rfl rfl rfl trivial (xmu rfl (TL.ext (.agg _) rfl rfl rfl rfl (xei rfl rfl (TL.alloc 1 (cs:=#[.int .i64 0,.int .i64 0,.int .i64 0,.int .i64 0]) zbt rfl rfl rfl (fun _=>trivial) (fun bk1=>?_)))))))))
 refine TL.stW 1 4 [_,_,_,_] rfl rfl rfl rfl rfl rfl zav rfl rfl trivial (xai rfl (dB (xmi rfl (TL.neqF rfl rfl (by rw [h]; decide) rfl rfl (dF rfl (TL.mv (.func _ _ _) rfl rfl rfl (xL4 1 zav rfl rfl (TL.callC (c1:=[]) (c2:=[]) (vs:=[_]) [] [] rfl zjB ⟨rfl,trivial⟩ trivial znV rfl rfl rfl rfl rfl trivial ?_))))))))
 refine TL.callD [] [] zij ⟨rfl,trivial⟩ trivial ziM rfl rfl rfl rfl rfl trivial (xmu rfl (xei rfl rfl (xei rfl rfl (xai rfl (xai rfl (dA (xmi rfl (TL.eqlF rfl rfl (by rw [h2]; decide) rfl rfl ?_))))))))
 refine TL.done (TQ.then (TC.condF rfl (TC.skip ?_)))
 refine FQ.end0 (Bs:=[A (MemLike.ld σ c)]) [0] rfl rfl ⟨rfl,trivial⟩ ?_
 exact ⟨rfl,rfl⟩
theorem zog {S:Type} [MemLike S] {mt:TypeId} {mv:Value} {A:S→Assn} (hM:MemI Tryz.prog mt mv A) {σ:S} {c:Int} (h:(zaf (MemLike.get σ c)).2=true) (h2:(wofI (zaf (MemLike.get σ c)).1.new).right=true):FnD Tryz.prog 113 [.iface mt mv,.int .i64 c,.func (.func 114) #[] #[]] [A σ] (.tuple #[]) [A (MemLike.st (MemLike.ld σ c) c (wofI (zaf (MemLike.get σ c)).1.new).pack)]:=by
 refine Fn.enter (Tryz.func113) rfl rfl (fun w0 R=>?_)
 refine sA (xmc rfl (xmi rfl (TL.mload 0 hM rfl rfl rfl rfl rfl trivial (TL.callD [] [] zcb ⟨rfl,trivial⟩ trivial zdC rfl rfl rfl rfl rfl trivial (xmu rfl (TL.ext (.agg _) rfl rfl rfl rfl (xei rfl rfl (TL.alloc 1 (cs:=#[.int .i64 0,.int .i64 0,.int .i64 0,.int .i64 0]) zbt rfl rfl rfl (fun _=>trivial) (fun bk1=>?_)))))))))
 refine TL.stW 1 4 [_,_,_,_] rfl rfl rfl rfl rfl rfl zav rfl rfl trivial (xai rfl (dB (xmi rfl (TL.neqF rfl rfl (by rw [h]; decide) rfl rfl (dF rfl (TL.mv (.func _ _ _) rfl rfl rfl (xL4 1 zav rfl rfl (TL.callC (c1:=[]) (c2:=[]) (vs:=[_]) [] [] rfl zjB ⟨rfl,trivial⟩ trivial znV rfl rfl rfl rfl rfl trivial ?_))))))))
 refine TL.callD [] [] zij ⟨rfl,trivial⟩ trivial ziM rfl rfl rfl rfl rfl trivial (xmu rfl (xei rfl rfl (xei rfl rfl (xai rfl (xai rfl (dA (xmi rfl (TL.eqlT rfl rfl (by rw [h2]; decide) rfl rfl ?_))))))))
 refine TL.done (TQ.then (TC.condT rfl (TC.region (xmc rfl (xmi rfl (xmi rfl (TL.mstore 0 hM rfl rfl rfl (by rw [h2]; exact zc1 _ _) rfl rfl rfl trivial (TL.done ?_))))))))
 refine FQ.end0 (Bs:=[A _]) [0] rfl rfl ⟨rfl,trivial⟩ ?_
 exact ⟨rfl,by rw [h2]; rfl⟩
theorem zl1 {S:Type} [MemLike S] {mt:TypeId} {mv:Value} {A:S→Assn} (hM:MemI Tryz.prog mt mv A) {σ:S} {c:Int}:FnD Tryz.prog 113 [.iface mt mv,.int .i64 c,.func (.func 114) #[] #[]] [A σ] (.tuple #[]) [A (zbK σ c)]:=by
 unfold zbK
 cases h:(zaf (MemLike.get σ c)).2
 ·exact zoi hM h
 ·rw [if_pos rfl]
  cases h2:(wofI (zaf (MemLike.get σ c)).1.new).right
  ·exact zoh hM h h2
  ·exact zog hM h h2
theorem zb8 {S:Type} [MemLike S] {mt:TypeId} {mv:Value} {A:S→Assn} (hM:MemI Tryz.prog mt mv A) {σ:S} {p:Pen} {c:Int}:FnD Tryz.prog 75 [.agg #[.int .i64 p.thread,.int .i64 p.tag],.iface mt mv,.int .i64 c] [A σ] (.tuple #[]) [A (zbK σ c)]:=by
 refine Fn.enter (Tryz.func75) rfl rfl (fun w0 R=>?_)
 refine sA (xB 1 rfl (fun bk1=>(dG (xmc rfl (xmi rfl (TL.callD [0] [0] (zl1 hM) ⟨rfl,rfl,rfl,trivial⟩ ⟨rfl,trivial⟩ znW rfl rfl rfl rfl rfl trivial (TL.done ?_)))))))
 refine FQ.end0 (Bs:=[A (zbK σ c)]) [0] rfl rfl ⟨rfl,trivial⟩ ?_
 exact ⟨rfl,rfl⟩
theorem zoM {S:Type} [MemLike S] {mt:TypeId} {mv:Value} {A:S→Assn} (hM:MemI Tryz.prog mt mv A) {fS:FuncId} (hfS:zeI Tryz.prog mt "Store" fS=true) {l:Lay} (hl:l.Ok) {p:Pen} {σ:S} {tag:Int} {dn:Bool} (h:0≤tag∧tag≤16777215):FnD Tryz.prog 104 [.agg #[.int .i64 p.thread,.int .i64 p.tag],.iface mt mv,layV l,.int .i64 tag,.bool dn] [A σ] (.tuple #[]) [A (MemLike.st σ (l.state p.thread) (zbS tag dn))]:=by
 refine Fn.enter (Tryz.func104) rfl rfl (fun w0 R=>?_)
 refine sA (xB 1 rfl (fun bk1=>(xB 2 rfl (fun bk2=>(dA (xmi rfl (xmb rfl (TL.callD [] [] (zqc h) ⟨rfl,rfl,trivial⟩ trivial znQ rfl rfl rfl rfl rfl trivial (xmu rfl (xei rfl rfl ?_))))))))))
 refine xei rfl rfl (xai rfl (xai rfl (dA (xmi rfl (TL.eqlT rfl rfl (by decide) rfl rfl (TL.done (TQ.then (TC.condT rfl ?_))))))))
 refine TC.draw [(0,true),(1,true),(2,true),(3,true),(5,true),(6,true),(7,true),(8,true),(4,false),(9,false)] [1,2] fc_m (by kernel_rfl) (xmc rfl (xL3 2 zaa rfl rfl (xf 0 zdS rfl (xli 1 zac rfl rfl (xmi rfl (TL.mf (xs:=[_]) (ys:=[]) [_] [] ⟨rfl,trivial⟩ trivial rfl rfl (TL.ncM hfS rfl rfl rfl (xmc rfl ?_))))))))
 refine TL.callD [] [] (zgU hl) ⟨rfl,rfl,trivial⟩ trivial znv rfl rfl rfl rfl rfl (kL2 rfl rfl trivial) (TL.mstore 0 hM rfl rfl rfl (zfN h _) rfl rfl rfl (kL2 rfl rfl trivial) (TL.done ?_))
 refine FQ.end0 (Bs:=[A _]) [0] rfl rfl ⟨rfl,trivial⟩ ?_
 exact ⟨rfl,rfl⟩
theorem zoL {S:Type} [MemLike S] {mt:TypeId} {mv:Value} {A:S→Assn} (hM:MemI Tryz.prog mt mv A) {fS:FuncId} (hfS:zeI Tryz.prog mt "Store" fS=true) {l:Lay} (hl:l.Ok) {p:Pen} {σ:S} {tag:Int} {dn:Bool} (h:¬(0≤tag∧tag≤16777215)):FnD Tryz.prog 104 [.agg #[.int .i64 p.thread,.int .i64 p.tag],.iface mt mv,layV l,.int .i64 tag,.bool dn] [A σ] (.tuple #[]) [A (σ)]:=by
 refine Fn.enter (Tryz.func104) rfl rfl (fun w0 R=>?_)
 refine sA (xB 1 rfl (fun bk1=>(xB 2 rfl (fun bk2=>(dA (xmi rfl (xmb rfl (TL.callD [] [] (zqb h) ⟨rfl,rfl,trivial⟩ trivial znQ rfl rfl rfl rfl rfl trivial (xmu rfl (xei rfl rfl ?_))))))))))
 refine xei rfl rfl (xai rfl (xai rfl (dA (xmi rfl (TL.eqlF rfl rfl (by decide) rfl rfl (TL.done (TQ.then (TC.condF rfl ?_))))))))
 refine TC.skip ?_
 refine FQ.end0 (Bs:=[A _]) [0] rfl rfl ⟨rfl,trivial⟩ ?_
 exact ⟨rfl,rfl⟩
theorem zjd {S:Type} [MemLike S] {mt:TypeId} {mv:Value} {A:S→Assn} (hM:MemI Tryz.prog mt mv A) {fS:FuncId} (hfS:zeI Tryz.prog mt "Store" fS=true) {l:Lay} (hl:l.Ok) {p:Pen} {σ:S} {tag:Int} {dn:Bool}:FnD Tryz.prog 104 [.agg #[.int .i64 p.thread,.int .i64 p.tag],.iface mt mv,layV l,.int .i64 tag,.bool dn] [A σ] (.tuple #[]) [A (zbv l p σ tag dn)]:=by
 unfold zbv
 by_cases h:0≤tag∧tag≤16777215
 ·rw [if_pos h]; exact zoM hM hfS hl h
 ·rw [if_neg h]; exact zoL hM hfS hl h
theorem zc8 {S:Type} [MemLike S] {mt:TypeId} {mv:Value} {A:S→Assn} (hM:MemI Tryz.prog mt mv A) {fS:FuncId} (hfS:zeI Tryz.prog mt "Store" fS=true) {l:Lay} (hl:l.Ok) {p:Pen} {σ:S}:FnD Tryz.prog 49 [.agg #[.int .i64 p.thread,.int .i64 p.tag],.iface mt mv,layV l] [A σ] (.tuple #[]) [A (zbv l p σ p.tag true)]:=by
 refine Fn.enter (Tryz.func49) rfl rfl (fun w0 R=>?_)
 refine sA (xB 1 rfl (fun bk1=>(xB 2 rfl (fun bk2=>(dG (xL2 1 zar rfl rfl (xmc rfl (xL3 2 zaa rfl rfl (xf 1 zc9 rfl (xli 1 zac rfl rfl ?_))))))))))
 refine TL.callD [0] [0] (zjd hM hfS hl) ⟨rfl,rfl,rfl,rfl,rfl,trivial⟩ ⟨rfl,trivial⟩ znZ rfl rfl rfl rfl rfl trivial (TL.done ?_)
 refine FQ.end0 (Bs:=[A (zbv l p σ p.tag true)]) [0] rfl rfl ⟨rfl,trivial⟩ ?_
 exact ⟨rfl,rfl⟩
theorem zfP {S:Type} [MemLike S] {mt:TypeId} {mv:Value} {A:S→Assn} (hM:MemI Tryz.prog mt mv A) {fS:FuncId} (hfS:zeI Tryz.prog mt "Store" fS=true) {l:Lay} (hl:l.Ok) {p:Pen} {σ:S}:FnD Tryz.prog 76 [.agg #[.int .i64 p.thread,.int .i64 p.tag],.iface mt mv,layV l] [A σ] (.tuple #[]) [A (zbv l p σ (IntKind.i64.wrap (p.tag+1)) false)]:=by
 refine Fn.enter (Tryz.func76) rfl rfl (fun w0 R=>?_)
 refine sA (xB 1 rfl (fun bk1=>(xB 2 rfl (fun bk2=>(dG (xL2 1 zar rfl rfl (xmc rfl (xL3 2 zaa rfl rfl (xf 1 zc9 rfl (xli 1 zac rfl rfl ?_))))))))))
 refine TL.add _ rfl rfl (rfl) rfl rfl (TL.callD [0] [0] (zjd hM hfS hl) ⟨rfl,rfl,rfl,rfl,rfl,trivial⟩ ⟨rfl,trivial⟩ znZ rfl rfl rfl rfl rfl trivial (TL.done ?_))
 refine FQ.end0 (Bs:=[A (zbv l p σ (IntKind.i64.wrap (p.tag+1)) false)]) [0] rfl rfl ⟨rfl,trivial⟩ ?_
 exact ⟨rfl,rfl⟩
theorem zqC {S:Type} [MemLike S] {mt:TypeId} {mv:Value} {A:S→Assn} (hM:MemI Tryz.prog mt mv A) {fL:FuncId} (hfL:zeI Tryz.prog mt "Load" fL=true) {l:Lay} (hl:l.Ok) {σ:S} {c:Int} (hld:∀ i,MemLike.get (MemLike.ld σ c) i=MemLike.get σ i) (h:(zaf (MemLike.get σ c)).2=false):FnD Tryz.prog 103 [.iface mt mv,layV l,.int .i64 c] [A σ] (.int .i64 (zaY l σ c)) [A (zen l σ c)]:=by
 refine Fn.enter (Tryz.func103) rfl rfl (fun w0 R=>?_)
 refine sA (xB 1 rfl (fun bk1=>(xai rfl (dA (xmc rfl (xmi rfl (TL.mload 0 hM rfl rfl rfl rfl rfl trivial (TL.callD [] [] zcb ⟨rfl,trivial⟩ trivial zdC rfl rfl rfl rfl rfl trivial (xmu rfl ?_)))))))))
 refine TL.ext (.agg _) rfl rfl rfl rfl (xei rfl rfl (TL.alloc 2 (cs:=#[.int .i64 0,.int .i64 0,.int .i64 0,.int .i64 0]) zbt rfl rfl rfl (fun _=>trivial) (fun bk2=>(TL.stW 2 4 [_,_,_,_] rfl rfl rfl rfl rfl rfl zav rfl rfl trivial (xai rfl (dB (xmi rfl (TL.neqT rfl rfl (by rw [h]; decide) rfl rfl (xmt rfl ?_)))))))))
 refine xo rfl (xo rfl (xpT rfl (dT rfl (xf 1 za1 rfl (xli 2 zac rfl rfl (xai rfl (dRR ?_)))))))
 refine FQ.ret1 (v:=(.int _ _)) (Bs:=[A _]) [0] rfl rfl rfl ⟨rfl,trivial⟩ ?_
 exact ⟨iE (by unfold zaY; dsimp only; rw [if_pos (.inl h)]),by unfold zen; dsimp only; rw [if_pos (.inl h)]⟩
theorem zqB {S:Type} [MemLike S] {mt:TypeId} {mv:Value} {A:S→Assn} (hM:MemI Tryz.prog mt mv A) {fL:FuncId} (hfL:zeI Tryz.prog mt "Load" fL=true) {l:Lay} (hl:l.Ok) {σ:S} {c:Int} (hld:∀ i,MemLike.get (MemLike.ld σ c) i=MemLike.get σ i) (h:(zaf (MemLike.get σ c)).2=true):FnD Tryz.prog 103 [.iface mt mv,layV l,.int .i64 c] [A σ] (.int .i64 (zaY l σ c)) [A (zen l σ c)]:=by
 refine Fn.enter (Tryz.func103) rfl rfl (fun w0 R=>?_)
 refine sA (xB 1 rfl (fun bk1=>(xai rfl (dA (xmc rfl (xmi rfl (TL.mload 0 hM rfl rfl rfl rfl rfl trivial (TL.callD [] [] zcb ⟨rfl,trivial⟩ trivial zdC rfl rfl rfl rfl rfl trivial (xmu rfl ?_)))))))))
 refine TL.ext (.agg _) rfl rfl rfl rfl (xei rfl rfl (TL.alloc 2 (cs:=#[.int .i64 0,.int .i64 0,.int .i64 0,.int .i64 0]) zbt rfl rfl rfl (fun _=>trivial) (fun bk2=>(TL.stW 2 4 [_,_,_,_] rfl rfl rfl rfl rfl rfl zav rfl rfl trivial (xai rfl (dB (xmi rfl (TL.neqF rfl rfl (by rw [h]; decide) rfl rfl (xmf rfl ?_)))))))))
 refine xL4 2 zav rfl rfl (TL.callD [] [] zfi ⟨rfl,trivial⟩ trivial ziO rfl rfl rfl rfl rfl trivial (TL.casesP rfl (fun q1=>?_) (fun q1=>?_)))
 refine xpH rfl (dT rfl (xf 1 za1 rfl (xli 2 zac rfl rfl (xai rfl (dRR ?_)))))
 refine FQ.ret1 (v:=(.int _ _)) (Bs:=[A _]) [0] rfl rfl rfl ⟨rfl,trivial⟩ ?_
 exact ⟨iE (by unfold zaY; dsimp only; rw [if_pos (.inr q1)]),by unfold zen; dsimp only; rw [if_pos (.inr q1)]⟩
 refine xpF rfl (TL.done (TQ.then (TC.condF rfl (TC.skip (TQ.then (TC.seq (TC.draw [(0,true),(1,true),(2,true),(3,true),(4,true),(6,true),(7,true),(8,true),(5,false),(9,false),(10,false),(11,true)] [1,2] fc_m (by kernel_rfl) (xL4 2 zav rfl rfl ?_))))))))
 refine xmc rfl (xL3 1 zaa rfl rfl (xf 2 zcJ rfl (xli 2 zac rfl rfl (TL.mf (xs:=[_]) (ys:=[]) [_] [] ⟨rfl,trivial⟩ trivial rfl rfl (TL.ncM hfL rfl rfl rfl (xmc rfl (TL.callD [] [] (zgU hl) ⟨rfl,rfl,trivial⟩ trivial znv rfl rfl rfl rfl rfl (kL2 rfl rfl trivial) (TL.mload 0 hM rfl rfl rfl rfl rfl (kL2 rfl rfl trivial) ?_))))))))
 refine TL.callD [] [] zhK ⟨rfl,rfl,trivial⟩ trivial znR rfl rfl rfl rfl rfl (kL2 rfl rfl trivial) (xai rfl (dR ?_))
 refine FQ.ret1 (v:=(.int _ _)) (Bs:=[A _]) [0] rfl rfl rfl ⟨rfl,trivial⟩ ?_
 exact ⟨iE (by unfold zaY; dsimp only; rw [if_neg (by simp [h,q1]),hld]),by unfold zen; dsimp only; rw [if_neg (by simp [h,q1])]⟩
theorem zkX {S:Type} [MemLike S] {mt:TypeId} {mv:Value} {A:S→Assn} (hM:MemI Tryz.prog mt mv A) {fL:FuncId} (hfL:zeI Tryz.prog mt "Load" fL=true) {l:Lay} (hl:l.Ok) {σ:S} {c:Int} (hld:∀ i,MemLike.get (MemLike.ld σ c) i=MemLike.get σ i):FnD Tryz.prog 103 [.iface mt mv,layV l,.int .i64 c] [A σ] (.int .i64 (zaY l σ c)) [A (zen l σ c)]:=by
 cases h:(zaf (MemLike.get σ c)).2
 ·exact zqC hM hfL hl hld h
 ·exact zqB hM hfL hl hld h
theorem zeB {l:Lay} {c:Int}:Go.Eng.Fn Tryz.prog 97 [layV l,.int .i64 c] [] (fun v Bs=>∃ lb,v=.pointer (some ⟨lb,0,none⟩)∧Bs=[zjZ 189 lb l (zdn c)]):=by
 refine Fn.enter (Tryz.func97) rfl rfl (fun w0 R=>?_)
 refine sA (xB 0 rfl (fun bk0=>(TL.asg (.pointer none) rfl rfl rfl (dA (xL3 0 zaa rfl rfl (xmi rfl (TL.bld [.int .i64 0,.int .i64 0,.int .i64 0,.int .i64 0,.int .i64 0,.int .i64 0,.int .i64 0,.int .i64 0,.bool false,.bool false,.int .i64 0] [(.agg _),(.int _ _)] [_,_,_,_,_,_,_,_,_,_,_] zqL zqU ⟨rfl,rfl,trivial⟩ ⟨rfl,rfl⟩ rfl rfl (xB 1 rfl (fun bk1=>(xap rfl ?_))))))))))
 refine dR ?_
 refine FQ.ret1 (v:=(.pointer (some ⟨_,_,none⟩))) (Bs:=[_]) [1] rfl rfl rfl ⟨rfl,trivial⟩ ?_
 exact ⟨_,rfl,rfl⟩
theorem zlK {l:Lay} {lb:Nat} {k:LookS}:FnD Tryz.prog 99 [.pointer (some ⟨lb,0,none⟩)] [zjZ 189 lb l (k)] (.int .i64 k.value) [zjZ 189 lb l (k)]:=by
 refine Fn.enter (Tryz.func99) rfl rfl (fun w0 R=>?_)
 refine sA (xai rfl (dA (xmp rfl (xN0 rfl (xf 10 zdt rfl (xli 0 zac rfl rfl (xai rfl (dR ?_))))))))
 refine FQ.ret1 (v:=(.int _ _)) (Bs:=[_]) [0] rfl rfl rfl ⟨rfl,trivial⟩ ?_
 exact ⟨rfl,rfl⟩
theorem zm0 {l:Lay} (hl:l.Ok) {lb ab mb:Nat} {k:LookS} {σ:Array UInt64} {c:Cnt}:FnD Tryz.prog 98 [.pointer (some ⟨lb,0,none⟩),.pointer (some ⟨ab,0,none⟩)] [zjZ 189 lb l (k),arenaC ab mb 140 71 (σ) (c)] (.bool (k.step l σ).done) [zjZ 189 lb l (k.step l σ),arenaC ab mb 140 71 (σ) (k.cnt l σ c)]:=by
 refine Fn.enter (Tryz.func98) rfl rfl (fun w0 R=>?_)
 refine sA (xaf rfl (dS (TC.block (sA (xmp rfl (xN0 rfl (xf 9 zbG rfl (xlb 0 zbq rfl rfl ?_))))))))
 refine xab rfl (TL.done (TQ.then (TC.cond rfl (fun q1=>?_) (fun q1=>?_))))
 refine TC.skip (TQ.inBlock (TQ.then (sA (xmp rfl (xN0 rfl (xf 9 zbG rfl (xlb 0 zbq rfl rfl (xab rfl ?_))))))))
 refine dR ?_
 refine FQ.ret1 (v:=(.bool _)) (Bs:=[_,_]) [0,1] rfl rfl rfl ⟨rfl,rfl,trivial⟩ ?_
 rw [LookS.step_d q1,LookS.cnt_d q1]; exact ⟨rfl,rfl⟩
 refine sA (xmp rfl (xN0 rfl (xf 8 zg1 rfl (xlb 0 zbq rfl rfl (xab rfl (TL.done (TQ.then (TC.cond rfl (fun q2=>?_) (fun q2=>?_)))))))))
 refine TC.seq (TC.draw [(0,true),(1,true),(2,true),(3,true),(4,true),(5,true),(6,true),(7,true),(8,true),(9,true),(10,false),(11,false),(12,true),(13,true),(14,true),(15,true),(16,true)] [0] fc_m (by kernel_rfl) (xmp rfl (xmp rfl (xN0 rfl (xf 0 zkm rfl (xL3 0 zaa rfl rfl (xmp rfl (xN0 rfl ?_))))))))
 refine xf 4 zeZ rfl (xf 2 zcJ rfl (xli 0 zac rfl rfl (TL.callD [] [] (zgU hl) ⟨rfl,rfl,trivial⟩ trivial znv rfl rfl rfl rfl rfl (kL1 rfl trivial) (TL.callD [1] [1] zhx ⟨rfl,rfl,trivial⟩ ⟨rfl,trivial⟩ znx rfl rfl rfl rfl rfl (kL1 rfl trivial) (xmu rfl (xei rfl rfl (xei rfl rfl (xai rfl ?_))))))))
 refine xai rfl (dG (xmp rfl (xmp rfl (xmp rfl (xN0 rfl (xf 4 zeZ rfl (xL4 0 zav rfl rfl (xmi rfl ?_))))))))
 refine TL.callD [] [] zhK ⟨rfl,rfl,trivial⟩ trivial znR rfl rfl rfl rfl rfl trivial (xN0 rfl (xf 10 zdt rfl (TL.st 0 #[_,_,_,_,_,_,_,_,_,_,_] (.int _ _) rfl rfl rfl rfl rfl rfl zac rfl rfl trivial (xN0 rfl (xf 9 zbG rfl (TL.st 0 #[_,_,_,_,_,_,_,_,_,_,_] (.bool true) rfl rfl rfl rfl rfl rfl zbq rfl rfl trivial (TL.done (TQ.inBlock ?_))))))))
 refine TQ.then (sA (xmp rfl (xN0 rfl (xf 9 zbG rfl (xlt 0 zbq rfl rfl (xat rfl (dR ?_)))))))
 refine FQ.ret1 (v:=(.bool true)) (Bs:=[_,_]) [0,1] rfl rfl rfl ⟨rfl,rfl,trivial⟩ ?_
 rw [LookS.step_h q1 q2,LookS.cnt_h q1 q2]; exact ⟨rfl,rfl⟩
 refine sA (xmp rfl (xmp rfl (xN0 rfl (xf 3 zkl rfl (xli 0 zac rfl rfl (TL.callD [1] [1] zhx ⟨rfl,rfl,trivial⟩ ⟨rfl,trivial⟩ znx rfl rfl rfl rfl rfl trivial (xmu rfl (xei rfl rfl ?_))))))))
 refine xei rfl rfl (xai rfl (xai rfl (dA (xmi rfl (TL.callD [] [] zcb ⟨rfl,trivial⟩ trivial zdC rfl rfl rfl rfl rfl trivial (xmu rfl (TL.ext (.agg _) rfl rfl rfl rfl (xei rfl rfl ?_))))))))
 refine TL.alloc 2 (cs:=#[.int .i64 0,.int .i64 0,.int .i64 0,.int .i64 0]) zbt rfl rfl rfl (fun _=>trivial) (fun bk2=>(TL.stW 2 4 [_,_,_,_] rfl rfl rfl rfl rfl rfl zav rfl rfl trivial (xai rfl (dA (xmp rfl (xmp rfl (xL4 2 zav rfl rfl (xN0 rfl (xf 4 zeZ rfl ?_)))))))))
 refine TL.stA 0 4 #[_,_,_,_,_,_,_,_,_,_,_] [_,_,_,_] rfl rfl rfl rfl rfl rfl rfl zav rfl rfl trivial (xN0 rfl (xf 8 zg1 rfl (TL.st 0 #[_,_,_,_,_,_,_,_,_,_,_] (.bool true) rfl rfl rfl rfl rfl rfl zbq rfl rfl trivial (dA (xmi rfl (TL.neq rfl rfl rfl rfl (fun q3=>?_) (fun q3=>?_)))))))
 refine xmt rfl (xo rfl (xo rfl (xpT rfl (TL.done (TQ.then (TC.condT rfl (TC.region (xmp rfl ?_))))))))
 refine xmp rfl (xf 1 za1 rfl (xli 2 zac rfl rfl (xN0 rfl (xf 10 zdt rfl (TL.st 0 #[_,_,_,_,_,_,_,_,_,_,_] (.int _ _) rfl rfl rfl rfl rfl rfl zac rfl rfl trivial (xN0 rfl (xf 9 zbG rfl (TL.st 0 #[_,_,_,_,_,_,_,_,_,_,_] (.bool true) rfl rfl rfl rfl rfl rfl zbq rfl rfl trivial ?_))))))))
 refine TL.done (TQ.inBlock (TQ.then (sA (xmp rfl (xN0 rfl (xf 9 zbG rfl (xlt 0 zbq rfl rfl (xat rfl ?_))))))))
 refine dR ?_
 refine FQ.ret1 (v:=(.bool true)) (Bs:=[_,_]) [0,1] rfl rfl rfl ⟨rfl,rfl,trivial⟩ ?_
 rw [LookS.step_0 q1 q2 (.inl (zsr q3)),LookS.cnt_0 q1 q2]; exact ⟨rfl,rfl⟩
 refine xmf rfl (xL4 2 zav rfl rfl (TL.callD [] [] zfi ⟨rfl,trivial⟩ trivial ziO rfl rfl rfl rfl rfl trivial (TL.casesP rfl (fun q4=>?_) (fun q4=>?_))))
 refine xpH rfl (TL.done (TQ.then (TC.condT rfl (TC.region (xmp rfl (xmp rfl (xf 1 za1 rfl (xli 2 zac rfl rfl ?_))))))))
 refine xN0 rfl (xf 10 zdt rfl (TL.st 0 #[_,_,_,_,_,_,_,_,_,_,_] (.int _ _) rfl rfl rfl rfl rfl rfl zac rfl rfl trivial (xN0 rfl (xf 9 zbG rfl (TL.st 0 #[_,_,_,_,_,_,_,_,_,_,_] (.bool true) rfl rfl rfl rfl rfl rfl zbq rfl rfl trivial (TL.done (TQ.inBlock (TQ.then ?_))))))))
 refine sA (xmp rfl (xN0 rfl (xf 9 zbG rfl (xlt 0 zbq rfl rfl (xat rfl (dR ?_))))))
 refine FQ.ret1 (v:=(.bool true)) (Bs:=[_,_]) [0,1] rfl rfl rfl ⟨rfl,rfl,trivial⟩ ?_
 rw [LookS.step_0 q1 q2 (.inr q4),LookS.cnt_0 q1 q2]; exact ⟨rfl,rfl⟩
 refine xpF rfl (TL.done (TQ.then (TC.condF rfl (TC.skip (TQ.inBlock (TQ.then (sA (xmp rfl ?_))))))))
 refine xN0 rfl (xf 9 zbG rfl (xlb 0 zbq rfl rfl (xab rfl (dR ?_))))
 refine FQ.ret1 (v:=(.bool _)) (Bs:=[_,_]) [0,1] rfl rfl rfl ⟨rfl,rfl,trivial⟩ ?_
 rw [LookS.step_n q1 q2 (zsq (by decide) q3) q4,LookS.cnt_0 q1 q2]; exact ⟨rfl,rfl⟩
theorem zmW {l:Lay} (hl:l.Ok)  : FnD Tryz.prog 91 [layV l] [] (.bool true) []:=by
 have hb:=zbn hl
 refine Fn.enter (Tryz.func91) rfl rfl (fun w0 R=>?_)
 refine sA (xB 0 rfl (fun bk0=>(xaf rfl (dA (xf 0 zaJ rfl (xli 0 zac rfl rfl (TL.sub _ rfl rfl (wr64 (by omega)) rfl rfl (TL.callD [] [] zbe ⟨rfl,rfl,trivial⟩ trivial zbI rfl rfl rfl rfl rfl trivial (TL.casesP rfl (fun q1=>?_) (fun q1=>?_))))))))))
 refine xmt rfl (xf 1 zby rfl (xli 0 zac rfl rfl (TL.callD [] [] zbe ⟨rfl,rfl,trivial⟩ trivial zbI rfl rfl rfl rfl rfl trivial (TL.casesP rfl (fun q2=>?_) (fun q2=>?_)))))
 refine xpT rfl (xmt rfl (xf 2 zeD rfl (xli 0 zac rfl rfl (TL.sub _ rfl rfl (wr64 (by omega)) rfl rfl (TL.callD [] [] zbe ⟨rfl,rfl,trivial⟩ trivial zbI rfl rfl rfl rfl rfl trivial (TL.pickT (.bool _) rfl rfl rfl rfl (xab rfl (dR ?_))))))))
 refine FQ.ret1 (v:=(.bool _)) (Bs:=[]) [] rfl rfl rfl trivial ?_
 first | exact ⟨congrArg Value.bool (decide_eq_true (by omega)),rfl⟩ | (exfalso; omega)
 refine xpG rfl (xmf rfl (xo rfl (xo rfl (xo rfl (xo rfl (xpF rfl (xaf rfl (dR ?_))))))))
 refine FQ.ret1 (v:=(.bool false)) (Bs:=[]) [] rfl rfl rfl trivial ?_
 first | exact ⟨congrArg Value.bool (decide_eq_true (by omega)),rfl⟩ | (exfalso; omega)
 refine xmf rfl (xo rfl (xo rfl (xo rfl (xpF rfl (xmf rfl (xo rfl (xo rfl (xo rfl ?_))))))))
 refine xo rfl (xpF rfl (xaf rfl (dR ?_)))
 refine FQ.ret1 (v:=(.bool false)) (Bs:=[]) [] rfl rfl rfl trivial ?_
 first | exact ⟨congrArg Value.bool (decide_eq_true (by omega)),rfl⟩ | (exfalso; omega)
end Go.Proofs.YtjnpjkfliochbaaGreat
