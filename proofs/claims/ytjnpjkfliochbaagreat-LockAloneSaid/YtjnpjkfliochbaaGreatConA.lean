import Derived.Test.YtjnpjkfliochbaaGreatEngE
import Derived.Test.YtjnpjkfliochbaaGreatProg
import Derived.KernelRfl
import Derived.Tactics2
import Derived.StillTactics
import Derived.Laws.Tables
set_option linter.unusedVariables false
set_option linter.unusedSimpArgs false
set_option maxRecDepth 20000
namespace Go.Proofs.YtjnpjkfliochbaaGreat
open Go.Eng Go.Tm
open Go.Eng Go.Tm
abbrev layV (l:Lay):Value:=.agg #[.int .i64 l.V,.int .i64 l.S,.int .i64 l.T]
abbrev zsa (t:Thing):Value:=.agg #[.bool t.arc,.int .i64 t.level,.int .i64 t.vertex,.int .i64 t.slot,.int .i64 t.side]
abbrev wdV (w:Wd):Value:=.agg #[.int .i64 w.old,.int .i64 w.new,.int .i64 w.thread,.int .i64 w.tag]
theorem zq1 {x:Int} (_h0:0≤x) (_h1:x≤16):0≤levI x∧levI x≤5:=by
 unfold levI
 repeat' split
 all_goals omega
theorem zst {s:ByteArray} {x:Int} (h0:0≤x) (h1:x≤16) (hs:(List.range 17).map (fun i=>(s[i]?).map (·.toNat))=[0,1,2,2,3,3,3,3,4,4,4,4,4,4,4,4,5].map some):(s[x.toNat]?).map (fun b=>(b.toNat:Int))=some (levI x):=by
 have hx:x.toNat<17:=by omega
 have h2:=congrArg (fun l=>l[x.toNat]?) hs
 simp only [List.getElem?_map,List.getElem?_range hx,Option.map_some] at h2
 have h3:x=(x.toNat:Int):=by omega
 rw [h3,Int.toNat_natCast]
 generalize x.toNat=i at *
 have:i=0∨i=1∨i=2∨i=3∨i=4∨i=5∨i=6∨i=7∨i=8∨i=9∨i=10∨i=11∨i=12∨i=13∨i=14∨i=15∨i=16:=by omega
 cases hb:s[i]? with
 | none=>rw [hb] at h2; rcases this with rfl | rfl | rfl | rfl | rfl | rfl | rfl | rfl | rfl | rfl | rfl | rfl | rfl | rfl | rfl | rfl | rfl<;>simp at h2
 | some b=>rw [hb] at h2; rcases this with rfl | rfl | rfl | rfl | rfl | rfl | rfl | rfl | rfl | rfl | rfl | rfl | rfl | rfl | rfl | rfl | rfl<;>simp at h2<;>simp [h2,levI]
theorem zhX {l:Lay} (h:l.Ok):1≤(l.V:Int)∧(l.V:Int)≤16∧(l.S:Int)≤48∧1≤(l.T:Int)∧(l.T:Int)≤8:=by
 obtain ⟨h1,h2,h3,h4,h5⟩:=h; omega
theorem zsq {l:Lay} (h:l.Ok):1≤l.lev∧l.lev≤5:=by
 have:=zhX h
 unfold Lay.lev levI
 repeat' split
 all_goals omega
theorem zaW {l:Lay} (h:l.Ok):(1≤(l.V:Int)∧(l.V:Int)≤16∧(l.S:Int)≤48∧1≤(l.T:Int)∧(l.T:Int)≤8)∧(1≤l.lev∧l.lev≤5)∧l.arcs=2 * l.lev∧l.free=l.T∧(0≤l.lev * l.V∧l.lev * l.V≤5 * 16)∧(0≤(l.V:Int) * l.lev∧(l.V:Int) * l.lev≤16 * 5) ∧
  (0≤(l.S:Int) * l.arcs∧(l.S:Int) * l.arcs≤48 * 10)∧l.nodes=l.lev * l.V+l.S * l.arcs∧l.heads=l.T+1+l.S * 7∧l.edges=l.heads+l.V * l.lev∧(0≤(l.V:Int) * (l.V - 1)∧(l.V:Int) * (l.V - 1)≤16 * 15) ∧
  l.base=l.edges+(l.V:Int) * (l.V - 1) / 2∧l.cells=l.base+l.nodes * 7:=by
 have h1:=zhX h
 have h2:=zsq h
 have h3:l.arcs=2 * l.lev:=rfl
 exact ⟨h1,h2,h3,rfl,zcK (by omega) (by omega) (by omega) (by omega),zcK (by omega) (by omega) (by omega) (by omega),zcK (by omega) (by omega) (by omega) (by omega),rfl,rfl,rfl,zcK (by omega) (by omega) (by omega) (by omega),rfl,rfl⟩
theorem zmc {a b:Int} (h0:0≤a) (hb:0<b) (ha:a<9223372036854775808):IntKind.i64.wrap (a.tdiv b)=a / b:=by
 rw [Int.tdiv_eq_ediv_of_nonneg h0]
 exact wr64 ⟨by have:=Int.ediv_nonneg h0 (Int.le_of_lt hb); omega,by have:=Int.ediv_le_self b h0; omega⟩
theorem zqG {a b:Int} (h0:0≤a):a.tmod b=a % b:=Int.tmod_eq_emod_of_nonneg h0
theorem zez {x V:Int} (h0:0≤x) (h1:x<V) (h2:V≤16):0≤x * (2 * V - x - 1)∧x * (2 * V - x - 1)≤16 * 32:=zcK h0 (by omega) (by omega) (by omega)
abbrev zba (l:Lay) (mt:TypeId) (mv:Value) (p:Pen):Value:=.agg #[.int .i64 l.V,.int .i64 l.S,.int .i64 l.T,.iface mt mv,.int .i64 p.thread,.int .i64 p.tag]
abbrev ziU (l:Lay) (mt:TypeId) (mv:Value):Value:=.agg #[.int .i64 l.V,.int .i64 l.S,.int .i64 l.T,.iface mt mv]
abbrev adjV (l:Lay) (mt:TypeId) (mv:Value) (p:Pen):Value:=.agg #[.int .i64 l.V,.int .i64 l.S,.int .i64 l.T,.iface mt mv,.int .i64 p.thread,.int .i64 p.tag,.int .i64 l.V,.int .i64 l.S,.int .i64 l.T,.iface mt mv]
theorem zkp (l:Lay) (x m:Int):0≤zed l x m∧zed l x m<18446744073709551616:=by
 unfold zed; split<;>exact zcH _ _
theorem zlc {S:Type} [MemLike S] (l:Lay) (σ:S) (x m:Int) (i:Nat):0≤(zdd l σ x m i).1∧(zdd l σ x m i).1<18446744073709551616:=by
 cases i with
 | zero=>exact zkp _ _ _
 | succ i=>exact zcH _ _
abbrev edgV (e:Edg):Value:=.agg #[.int .i64 e.u,.int .i64 e.v,.int .i64 e.level,.bool e.tree]
theorem quo2 (z:Int):IntKind.i64.wrap ((IntKind.i64.wrap z).tdiv 2)=(IntKind.i64.wrap z).tdiv 2:=by
 have h:-9223372036854775808≤IntKind.i64.wrap z∧IntKind.i64.wrap z<9223372036854775808:=by
  rw [IntKind.wrap_i64]; omega
 generalize IntKind.i64.wrap z=y at *
 refine wr64 ?_
 have h1:=Int.mul_tdiv_add_tmod y 2
 have h2:=Int.tmod_lt_of_pos y (show (0:Int)<2 by omega)
 have h3:=Int.lt_tmod_of_pos y (show (0:Int)<2 by omega)
 omega
theorem zej:(Tryz.prog.underlying 71).isSome=true:=by kernel_rfl
theorem zo9:intB Tryz.prog 5 .u8=true:=by kernel_rfl
theorem zsF:Tryz.prog.underlying 9=some .string:=by kernel_rfl
theorem fc_u5:(Tryz.prog.underlying 5).isSome=true:=by kernel_rfl
theorem zbF:intB Tryz.prog 3 .i64=true:=by kernel_rfl
theorem zrx:zai Tryz.prog 145=true:=by kernel_rfl
theorem zaw:fldB Tryz.prog 23 0 0=true:=by kernel_rfl
theorem zaf:zbD Tryz.prog 3=true:=by kernel_rfl
theorem ze4:(Tryz.prog.underlying 3).isSome=true:=by kernel_rfl
theorem zjI:intB Tryz.prog 170 .u64=true:=by kernel_rfl
theorem zrF:zai Tryz.prog 116=true:=by kernel_rfl
theorem zaa:aggB Tryz.prog 23 3=true:=by kernel_rfl
theorem ze6:zai Tryz.prog 77=true:=by kernel_rfl
theorem fc_m:Tryz.prog.follows .mixedOrders=true:=by kernel_rfl
theorem zbc:fldB Tryz.prog 23 1 1=true:=by kernel_rfl
theorem zkE:zai Tryz.prog 78=true:=by kernel_rfl
theorem zbl:zai Tryz.prog 102=true:=by kernel_rfl
theorem zdj:fldB Tryz.prog 23 2 2=true:=by kernel_rfl
theorem zia:zai Tryz.prog 122=true:=by kernel_rfl
theorem zgO:zai Tryz.prog 149=true:=by kernel_rfl
theorem znr:zai Tryz.prog 148=true:=by kernel_rfl
theorem znC:zai Tryz.prog 120=true:=by kernel_rfl
theorem zfJ:zai Tryz.prog 17=true:=by kernel_rfl
theorem zpR:zai Tryz.prog 88=true:=by kernel_rfl
theorem zfI:zbp Tryz.prog 94=some (.agg #[.bool false,.int .i64 0,.int .i64 0,.int .i64 0,.int .i64 0]):=by kernel_rfl
theorem zm8:za3 Tryz.prog 94 [(0,1),(1,1),(2,1),(3,1),(4,1)]=true:=by kernel_rfl
theorem zcd:aggB Tryz.prog 94 5=true:=by kernel_rfl
theorem zcO:fldB Tryz.prog 175 2 2=true:=by kernel_rfl
theorem za9:fldB Tryz.prog 175 0 0=true:=by kernel_rfl
theorem zfu:zai Tryz.prog 163=true:=by kernel_rfl
theorem zaT:fldB Tryz.prog 175 1 1=true:=by kernel_rfl
theorem zb7:fldB Tryz.prog 175 3 3=true:=by kernel_rfl
theorem zan:aggB Tryz.prog 175 4=true:=by kernel_rfl
theorem zjT:zai Tryz.prog 132=true:=by kernel_rfl
theorem zno:zai Tryz.prog 162=true:=by kernel_rfl
theorem za0:intB Tryz.prog 71 .u64=true:=by kernel_rfl
theorem zbi:zbp Tryz.prog 175=some (.agg #[.int .i64 0,.int .i64 0,.int .i64 0,.int .i64 0]):=by kernel_rfl
theorem zjS:zai Tryz.prog 161=true:=by kernel_rfl
theorem zfr:za3 Tryz.prog 175 [(0,1),(1,1),(2,1),(3,1)]=true:=by kernel_rfl
theorem zdi:fldB Tryz.prog 37 0 0=true:=by kernel_rfl
theorem zcC:fldB Tryz.prog 37 1 1=true:=by kernel_rfl
theorem zdS:zai Tryz.prog 131=true:=by kernel_rfl
theorem zny:zai Tryz.prog 134=true:=by kernel_rfl
theorem zh9:zai Tryz.prog 143=true:=by kernel_rfl
theorem znE:zai Tryz.prog 113=true:=by kernel_rfl
theorem zaR:fldB Tryz.prog 39 1 3=true:=by kernel_rfl
theorem zbu:zbD Tryz.prog 35=true:=by kernel_rfl
theorem zax:fldB Tryz.prog 39 0 0=true:=by kernel_rfl
theorem zbg:zai Tryz.prog 54=true:=by kernel_rfl
theorem zkF:zai Tryz.prog 47=true:=by kernel_rfl
theorem zfs:fldB Tryz.prog 94 1 1=true:=by kernel_rfl
theorem zae:aggB Tryz.prog 39 6=true:=by kernel_rfl
theorem zns:zai Tryz.prog 146=true:=by kernel_rfl
theorem zrK:zai Tryz.prog 107=true:=by kernel_rfl
theorem zdy:zai Tryz.prog 147=true:=by kernel_rfl
theorem zhn:fldB Tryz.prog 39 2 4=true:=by kernel_rfl
theorem zce:aggB Tryz.prog 37 2=true:=by kernel_rfl
theorem zrL:zai Tryz.prog 106=true:=by kernel_rfl
theorem zh8:zai Tryz.prog 150=true:=by kernel_rfl
theorem zhl:fldB Tryz.prog 94 0 0=true:=by kernel_rfl
theorem zcN:zbD Tryz.prog 4=true:=by kernel_rfl
theorem znq:zai Tryz.prog 152=true:=by kernel_rfl
theorem zfq:zbp Tryz.prog 128=some (.agg #[.int .i64 0,.int .i64 0]):=by kernel_rfl
theorem zaF:zhv Tryz.prog 128 2 3 1=true:=by kernel_rfl
theorem zjO:zai Tryz.prog 195=true:=by kernel_rfl
theorem zrm:zai Tryz.prog 196=true:=by kernel_rfl
theorem zgN:zai Tryz.prog 151=true:=by kernel_rfl
theorem zfv:zai Tryz.prog 119=true:=by kernel_rfl
theorem zh6:zai Tryz.prog 188=true:=by kernel_rfl
theorem zft:zai Tryz.prog 186=true:=by kernel_rfl
theorem zgL:zai Tryz.prog 187=true:=by kernel_rfl
theorem zjP:zai Tryz.prog 189=true:=by kernel_rfl
theorem zh5:zai Tryz.prog 194=true:=by kernel_rfl
theorem zrn:zai Tryz.prog 193=true:=by kernel_rfl
theorem zjQ:zai Tryz.prog 185=true:=by kernel_rfl
theorem zro:zai Tryz.prog 184=true:=by kernel_rfl
theorem zaE:fldB Tryz.prog 41 0 0=true:=by kernel_rfl
theorem zhr:zai Tryz.prog 51=true:=by kernel_rfl
theorem zkD:zai Tryz.prog 86=true:=by kernel_rfl
theorem zrs:zai Tryz.prog 175=true:=by kernel_rfl
theorem zrr:zai Tryz.prog 176=true:=by kernel_rfl
theorem zh7:zai Tryz.prog 171=true:=by kernel_rfl
theorem zjR:zai Tryz.prog 174=true:=by kernel_rfl
theorem zdA:aggB Tryz.prog 41 6=true:=by kernel_rfl
theorem zrt:zai Tryz.prog 170=true:=by kernel_rfl
theorem znj:zai Tryz.prog 172=true:=by kernel_rfl
theorem zrC:zai Tryz.prog 123=true:=by kernel_rfl
theorem zby:fldB Tryz.prog 43 1 3=true:=by kernel_rfl
theorem za2:fldB Tryz.prog 43 0 0=true:=by kernel_rfl
theorem zjU:zai Tryz.prog 109=true:=by kernel_rfl
theorem znx:zai Tryz.prog 135=true:=by kernel_rfl
theorem znw:zai Tryz.prog 136=true:=by kernel_rfl
theorem znv:zai Tryz.prog 137=true:=by kernel_rfl
theorem zh4:zbp Tryz.prog 183=some (.agg #[.int .i64 0,.int .i64 0,.int .i64 0,.bool false]):=by kernel_rfl
theorem zcZ:aggB Tryz.prog 43 4=true:=by kernel_rfl
theorem znp:zai Tryz.prog 153=true:=by kernel_rfl
theorem zpW:zai Tryz.prog 73=true:=by kernel_rfl
theorem zrh:za3 Tryz.prog 183 [(0,1),(1,1),(2,1),(3,1)]=true:=by kernel_rfl
theorem ze7:aggB Tryz.prog 183 4=true:=by kernel_rfl
theorem za1:fldB Tryz.prog 45 1 6=true:=by kernel_rfl
theorem zrq:zai Tryz.prog 182=true:=by kernel_rfl
theorem zrp:zai Tryz.prog 183=true:=by kernel_rfl
theorem za6:aggB Tryz.prog 45 10=true:=by kernel_rfl
theorem znn:zai Tryz.prog 164=true:=by kernel_rfl
theorem znm:zai Tryz.prog 165=true:=by kernel_rfl
theorem zcB:fldB Tryz.prog 45 0 0=true:=by kernel_rfl
theorem fc_b4:zn5 Tryz.prog 4=true:=by kernel_rfl
theorem zni:zai Tryz.prog 173=true:=by kernel_rfl
theorem zru:zai Tryz.prog 167=true:=by kernel_rfl
theorem zgM:zai Tryz.prog 166=true:=by kernel_rfl
theorem znl:zai Tryz.prog 168=true:=by kernel_rfl
theorem znk:zai Tryz.prog 169=true:=by kernel_rfl
theorem znA:zai Tryz.prog 125=true:=by kernel_rfl
theorem zgF:fldB Tryz.prog 183 0 0=true:=by kernel_rfl
theorem zdw:fldB Tryz.prog 183 2 2=true:=by kernel_rfl
theorem znt:zai Tryz.prog 139=true:=by kernel_rfl
theorem znu:zai Tryz.prog 138=true:=by kernel_rfl
theorem zgE:fldB Tryz.prog 183 1 1=true:=by kernel_rfl
theorem zbn:fldB Tryz.prog 47 0 0=true:=by kernel_rfl
theorem zrA:zai Tryz.prog 140=true:=by kernel_rfl
theorem zrz:zai Tryz.prog 141=true:=by kernel_rfl
theorem ziP:aggB Tryz.prog 47 10=true:=by kernel_rfl
theorem zry:zai Tryz.prog 142=true:=by kernel_rfl
theorem zrI:zai Tryz.prog 111=true:=by kernel_rfl
theorem zrN:zai Tryz.prog 100=true:=by kernel_rfl
theorem zm4:zbp Tryz.prog 49=some (.agg #[.int .i64 0,.int .i64 0,.int .i64 0,.nilIface,.int .i64 0,.int .i64 0,.int .i64 0,.int .i64 0,.int .i64 0,.nilIface]):=by kernel_rfl
theorem zm9:za3 Tryz.prog 39 [(0,3),(3,1),(4,2)]=true:=by kernel_rfl
theorem ziO:zbp Tryz.prog 39=some (.agg #[.int .i64 0,.int .i64 0,.int .i64 0,.nilIface,.int .i64 0,.int .i64 0]):=by kernel_rfl
theorem zsM:za3 Tryz.prog 41 [(0,6)]=true:=by kernel_rfl
theorem zpL:zbp Tryz.prog 41=some (.agg #[.int .i64 0,.int .i64 0,.int .i64 0,.nilIface,.int .i64 0,.int .i64 0]):=by kernel_rfl
theorem zsL:za3 Tryz.prog 43 [(0,3),(3,1)]=true:=by kernel_rfl
theorem zsE:zbp Tryz.prog 43=some (.agg #[.int .i64 0,.int .i64 0,.int .i64 0,.nilIface]):=by kernel_rfl
theorem zsK:za3 Tryz.prog 45 [(0,6),(6,4)]=true:=by kernel_rfl
theorem zsD:zbp Tryz.prog 45=some (.agg #[.int .i64 0,.int .i64 0,.int .i64 0,.nilIface,.int .i64 0,.int .i64 0,.int .i64 0,.int .i64 0,.int .i64 0,.nilIface]):=by kernel_rfl
theorem zsJ:za3 Tryz.prog 47 [(0,10)]=true:=by kernel_rfl
theorem zsC:zbp Tryz.prog 47=some (.agg #[.int .i64 0,.int .i64 0,.int .i64 0,.nilIface,.int .i64 0,.int .i64 0,.int .i64 0,.int .i64 0,.int .i64 0,.nilIface]):=by kernel_rfl
theorem zsI:za3 Tryz.prog 49 [(0,10)]=true:=by kernel_rfl
theorem zdk:aggB Tryz.prog 49 10=true:=by kernel_rfl
theorem zcA:fldB Tryz.prog 49 0 0=true:=by kernel_rfl
theorem zs2:zai Tryz.prog 42=true:=by kernel_rfl
theorem zrJ:zai Tryz.prog 110=true:=by kernel_rfl
theorem zrH:zai Tryz.prog 112=true:=by kernel_rfl
theorem zaz:fldB Tryz.prog 140 0 0=true:=by kernel_rfl
theorem zbO:zbD Tryz.prog 24=true:=by kernel_rfl
theorem zal:zbU Tryz.prog 24 71 1=true:=by kernel_rfl
theorem za4:fldB Tryz.prog 140 1 1=true:=by kernel_rfl
theorem zd6:fldB Tryz.prog 62 0 0=true:=by kernel_rfl
theorem zek:zai Tryz.prog 89=true:=by kernel_rfl
theorem zc5:ptrB Tryz.prog 143=true:=by kernel_rfl
theorem zdF:zbD Tryz.prog 71=true:=by kernel_rfl
theorem zd5:fldB Tryz.prog 62 1 1=true:=by kernel_rfl
theorem zdh:fldB Tryz.prog 62 3 3=true:=by kernel_rfl
theorem zd4:fldB Tryz.prog 62 2 2=true:=by kernel_rfl
theorem zhm:fldB Tryz.prog 88 0 0=true:=by kernel_rfl
theorem ze5:zbD Tryz.prog 33=true:=by kernel_rfl
theorem zkH:zai Tryz.prog 31=true:=by kernel_rfl
theorem zhq:zai Tryz.prog 55=true:=by kernel_rfl
theorem zgB:appB Tryz.prog 24 71 1=true:=by kernel_rfl
theorem zsy:zbp Tryz.prog 71=some (.int .u64 0):=by kernel_rfl
theorem zna:za3 Tryz.prog 140 [(0,1),(1,5)]=true:=by kernel_rfl
theorem zm7:zbp Tryz.prog 140=some (.agg #[.slice none 0 0,.int .i64 0,.int .i64 0,.int .i64 0,.int .i64 0,.int .i64 0]):=by kernel_rfl
theorem zm1:zbp Tryz.prog 88=some (.agg #[.pointer none]):=by kernel_rfl
theorem zsG:za3 Tryz.prog 88 [(0,1)]=true:=by kernel_rfl
theorem zdz:aggB Tryz.prog 88 1=true:=by kernel_rfl
theorem zrw:zai Tryz.prog 159=true:=by kernel_rfl
theorem zrv:zai Tryz.prog 160=true:=by kernel_rfl
theorem zrG:zai Tryz.prog 115=true:=by kernel_rfl
theorem znD:zai Tryz.prog 114=true:=by kernel_rfl
theorem znz:zai Tryz.prog 133=true:=by kernel_rfl
theorem zpX:zai Tryz.prog 53=true:=by kernel_rfl
theorem znF:zai Tryz.prog 104=true:=by kernel_rfl
theorem zrB:zai Tryz.prog 130=true:=by kernel_rfl
theorem zrg:za3 Tryz.prog 189 [(0,3),(3,1),(4,4),(8,1),(9,1),(10,1)]=true:=by kernel_rfl
theorem zrb:zbp Tryz.prog 189=some (.agg #[.int .i64 0,.int .i64 0,.int .i64 0,.int .i64 0,.int .i64 0,.int .i64 0,.int .i64 0,.int .i64 0,.bool false,.bool false,.int .i64 0]):=by kernel_rfl
theorem zcY:fldB Tryz.prog 189 5 10=true:=by kernel_rfl
theorem zbk:fldB Tryz.prog 189 4 9=true:=by kernel_rfl
theorem zgD:fldB Tryz.prog 189 3 8=true:=by kernel_rfl
theorem zjK:fldB Tryz.prog 189 0 0=true:=by kernel_rfl
theorem zet:fldB Tryz.prog 189 2 4=true:=by kernel_rfl
theorem zjJ:fldB Tryz.prog 189 1 3=true:=by kernel_rfl
theorem znB:zai Tryz.prog 121=true:=by kernel_rfl
theorem zpV:zai Tryz.prog 75=true:=by kernel_rfl
theorem zcr:zfN Tryz.prog 88 "Store" 215=true:=by kernel_rfl
theorem zsT:zai Tryz.prog 91=true:=by kernel_rfl
theorem zs4:zai Tryz.prog 30=true:=by kernel_rfl
theorem zsS:zai Tryz.prog 92=true:=by kernel_rfl
theorem zkG:zai Tryz.prog 38=true:=by kernel_rfl
theorem zgA:zhR Tryz.prog 88=true:=by kernel_rfl
theorem zsR:zai Tryz.prog 93=true:=by kernel_rfl
theorem zpO:za3 Tryz.prog 37 [(0,1),(1,1)]=true:=by kernel_rfl
theorem zm5:zbp Tryz.prog 37=some (.agg #[.int .i64 0,.int .i64 0]):=by kernel_rfl
theorem zkC:zai Tryz.prog 94=true:=by kernel_rfl
theorem zkB:zai Tryz.prog 97=true:=by kernel_rfl
theorem zri:za3 Tryz.prog 157 [(0,3),(3,1),(4,1),(5,1),(6,1),(7,1),(8,1)]=true:=by kernel_rfl
theorem zrc:zbp Tryz.prog 157=some (.agg #[.int .i64 0,.int .i64 0,.int .i64 0,.int .i64 0,.pointer none,.bool false,.bool false,.int .i64 0,.int .i64 0]):=by kernel_rfl
theorem zbI:fldB Tryz.prog 157 4 6=true:=by kernel_rfl
theorem zjL:fldB Tryz.prog 157 5 7=true:=by kernel_rfl
theorem zgG:fldB Tryz.prog 157 6 8=true:=by kernel_rfl
theorem zdx:fldB Tryz.prog 157 1 3=true:=by kernel_rfl
theorem zcP:fldB Tryz.prog 157 2 4=true:=by kernel_rfl
theorem zgz:zbD Tryz.prog 154=true:=by kernel_rfl
theorem zsQ:zai Tryz.prog 98=true:=by kernel_rfl
theorem zsP:zai Tryz.prog 99=true:=by kernel_rfl
theorem zeu:fldB Tryz.prog 157 3 5=true:=by kernel_rfl
theorem zbJ:fldB Tryz.prog 157 0 0=true:=by kernel_rfl
theorem zah:zbU Tryz.prog 59 3 1=true:=by kernel_rfl
theorem zhk:appB Tryz.prog 59 3 1=true:=by kernel_rfl
theorem zm3:zbp Tryz.prog 62=some (.agg #[.int .i64 0,.int .i64 0,.int .i64 0,.int .i64 0,.int .i64 0]):=by kernel_rfl
theorem zd9:aggB Tryz.prog 62 5=true:=by kernel_rfl
theorem zsU:zai Tryz.prog 87=true:=by kernel_rfl
theorem zrM:zai Tryz.prog 101=true:=by kernel_rfl
theorem zra:zbp Tryz.prog 3=some (.int .i64 0):=by kernel_rfl
theorem zs3:zai Tryz.prog 37=true:=by kernel_rfl
theorem zsY:zai Tryz.prog 74=true:=by kernel_rfl
theorem zgJ:fldB Tryz.prog 123 0 0=true:=by kernel_rfl
theorem zgI:fldB Tryz.prog 123 1 1=true:=by kernel_rfl
theorem zgH:fldB Tryz.prog 123 2 2=true:=by kernel_rfl
theorem zrf:zbp Tryz.prog 123=some (.agg #[.int .i64 0,.int .i64 0,.int .i64 0]):=by kernel_rfl
theorem zrl:za3 Tryz.prog 123 [(0,1),(1,1),(2,1)]=true:=by kernel_rfl
theorem zsZ:zai Tryz.prog 72=true:=by kernel_rfl
theorem zp2:zai Tryz.prog 35=true:=by kernel_rfl
theorem znb:ptrB Tryz.prog 33=true:=by kernel_rfl
theorem zs0:zai Tryz.prog 49=true:=by kernel_rfl
theorem zsX:zai Tryz.prog 76=true:=by kernel_rfl
theorem zrE:zai Tryz.prog 117=true:=by kernel_rfl
theorem zdR:fldB Tryz.prog 130 9 13=true:=by kernel_rfl
theorem za5:fldB Tryz.prog 130 3 6=true:=by kernel_rfl
theorem zbL:fldB Tryz.prog 130 4 7=true:=by kernel_rfl
theorem zcR:fldB Tryz.prog 130 0 0=true:=by kernel_rfl
theorem zew:fldB Tryz.prog 130 1 3=true:=by kernel_rfl
theorem zne:zai Tryz.prog 39=true:=by kernel_rfl
theorem zbK:fldB Tryz.prog 130 5 8=true:=by kernel_rfl
theorem zgy:zbD Tryz.prog 90=true:=by kernel_rfl
theorem zaZ:fldB Tryz.prog 130 8 12=true:=by kernel_rfl
theorem zbN:zbD Tryz.prog 59=true:=by kernel_rfl
theorem znd:zai Tryz.prog 84=true:=by kernel_rfl
theorem zp1:zai Tryz.prog 40=true:=by kernel_rfl
theorem zev:fldB Tryz.prog 130 6 9=true:=by kernel_rfl
theorem zp0:zai Tryz.prog 41=true:=by kernel_rfl
theorem zaU:aggB Tryz.prog 128 2=true:=by kernel_rfl
theorem zck:fldB Tryz.prog 130 7 11=true:=by kernel_rfl
theorem zjN:fldB Tryz.prog 130 2 5=true:=by kernel_rfl
theorem zrD:zai Tryz.prog 118=true:=by kernel_rfl
theorem zpS:zai Tryz.prog 83=true:=by kernel_rfl
theorem zpU:zai Tryz.prog 79=true:=by kernel_rfl
theorem zpT:zai Tryz.prog 80=true:=by kernel_rfl
theorem zel:zai Tryz.prog 19=true:=by kernel_rfl
theorem zsW:zai Tryz.prog 81=true:=by kernel_rfl
theorem zsV:zai Tryz.prog 82=true:=by kernel_rfl
theorem znc:zai Tryz.prog 85=true:=by kernel_rfl
theorem zrk:za3 Tryz.prog 130 [(0,3),(3,2),(5,1),(6,1),(7,1),(8,1),(9,2),(11,1),(12,1),(13,1)]=true:=by kernel_rfl
theorem zre:zbp Tryz.prog 130=some (.agg #[.int .i64 0,.int .i64 0,.int .i64 0,.int .i64 0,.int .i64 0,.int .i64 0,.int .i64 0,.int .i64 0,.pointer none,.int .i64 0,.int .i64 0,.slice none 0 0,.slice none 0 0,.int .i64 0]):=by kernel_rfl
theorem zcQ:fldB Tryz.prog 138 1 3=true:=by kernel_rfl
theorem zgK:zai Tryz.prog 22=true:=by kernel_rfl
theorem zjM:fldB Tryz.prog 138 0 0=true:=by kernel_rfl
theorem zrj:za3 Tryz.prog 138 [(0,3),(3,1)]=true:=by kernel_rfl
theorem zrd:zbp Tryz.prog 138=some (.agg #[.int .i64 0,.int .i64 0,.int .i64 0,.slice none 0 0]):=by kernel_rfl
theorem zbb:fldB Tryz.prog 27 0 0=true:=by kernel_rfl
theorem zhp:fldB Tryz.prog 27 1 3=true:=by kernel_rfl
theorem zho:fldB Tryz.prog 27 2 4=true:=by kernel_rfl
theorem zhj:zbD Tryz.prog 25=true:=by kernel_rfl
theorem zbj:zbU Tryz.prog 25 66 2=true:=by kernel_rfl
theorem zd7:fldB Tryz.prog 27 3 5=true:=by kernel_rfl
theorem zd8:aggB Tryz.prog 66 2=true:=by kernel_rfl
theorem zm2:zbp Tryz.prog 66=some (.agg #[.int .i64 0,.int .i64 0]):=by kernel_rfl
theorem zbQ:fldB Tryz.prog 66 0 0=true:=by kernel_rfl
theorem zbP:fldB Tryz.prog 66 1 1=true:=by kernel_rfl
theorem zlq:fldB Tryz.prog 53 2 4=true:=by kernel_rfl
theorem zlr:fldB Tryz.prog 53 0 0=true:=by kernel_rfl
theorem zm6:zbp Tryz.prog 23=some (.agg #[.int .i64 0,.int .i64 0,.int .i64 0]):=by kernel_rfl
theorem zsH:za3 Tryz.prog 53 [(0,3),(3,1),(4,10),(14,1),(15,1)]=true:=by kernel_rfl
theorem zsB:zbp Tryz.prog 53=some (.agg #[.int .i64 0,.int .i64 0,.int .i64 0,.pointer none,.int .i64 0,.int .i64 0,.int .i64 0,.nilIface,.int .i64 0,.int .i64 0,.int .i64 0,.int .i64 0,.int .i64 0,.nilIface,.slice none 0 0,.slice none 0 0]):=by kernel_rfl
theorem zs6:zai Tryz.prog 27=true:=by kernel_rfl
theorem zdv:fldB Tryz.prog 53 3 14=true:=by kernel_rfl
theorem zkA:zbD Tryz.prog 50=true:=by kernel_rfl
theorem zp3:zai Tryz.prog 25=true:=by kernel_rfl
theorem zes:zbU Tryz.prog 50 55 1=true:=by kernel_rfl
theorem zsA:zbp Tryz.prog 55=some (.pointer none):=by kernel_rfl
theorem zjH:appB Tryz.prog 50 55 1=true:=by kernel_rfl
theorem zgC:fldB Tryz.prog 53 4 15=true:=by kernel_rfl
theorem zpN:zbD Tryz.prog 51=true:=by kernel_rfl
theorem zjF:zbU Tryz.prog 51 57 1=true:=by kernel_rfl
theorem zsz:zbp Tryz.prog 57=some (.pointer none):=by kernel_rfl
theorem zjG:appB Tryz.prog 51 57 1=true:=by kernel_rfl
theorem zsN:za3 Tryz.prog 23 [(0,1),(1,1),(2,1)]=true:=by kernel_rfl
theorem zpQ:ptrB Tryz.prog 55=true:=by kernel_rfl
theorem znh:zai Tryz.prog 18=true:=by kernel_rfl
theorem zng:zai Tryz.prog 21=true:=by kernel_rfl
theorem zp5:zai Tryz.prog 20=true:=by kernel_rfl
theorem zpZ:zai Tryz.prog 43=true:=by kernel_rfl
theorem zpY:zai Tryz.prog 44=true:=by kernel_rfl
theorem zpP:ptrB Tryz.prog 57=true:=by kernel_rfl
theorem znf:zai Tryz.prog 23=true:=by kernel_rfl
theorem zib:aggB Tryz.prog 27 6=true:=by kernel_rfl
theorem zp7:zai Tryz.prog 14=true:=by kernel_rfl
theorem zp6:zai Tryz.prog 15=true:=by kernel_rfl
theorem zs7:zai Tryz.prog 16=true:=by kernel_rfl
theorem zsO:ptrB Tryz.prog 30=true:=by kernel_rfl
theorem zb6:fldB Tryz.prog 53 1 3=true:=by kernel_rfl
theorem zs5:zai Tryz.prog 29=true:=by kernel_rfl
theorem zpM:zbD Tryz.prog 55=true:=by kernel_rfl
theorem zp4:zai Tryz.prog 24=true:=by kernel_rfl
theorem zs1:zai Tryz.prog 45=true:=by kernel_rfl
theorem zaX {n m:Int}:FnD Tryz.prog 102 [.int .i64 n,.int .i64 m] [] (.bool (decide (0≤n∧n<m))) []:=by
 refine Fn.enter (Tryz.func102) rfl rfl (fun w0 R=>?_)
 refine sA (xaf rfl (dA (xmi rfl (TL.geq rfl rfl rfl rfl (fun q1=>?_) (fun q1=>?_)))))
 refine xmt rfl (xmi rfl (xmi rfl (TL.lssV rfl rfl rfl rfl (TL.pickT (.bool _) rfl rfl rfl rfl (xab rfl (dR ?_))))))
 refine FQ.ret1 (v:=(.bool _)) (Bs:=[]) [] rfl rfl rfl trivial ?_
 first | exact ⟨bT (by omega),rfl⟩ | exact ⟨bF (by omega),rfl⟩ | exact ⟨congrArg Value.bool (decide_eq_decide.2 (by omega)),rfl⟩
 refine xmf rfl (xo rfl (xo rfl (xo rfl (xpF rfl (xaf rfl (dR ?_))))))
 refine FQ.ret1 (v:=(.bool false)) (Bs:=[]) [] rfl rfl rfl trivial ?_
 first | exact ⟨bT (by omega),rfl⟩ | exact ⟨bF (by omega),rfl⟩ | exact ⟨congrArg Value.bool (decide_eq_decide.2 (by omega)),rfl⟩
theorem zoW {x:Int} (h0:0≤x) (h1:x≤16):FnD Tryz.prog 145 [.int .u64 x] [] (.int .i64 (levI x)) []:=by
 have hl:=zq1 h0 h1
 refine Fn.enter (Tryz.func145) rfl rfl (fun w0 R=>?_)
 refine sA (xai rfl (dB (xmi rfl (TL.geqF rfl rfl (by omega) rfl rfl (TL.done (TQ.then (TC.condF rfl (TC.skip ?_))))))))
 refine TQ.then (sB (xmi rfl (TL.geqF rfl rfl (by omega) rfl rfl (TL.done (TQ.then (TC.condF rfl (TC.skip (TQ.then ?_))))))))
 refine sB (xmi rfl (TL.geqF rfl rfl (by omega) rfl rfl (dF rfl (xmi rfl (xmi rfl (TL.conv _ rfl zej zo9 (wru8 (by omega)) rfl rfl (TL.ixS (levI x) rfl rfl zsF (by omega) (zst h0 h1 (by kernel_rfl)) rfl rfl (TL.conv _ rfl fc_u5 zbF (wr64 (by omega)) rfl rfl ?_))))))))
 refine TL.add _ rfl rfl (wr64 (by omega)) rfl rfl (xai rfl (dR ?_))
 refine FQ.ret1 (v:=(.int _ _)) (Bs:=[]) [] rfl rfl rfl trivial ?_
 exact ⟨iE (by omega),rfl⟩
theorem zsr {x:Int} (h0:0≤x) (h1:x≤16):FnD Tryz.prog 116 [.int .u64 x] [] (.int .i64 (levI x)) []:=by
 refine Fn.enter (Tryz.func116) rfl rfl (fun w0 R=>?_)
 refine sA (xai rfl (dS (TC.condF rfl (TC.skip (TQ.then (sA (xmi rfl (TL.callD [] [] (zoW (by omega) (by omega)) ⟨rfl,trivial⟩ trivial zrx rfl rfl rfl rfl rfl trivial ?_))))))))
 refine xai rfl (dR ?_)
 refine FQ.ret1 (v:=(.int _ _)) (Bs:=[]) [] rfl rfl rfl trivial ?_
 exact ⟨rfl,rfl⟩
theorem zbY {l:Lay} (hl:l.Ok)  : FnD Tryz.prog 77 [layV l] [] (.int .i64 l.lev) []:=by
 have hb:=zhX hl
 refine Fn.enter (Tryz.func77) rfl rfl (fun w0 R=>?_)
 refine sA (xB 0 rfl (fun bk0=>(xai rfl (dA (xf 0 zaw rfl (xli 0 zaf rfl rfl (TL.conv _ rfl ze4 zjI (zqi (by omega)) rfl rfl (TL.callD [] [] (zsr (by omega) (by omega)) ⟨rfl,trivial⟩ trivial zrF rfl rfl rfl rfl rfl trivial (xai rfl ?_)))))))))
 refine dR ?_
 refine FQ.ret1 (v:=(.int _ _)) (Bs:=[]) [] rfl rfl rfl trivial ?_
 exact ⟨rfl,rfl⟩
theorem zih {l:Lay} (hl:l.Ok)  : FnD Tryz.prog 78 [layV l] [] (.int .i64 l.arcs) []:=by
 have hb:=zaW hl
 refine Fn.enter (Tryz.func78) rfl rfl (fun w0 R=>?_)
 refine sA (xB 0 rfl (fun bk0=>(xai rfl (dA (xL3 0 zaa rfl rfl (TL.callD [] [] (zbY hl) ⟨rfl,trivial⟩ trivial ze6 rfl rfl rfl rfl rfl trivial (TL.mul _ rfl rfl (wr64 (by omega)) rfl rfl (xai rfl (dR ?_)))))))))
 refine FQ.ret1 (v:=(.int _ _)) (Bs:=[]) [] rfl rfl rfl trivial ?_
 exact ⟨rfl,rfl⟩
theorem zcV {l:Lay} (hl:l.Ok)  : FnD Tryz.prog 17 [layV l] [] (.int .i64 l.nodes) []:=by
 have hb:=zaW hl
 refine Fn.enter (Tryz.func17) rfl rfl (fun w0 R=>?_)
 refine sA (xB 0 rfl (fun bk0=>(xai rfl (dS (TC.draw [(0,true),(2,true),(3,true),(5,true),(6,true),(7,true),(1,false),(4,true),(8,false),(9,true),(10,true),(11,true)] [0] fc_m (by kernel_rfl) (xL3 0 zaa rfl rfl (xf 0 zaw rfl (xli 0 zaf rfl rfl (xf 1 zbc rfl ?_)))))))))
 refine xli 0 zaf rfl rfl (xL3 0 zaa rfl rfl (TL.callD [] [] (zbY hl) ⟨rfl,trivial⟩ trivial ze6 rfl rfl rfl rfl rfl (kL1 rfl trivial) (TL.mul _ rfl rfl (wr64 (by omega)) rfl rfl (TL.callD [] [] (zih hl) ⟨rfl,trivial⟩ trivial zkE rfl rfl rfl rfl rfl (kL1 rfl trivial) (TL.mul _ rfl rfl (wr64 (by omega)) rfl rfl (TL.add _ rfl rfl (wr64 (by omega)) rfl rfl (xai rfl (dR ?_))))))))
 refine FQ.ret1 (v:=(.int _ _)) (Bs:=[]) [] rfl rfl rfl trivial ?_
 exact ⟨rfl,rfl⟩
theorem zc7 {l:Lay} (hl:l.Ok) {i v:Int}:FnD Tryz.prog 51 [layV l,.int .i64 i,.int .i64 v] [] (.int .i64 (l.vertex i v)) []:=by
 have hb:=zaW hl
 refine Fn.enter (Tryz.func51) rfl rfl (fun w0 R=>?_)
 refine sA (xB 0 rfl (fun bk0=>(xai rfl (dB (xmi rfl (xL3 0 zaa rfl rfl (TL.callD [] [] (zbY hl) ⟨rfl,trivial⟩ trivial ze6 rfl rfl rfl rfl rfl trivial (TL.callD [] [] zaX ⟨rfl,rfl,trivial⟩ trivial zbl rfl rfl rfl rfl rfl trivial (TL.casesP rfl (fun q1=>?_) (fun q1=>?_))))))))))
 refine xnt rfl (xmf rfl (xmi rfl (xf 0 zaw rfl (xli 0 zaf rfl rfl (TL.callD [] [] zaX ⟨rfl,rfl,trivial⟩ trivial zbl rfl rfl rfl rfl rfl trivial (TL.casesP rfl (fun q2=>?_) (fun q2=>?_)))))))
 refine xnt rfl (xpF rfl (dF rfl (xmi rfl (xf 0 zaw rfl (xli 0 zaf rfl rfl (TL.mul _ rfl rfl (wr64 (by have:=zcK (a:=i) (A:=5) (b:=(l.V:Int)) (B:=16) (by omega) (by omega) (by omega) (by omega); omega)) rfl rfl (TL.add _ rfl rfl (wr64 (by have:=zcK (a:=i) (A:=5) (b:=(l.V:Int)) (B:=16) (by omega) (by omega) (by omega) (by omega); omega)) rfl rfl (xmi rfl ?_))))))))
 refine TL.add _ rfl rfl (wr64 (by have:=zcK (a:=i) (A:=5) (b:=(l.V:Int)) (B:=16) (by omega) (by omega) (by omega) (by omega); omega)) rfl rfl (xai rfl (dR ?_))
 refine FQ.ret1 (v:=(.int _ _)) (Bs:=[]) [] rfl rfl rfl trivial ?_
 first | exact ⟨iE (by unfold Lay.vertex; rw [if_pos (by omega)]),rfl⟩ | exact ⟨iE (by unfold Lay.vertex; rw [if_neg (by omega)]),rfl⟩
 refine xnf rfl (xpH rfl (dT rfl (xai rfl (dRR ?_))))
 refine FQ.ret1 (v:=(.int _ _)) (Bs:=[]) [] rfl rfl rfl trivial ?_
 first | exact ⟨iE (by unfold Lay.vertex; rw [if_pos (by omega)]),rfl⟩ | exact ⟨iE (by unfold Lay.vertex; rw [if_neg (by omega)]),rfl⟩
 refine xnf rfl (xmt rfl (xo rfl (xo rfl (xo rfl (xo rfl (xo rfl (xpT rfl (dT rfl ?_))))))))
 refine xai rfl (dRR ?_)
 refine FQ.ret1 (v:=(.int _ _)) (Bs:=[]) [] rfl rfl rfl trivial ?_
 first | exact ⟨iE (by unfold Lay.vertex; rw [if_pos (by omega)]),rfl⟩ | exact ⟨iE (by unfold Lay.vertex; rw [if_neg (by omega)]),rfl⟩
theorem zoe {l:Lay} (hl:l.Ok) {s i d:Int}:FnD Tryz.prog 174 [layV l,.int .i64 s,.int .i64 i,.int .i64 d] [] (.int .i64 (l.arc s i d)) []:=by
 have hb:=zaW hl
 refine Fn.enter (Tryz.func174) rfl rfl (fun w0 R=>?_)
 refine sA (xB 0 rfl (fun bk0=>(xai rfl (dB (xmi rfl (xf 1 zbc rfl (xli 0 zaf rfl rfl (TL.callD [] [] zaX ⟨rfl,rfl,trivial⟩ trivial zbl rfl rfl rfl rfl rfl trivial (TL.casesP rfl (fun q1=>?_) (fun q1=>?_))))))))))
 refine xnt rfl (xmf rfl (xmi rfl (xL3 0 zaa rfl rfl (TL.callD [] [] (zbY hl) ⟨rfl,trivial⟩ trivial ze6 rfl rfl rfl rfl rfl trivial (TL.callD [] [] zaX ⟨rfl,rfl,trivial⟩ trivial zbl rfl rfl rfl rfl rfl trivial (TL.casesP rfl (fun q2=>?_) (fun q2=>?_)))))))
 refine xnt rfl (xpF rfl (xmf rfl (xmi rfl (TL.callD [] [] zaX ⟨rfl,rfl,trivial⟩ trivial zbl rfl rfl rfl rfl rfl trivial (TL.casesP rfl (fun q3=>?_) (fun q3=>?_))))))
 refine xnt rfl (xpF rfl (TL.done (TQ.then (TC.condF rfl (TC.skip (TQ.then (TC.seq (TC.draw [(0,true),(2,true),(3,true),(6,true),(7,true),(11,true),(12,true),(14,true),(1,false),(4,true),(5,true),(8,false),(9,true),(10,true),(13,true),(15,true),(16,true)] [0] fc_m (by kernel_rfl) ?_))))))))
 refine xL3 0 zaa rfl rfl (xf 0 zaw rfl (xli 0 zaf rfl rfl (xmi rfl (xL3 0 zaa rfl rfl (xmi rfl (TL.mul _ rfl rfl (wr64 (by omega)) rfl rfl (xmi rfl (TL.callD [] [] (zbY hl) ⟨rfl,trivial⟩ trivial ze6 rfl rfl rfl rfl rfl (kL1 rfl trivial) ?_))))))))
 refine TL.mul _ rfl rfl (wr64 (by omega)) rfl rfl (TL.add _ rfl rfl (wr64 (by omega)) rfl rfl (TL.callD [] [] (zih hl) ⟨rfl,trivial⟩ trivial zkE rfl rfl rfl rfl rfl (kL1 rfl trivial) (TL.mul _ rfl rfl (wr64 (by have:=zcK (a:=s) (A:=48) (b:=l.arcs) (B:=10) (by omega) (by omega) (by omega) (by omega); omega)) rfl rfl (TL.add _ rfl rfl (wr64 (by have:=zcK (a:=s) (A:=48) (b:=l.arcs) (B:=10) (by omega) (by omega) (by omega) (by omega); omega)) rfl rfl (TL.add _ rfl rfl (wr64 (by have:=zcK (a:=s) (A:=48) (b:=l.arcs) (B:=10) (by omega) (by omega) (by omega) (by omega); omega)) rfl rfl ?_)))))
 refine TL.add _ rfl rfl (wr64 (by have:=zcK (a:=s) (A:=48) (b:=l.arcs) (B:=10) (by omega) (by omega) (by omega) (by omega); omega)) rfl rfl (xai rfl (dR ?_))
 refine FQ.ret1 (v:=(.int _ _)) (Bs:=[]) [] rfl rfl rfl trivial ?_
 first | exact ⟨iE (by unfold Lay.arc; rw [if_pos (by omega)]),rfl⟩ | exact ⟨iE (by unfold Lay.arc; rw [if_neg (by omega)]),rfl⟩
 refine xnf rfl (xpH rfl (dT rfl (xai rfl (dRR ?_))))
 refine FQ.ret1 (v:=(.int _ _)) (Bs:=[]) [] rfl rfl rfl trivial ?_
 first | exact ⟨iE (by unfold Lay.arc; rw [if_pos (by omega)]),rfl⟩ | exact ⟨iE (by unfold Lay.arc; rw [if_neg (by omega)]),rfl⟩
 refine xnf rfl (xpH rfl (xmt rfl (xo rfl (xo rfl (xo rfl (xpT rfl (dT rfl (xai rfl ?_))))))))
 refine dRR ?_
 refine FQ.ret1 (v:=(.int _ _)) (Bs:=[]) [] rfl rfl rfl trivial ?_
 first | exact ⟨iE (by unfold Lay.arc; rw [if_pos (by omega)]),rfl⟩ | exact ⟨iE (by unfold Lay.arc; rw [if_neg (by omega)]),rfl⟩
 refine xnf rfl (xmt rfl (xo rfl (xo rfl (xo rfl (xo rfl (xo rfl (xpT rfl (xmt rfl ?_))))))))
 refine xo rfl (xo rfl (xo rfl (xpT rfl (dT rfl (xai rfl (dRR ?_))))))
 refine FQ.ret1 (v:=(.int _ _)) (Bs:=[]) [] rfl rfl rfl trivial ?_
 first | exact ⟨iE (by unfold Lay.arc; rw [if_pos (by omega)]),rfl⟩ | exact ⟨iE (by unfold Lay.arc; rw [if_neg (by omega)]),rfl⟩
theorem zh1 {l:Lay} (hl:l.Ok)  : FnD Tryz.prog 122 [layV l] [] (.int .i64 l.free) []:=by
 have hb:=zaW hl
 refine Fn.enter (Tryz.func122) rfl rfl (fun w0 R=>?_)
 refine sA (xB 0 rfl (fun bk0=>(xai rfl (dA (xf 2 zdj rfl (xli 0 zaf rfl rfl (xai rfl (dR ?_))))))))
 refine FQ.ret1 (v:=(.int _ _)) (Bs:=[]) [] rfl rfl rfl trivial ?_
 exact ⟨rfl,rfl⟩
theorem zmt {l:Lay} (hl:l.Ok) {s f:Int} (hf:0≤f∧f≤8):FnD Tryz.prog 149 [layV l,.int .i64 s,.int .i64 f] [] (.int .i64 (l.of s f)) []:=by
 have hb:=zaW hl
 refine Fn.enter (Tryz.func149) rfl rfl (fun w0 R=>?_)
 refine sA (xB 0 rfl (fun bk0=>(xai rfl (dB (xmi rfl (xf 1 zbc rfl (xli 0 zaf rfl rfl (TL.callD [] [] zaX ⟨rfl,rfl,trivial⟩ trivial zbl rfl rfl rfl rfl rfl trivial (TL.casesP rfl (fun q1=>?_) (fun q1=>?_))))))))))
 refine xnt rfl (dF rfl (xL3 0 zaa rfl rfl (TL.callD [] [] (zh1 hl) ⟨rfl,trivial⟩ trivial zia rfl rfl rfl rfl rfl trivial (TL.add _ rfl rfl (wr64 (by omega)) rfl rfl (xmi rfl (TL.mul _ rfl rfl (wr64 (by omega)) rfl rfl (TL.add _ rfl rfl (wr64 (by omega)) rfl rfl (xmi rfl ?_))))))))
 refine TL.add _ rfl rfl (wr64 (by omega)) rfl rfl (xai rfl (dR ?_))
 refine FQ.ret1 (v:=(.int _ _)) (Bs:=[]) [] rfl rfl rfl trivial ?_
 first | exact ⟨iE (by unfold Lay.of Lay.free at *; rw [if_pos (by omega)]),rfl⟩ | exact ⟨iE (by unfold Lay.of Lay.free at *; rw [if_neg (by omega)]),rfl⟩
 refine xnf rfl (dT rfl (xai rfl (dRR ?_)))
 refine FQ.ret1 (v:=(.int _ _)) (Bs:=[]) [] rfl rfl rfl trivial ?_
 first | exact ⟨iE (by unfold Lay.of Lay.free at *; rw [if_pos (by omega)]),rfl⟩ | exact ⟨iE (by unfold Lay.of Lay.free at *; rw [if_neg (by omega)]),rfl⟩
theorem znK {l:Lay} (hl:l.Ok) {s:Int}:FnD Tryz.prog 135 [layV l,.int .i64 s] [] (.int .i64 (l.ends s)) []:=by
 have hb:=zaW hl
 refine Fn.enter (Tryz.func135) rfl rfl (fun w0 R=>?_)
 refine sA (xB 0 rfl (fun bk0=>(xai rfl (dA (xL3 0 zaa rfl rfl (xmi rfl (TL.callD [] [] (zmt hl (by omega)) ⟨rfl,rfl,rfl,trivial⟩ trivial zgO rfl rfl rfl rfl rfl trivial (xai rfl (dR ?_)))))))))
 refine FQ.ret1 (v:=(.int _ _)) (Bs:=[]) [] rfl rfl rfl trivial ?_
 exact ⟨rfl,rfl⟩
theorem zku {l:Lay} (hl:l.Ok) {s:Int}:FnD Tryz.prog 136 [layV l,.int .i64 s] [] (.int .i64 (l.level s)) []:=by
 have hb:=zaW hl
 refine Fn.enter (Tryz.func136) rfl rfl (fun w0 R=>?_)
 refine sA (xB 0 rfl (fun bk0=>(xai rfl (dA (xL3 0 zaa rfl rfl (xmi rfl (TL.callD [] [] (zmt hl (by omega)) ⟨rfl,rfl,rfl,trivial⟩ trivial zgO rfl rfl rfl rfl rfl trivial (xai rfl (dR ?_)))))))))
 refine FQ.ret1 (v:=(.int _ _)) (Bs:=[]) [] rfl rfl rfl trivial ?_
 exact ⟨rfl,rfl⟩
theorem zqX {l:Lay} (hl:l.Ok) {s d:Int}:FnD Tryz.prog 182 [layV l,.int .i64 s,.int .i64 d] [] (.int .i64 (l.next s d)) []:=by
 have hb:=zaW hl
 refine Fn.enter (Tryz.func182) rfl rfl (fun w0 R=>?_)
 refine sA (xB 0 rfl (fun bk0=>(xai rfl (dB (xmi rfl (TL.callD [] [] zaX ⟨rfl,rfl,trivial⟩ trivial zbl rfl rfl rfl rfl rfl trivial (TL.casesP rfl (fun q1=>?_) (fun q1=>?_))))))))
 refine xnt rfl (dF rfl (xL3 0 zaa rfl rfl (xmi rfl (xmi rfl (TL.add _ rfl rfl (wr64 (by omega)) rfl rfl (TL.callD [] [] (zmt hl (by omega)) ⟨rfl,rfl,rfl,trivial⟩ trivial zgO rfl rfl rfl rfl rfl trivial (xai rfl (dR ?_))))))))
 refine FQ.ret1 (v:=(.int _ _)) (Bs:=[]) [] rfl rfl rfl trivial ?_
 first | exact ⟨iE (by unfold Lay.next; rw [if_pos (by omega)]),rfl⟩ | exact ⟨iE (by unfold Lay.next; rw [if_neg (by omega)]),rfl⟩
 refine xnf rfl (dT rfl (xai rfl (dRR ?_)))
 refine FQ.ret1 (v:=(.int _ _)) (Bs:=[]) [] rfl rfl rfl trivial ?_
 first | exact ⟨iE (by unfold Lay.next; rw [if_pos (by omega)]),rfl⟩ | exact ⟨iE (by unfold Lay.next; rw [if_neg (by omega)]),rfl⟩
theorem zqJ {l:Lay} (hl:l.Ok) {s d:Int}:FnD Tryz.prog 183 [layV l,.int .i64 s,.int .i64 d] [] (.int .i64 (l.prev s d)) []:=by
 have hb:=zaW hl
 refine Fn.enter (Tryz.func183) rfl rfl (fun w0 R=>?_)
 refine sA (xB 0 rfl (fun bk0=>(xai rfl (dB (xmi rfl (TL.callD [] [] zaX ⟨rfl,rfl,trivial⟩ trivial zbl rfl rfl rfl rfl rfl trivial (TL.casesP rfl (fun q1=>?_) (fun q1=>?_))))))))
 refine xnt rfl (dF rfl (xL3 0 zaa rfl rfl (xmi rfl (xmi rfl (TL.add _ rfl rfl (wr64 (by omega)) rfl rfl (TL.callD [] [] (zmt hl (by omega)) ⟨rfl,rfl,rfl,trivial⟩ trivial zgO rfl rfl rfl rfl rfl trivial (xai rfl (dR ?_))))))))
 refine FQ.ret1 (v:=(.int _ _)) (Bs:=[]) [] rfl rfl rfl trivial ?_
 first | exact ⟨iE (by unfold Lay.prev; rw [if_pos (by omega)]),rfl⟩ | exact ⟨iE (by unfold Lay.prev; rw [if_neg (by omega)]),rfl⟩
 refine xnf rfl (dT rfl (xai rfl (dRR ?_)))
 refine FQ.ret1 (v:=(.int _ _)) (Bs:=[]) [] rfl rfl rfl trivial ?_
 first | exact ⟨iE (by unfold Lay.prev; rw [if_pos (by omega)]),rfl⟩ | exact ⟨iE (by unfold Lay.prev; rw [if_neg (by omega)]),rfl⟩
theorem zkw {l:Lay} (hl:l.Ok)  : FnD Tryz.prog 148 [layV l] [] (.int .i64 l.heads) []:=by
 have hb:=zaW hl
 refine Fn.enter (Tryz.func148) rfl rfl (fun w0 R=>?_)
 refine sA (xB 0 rfl (fun bk0=>(xai rfl (dS (TC.draw [(0,true),(3,true),(4,true),(5,true),(1,false),(2,true),(6,true),(7,true)] [0] fc_m (by kernel_rfl) (xL3 0 zaa rfl rfl (xf 1 zbc rfl (xli 0 zaf rfl rfl (TL.mul _ rfl rfl (wr64 (by omega)) rfl rfl ?_)))))))))
 refine TL.callD [] [] (zh1 hl) ⟨rfl,trivial⟩ trivial zia rfl rfl rfl rfl rfl (kL1 rfl trivial) (TL.add _ rfl rfl (wr64 (by omega)) rfl rfl (TL.add _ rfl rfl (wr64 (by omega)) rfl rfl (xai rfl (dR ?_))))
 refine FQ.ret1 (v:=(.int _ _)) (Bs:=[]) [] rfl rfl rfl trivial ?_
 exact ⟨rfl,rfl⟩
theorem zmN {l:Lay} (hl:l.Ok) {v i:Int}:FnD Tryz.prog 164 [layV l,.int .i64 v,.int .i64 i] [] (.int .i64 (l.head v i)) []:=by
 have hb:=zaW hl
 refine Fn.enter (Tryz.func164) rfl rfl (fun w0 R=>?_)
 refine sA (xB 0 rfl (fun bk0=>(xai rfl (dB (xmi rfl (xf 0 zaw rfl (xli 0 zaf rfl rfl (TL.callD [] [] zaX ⟨rfl,rfl,trivial⟩ trivial zbl rfl rfl rfl rfl rfl trivial (TL.casesP rfl (fun q1=>?_) (fun q1=>?_))))))))))
 refine xnt rfl (xmf rfl (xmi rfl (xL3 0 zaa rfl rfl (TL.callD [] [] (zbY hl) ⟨rfl,trivial⟩ trivial ze6 rfl rfl rfl rfl rfl trivial (TL.callD [] [] zaX ⟨rfl,rfl,trivial⟩ trivial zbl rfl rfl rfl rfl rfl trivial (TL.casesP rfl (fun q2=>?_) (fun q2=>?_)))))))
 refine xnt rfl (xpF rfl (TL.done (TQ.then (TC.condF rfl (TC.skip (TQ.then (TC.seq (TC.draw [(0,true),(2,true),(3,true),(7,true),(1,false),(4,false),(5,true),(6,true),(8,true),(9,true)] [0] fc_m (by kernel_rfl) ?_))))))))
 refine xL3 0 zaa rfl rfl (xmi rfl (xL3 0 zaa rfl rfl (xmi rfl (TL.callD [] [] (zkw hl) ⟨rfl,trivial⟩ trivial znr rfl rfl rfl rfl rfl (kL1 rfl trivial) (TL.callD [] [] (zbY hl) ⟨rfl,trivial⟩ trivial ze6 rfl rfl rfl rfl rfl (kL1 rfl trivial) (TL.mul _ rfl rfl (wr64 (by have:=zcK (a:=v) (A:=16) (b:=l.lev) (B:=5) (by omega) (by omega) (by omega) (by omega); omega)) rfl rfl (TL.add _ rfl rfl (wr64 (by have:=zcK (a:=v) (A:=16) (b:=l.lev) (B:=5) (by omega) (by omega) (by omega) (by omega); omega)) rfl rfl (TL.add _ rfl rfl (wr64 (by have:=zcK (a:=v) (A:=16) (b:=l.lev) (B:=5) (by omega) (by omega) (by omega) (by omega); omega)) rfl rfl ?_))))))))
 refine xai rfl (dR ?_)
 refine FQ.ret1 (v:=(.int _ _)) (Bs:=[]) [] rfl rfl rfl trivial ?_
 first | exact ⟨iE (by unfold Lay.head; rw [if_pos (by omega)]),rfl⟩ | exact ⟨iE (by unfold Lay.head; rw [if_neg (by omega)]),rfl⟩
 refine xnf rfl (xpH rfl (dT rfl (xai rfl (dRR ?_))))
 refine FQ.ret1 (v:=(.int _ _)) (Bs:=[]) [] rfl rfl rfl trivial ?_
 first | exact ⟨iE (by unfold Lay.head; rw [if_pos (by omega)]),rfl⟩ | exact ⟨iE (by unfold Lay.head; rw [if_neg (by omega)]),rfl⟩
 refine xnf rfl (xmt rfl (xo rfl (xo rfl (xo rfl (xo rfl (xo rfl (xpT rfl (dT rfl ?_))))))))
 refine xai rfl (dRR ?_)
 refine FQ.ret1 (v:=(.int _ _)) (Bs:=[]) [] rfl rfl rfl trivial ?_
 first | exact ⟨iE (by unfold Lay.head; rw [if_pos (by omega)]),rfl⟩ | exact ⟨iE (by unfold Lay.head; rw [if_neg (by omega)]),rfl⟩
theorem zkM {l:Lay} (hl:l.Ok)  : FnD Tryz.prog 120 [layV l] [] (.int .i64 l.edges) []:=by
 have hb:=zaW hl
 refine Fn.enter (Tryz.func120) rfl rfl (fun w0 R=>?_)
 refine sA (xB 0 rfl (fun bk0=>(xai rfl (dS (TC.draw [(0,true),(2,true),(3,true),(4,true),(1,false),(5,false),(6,true),(7,true),(8,true)] [0] fc_m (by kernel_rfl) (xL3 0 zaa rfl rfl (xf 0 zaw rfl (xli 0 zaf rfl rfl (xL3 0 zaa rfl rfl ?_)))))))))
 refine TL.callD [] [] (zkw hl) ⟨rfl,trivial⟩ trivial znr rfl rfl rfl rfl rfl (kL1 rfl trivial) (TL.callD [] [] (zbY hl) ⟨rfl,trivial⟩ trivial ze6 rfl rfl rfl rfl rfl (kL1 rfl trivial) (TL.mul _ rfl rfl (wr64 (by omega)) rfl rfl (TL.add _ rfl rfl (wr64 (by omega)) rfl rfl (xai rfl (dR ?_)))))
 refine FQ.ret1 (v:=(.int _ _)) (Bs:=[]) [] rfl rfl rfl trivial ?_
 exact ⟨rfl,rfl⟩
theorem zjW {l:Lay} (hl:l.Ok) {a b:Int}:FnD Tryz.prog 109 [layV l,.int .i64 a,.int .i64 b] [] (.int .i64 (l.edge a b)) []:=by
 have hb:=zaW hl
 refine Fn.enter (Tryz.func109) rfl rfl (fun w0 R=>?_)
 refine sA (xB 0 rfl (fun bk0=>(xai rfl (dA (xmi rfl (xmi rfl (TL.min2 rfl rfl rfl rfl (xmi rfl (xmi rfl ?_)))))))))
 refine TL.max2 rfl rfl rfl rfl (xai rfl (xai rfl (dB (xmi rfl (xmi rfl (TL.eql rfl rfl rfl rfl (fun q1=>?_) (fun q1=>?_)))))))
 refine xmt rfl (xo rfl (xo rfl (xo rfl (xo rfl (xo rfl (xpT rfl (xmt rfl (xo rfl ?_))))))))
 refine xo rfl (xo rfl (xo rfl (xo rfl (xpT rfl (dT rfl (xai rfl (dRR ?_)))))))
 refine FQ.ret1 (v:=(.int _ _)) (Bs:=[]) [] rfl rfl rfl trivial ?_
 first | exact ⟨iE (by unfold Lay.edge; rw [if_neg (by omega)]),rfl⟩ | exact ⟨iE (by unfold Lay.edge; rw [if_pos (by omega)]),rfl⟩
 refine xmf rfl (xmi rfl (xf 0 zaw rfl (xli 0 zaf rfl rfl (TL.callD [] [] zaX ⟨rfl,rfl,trivial⟩ trivial zbl rfl rfl rfl rfl rfl trivial (TL.casesP rfl (fun q2=>?_) (fun q2=>?_))))))
 refine xnt rfl (xpF rfl (xmf rfl (xmi rfl (xf 0 zaw rfl (xli 0 zaf rfl rfl (TL.callD [] [] zaX ⟨rfl,rfl,trivial⟩ trivial zbl rfl rfl rfl rfl rfl trivial (TL.casesP rfl (fun q3=>?_) (fun q3=>?_))))))))
 refine xnt rfl (xpF rfl (TL.done (TQ.then (TC.condF rfl (TC.skip (TQ.then (TC.seq (TC.draw [(0,true),(2,true),(3,true),(4,true),(5,true),(6,true),(7,true),(8,true),(9,true),(10,true),(12,true),(14,true),(1,false),(11,true),(13,true),(15,true),(16,true),(17,true)] [0] fc_m (by kernel_rfl) ?_))))))))
 refine xL3 0 zaa rfl rfl (xmi rfl (xf 0 zaw rfl (xli 0 zaf rfl rfl (TL.mul _ rfl rfl (wr64 (by omega)) rfl rfl (xmi rfl (TL.sub _ rfl rfl (wr64 (by omega)) rfl rfl (TL.sub _ rfl rfl (wr64 (by omega)) rfl rfl (TL.mul _ rfl rfl (wr64 (by have h9:=zez (x:=min a b) (V:=(l.V:Int)) (by omega) (by omega) (by omega); omega)) rfl rfl ?_))))))))
 refine TL.quo _ rfl rfl (by omega) (zmc (by have h9:=zez (x:=min a b) (V:=(l.V:Int)) (by omega) (by omega) (by omega); omega) (by omega) (by have h9:=zez (x:=min a b) (V:=(l.V:Int)) (by omega) (by omega) (by omega); omega)) rfl rfl (xmi rfl (xmi rfl (TL.callD [] [] (zkM hl) ⟨rfl,trivial⟩ trivial znC rfl rfl rfl rfl rfl (kL1 rfl trivial) (TL.add _ rfl rfl (wr64 (by have h9:=zez (x:=min a b) (V:=(l.V:Int)) (by omega) (by omega) (by omega); omega)) rfl rfl (TL.add _ rfl rfl (wr64 (by have h9:=zez (x:=min a b) (V:=(l.V:Int)) (by omega) (by omega) (by omega); omega)) rfl rfl ?_)))))
 refine TL.sub _ rfl rfl (wr64 (by have h9:=zez (x:=min a b) (V:=(l.V:Int)) (by omega) (by omega) (by omega); omega)) rfl rfl (TL.sub _ rfl rfl (wr64 (by have h9:=zez (x:=min a b) (V:=(l.V:Int)) (by omega) (by omega) (by omega); omega)) rfl rfl (xai rfl (dR ?_)))
 refine FQ.ret1 (v:=(.int _ _)) (Bs:=[]) [] rfl rfl rfl trivial ?_
 first | exact ⟨iE (by unfold Lay.edge; rw [if_neg (by omega)]),rfl⟩ | exact ⟨iE (by unfold Lay.edge; rw [if_pos (by omega)]),rfl⟩
 refine xnf rfl (xpH rfl (dT rfl (xai rfl (dRR ?_))))
 refine FQ.ret1 (v:=(.int _ _)) (Bs:=[]) [] rfl rfl rfl trivial ?_
 first | exact ⟨iE (by unfold Lay.edge; rw [if_neg (by omega)]),rfl⟩ | exact ⟨iE (by unfold Lay.edge; rw [if_pos (by omega)]),rfl⟩
 refine xnf rfl (xpH rfl (xmt rfl (xo rfl (xo rfl (xo rfl (xo rfl (xo rfl (xpT rfl ?_))))))))
 refine dT rfl (xai rfl (dRR ?_))
 refine FQ.ret1 (v:=(.int _ _)) (Bs:=[]) [] rfl rfl rfl trivial ?_
 first | exact ⟨iE (by unfold Lay.edge; rw [if_neg (by omega)]),rfl⟩ | exact ⟨iE (by unfold Lay.edge; rw [if_pos (by omega)]),rfl⟩
theorem zob {l:Lay} (hl:l.Ok)  : FnD Tryz.prog 88 [layV l] [] (.int .i64 l.base) []:=by
 have hb:=zaW hl
 refine Fn.enter (Tryz.func88) rfl rfl (fun w0 R=>?_)
 refine sA (xB 0 rfl (fun bk0=>(xai rfl (dS (TC.draw [(0,true),(2,true),(3,true),(4,true),(5,true),(6,true),(7,true),(8,true),(1,false),(9,true),(10,true)] [0] fc_m (by kernel_rfl) (xL3 0 zaa rfl rfl (xf 0 zaw rfl (xli 0 zaf rfl rfl (xf 0 zaw rfl ?_)))))))))
 refine xli 0 zaf rfl rfl (TL.sub _ rfl rfl (wr64 (by omega)) rfl rfl (TL.mul _ rfl rfl (wr64 (by omega)) rfl rfl (TL.quo _ rfl rfl (by omega) (zmc (by omega) (by omega) (by omega)) rfl rfl (TL.callD [] [] (zkM hl) ⟨rfl,trivial⟩ trivial znC rfl rfl rfl rfl rfl (kL1 rfl trivial) (TL.add _ rfl rfl (wr64 (by omega)) rfl rfl (xai rfl (dR ?_)))))))
 refine FQ.ret1 (v:=(.int _ _)) (Bs:=[]) [] rfl rfl rfl trivial ?_
 exact ⟨rfl,rfl⟩
theorem zaD {l:Lay} (hl:l.Ok) {x f:Int}:FnD Tryz.prog 54 [layV l,.int .i64 x,.int .i64 f] [] (.int .i64 (l.field x f)) []:=by
 have hb:=zaW hl
 refine Fn.enter (Tryz.func54) rfl rfl (fun w0 R=>?_)
 refine sA (xB 0 rfl (fun bk0=>(xai rfl (dB (xmi rfl (TL.sub _ rfl rfl (rfl) rfl rfl (xL3 0 zaa rfl rfl (TL.callD [] [] (zcV hl) ⟨rfl,trivial⟩ trivial zfJ rfl rfl rfl rfl rfl trivial (TL.callD [] [] zaX ⟨rfl,rfl,trivial⟩ trivial zbl rfl rfl rfl rfl rfl trivial ?_)))))))))
 refine TL.casesP rfl (fun q1=>?_) (fun q1=>?_)
 refine xnt rfl (xmf rfl (xmi rfl (TL.callD [] [] zaX ⟨rfl,rfl,trivial⟩ trivial zbl rfl rfl rfl rfl rfl trivial (TL.casesP rfl (fun q2=>?_) (fun q2=>?_)))))
 refine xnt rfl (xpF rfl (dF rfl (xL3 0 zaa rfl rfl (TL.callD [] [] (zob hl) ⟨rfl,trivial⟩ trivial zpR rfl rfl rfl rfl rfl trivial (xmi rfl (TL.sub _ rfl rfl (rfl) rfl rfl (TL.mul _ rfl rfl (wr64 (by omega)) rfl rfl (TL.add _ rfl rfl (wr64 (by omega)) rfl rfl ?_))))))))
 refine xmi rfl (TL.add _ rfl rfl (wr64 (by omega)) rfl rfl (xai rfl (dR ?_)))
 refine FQ.ret1 (v:=(.int _ _)) (Bs:=[]) [] rfl rfl rfl trivial ?_
 first | exact ⟨iE (by unfold Lay.field; rw [if_pos (by omega)]),rfl⟩ | exact ⟨iE (by unfold Lay.field; rw [if_neg (by omega)]),rfl⟩
 refine xnf rfl (xpH rfl (dT rfl (xai rfl (dRR ?_))))
 refine FQ.ret1 (v:=(.int _ _)) (Bs:=[]) [] rfl rfl rfl trivial ?_
 first | exact ⟨iE (by unfold Lay.field; rw [if_pos (by omega)]),rfl⟩ | exact ⟨iE (by unfold Lay.field; rw [if_neg (by omega)]),rfl⟩
 refine xnf rfl (xmt rfl (xo rfl (xo rfl (xo rfl (xpT rfl (dT rfl (xai rfl (dRR ?_))))))))
 refine FQ.ret1 (v:=(.int _ _)) (Bs:=[]) [] rfl rfl rfl trivial ?_
 first | exact ⟨iE (by unfold Lay.field; rw [if_pos (by omega)]),rfl⟩ | exact ⟨iE (by unfold Lay.field; rw [if_neg (by omega)]),rfl⟩
theorem zpg {l:Lay} (hl:l.Ok)  : FnD Tryz.prog 30 [layV l] [] (.int .i64 l.cells) []:=by
 have hb:=zaW hl
 refine Fn.enter (Tryz.func30) rfl rfl (fun w0 R=>?_)
 refine sA (xB 0 rfl (fun bk0=>(xai rfl (dS (TC.draw [(0,true),(2,true),(1,false),(3,false),(4,true),(5,true),(6,true)] [0] fc_m (by kernel_rfl) (xL3 0 zaa rfl rfl (xL3 0 zaa rfl rfl (TL.callD [] [] (zob hl) ⟨rfl,trivial⟩ trivial zpR rfl rfl rfl rfl rfl (kL1 rfl trivial) (TL.callD [] [] (zcV hl) ⟨rfl,trivial⟩ trivial zfJ rfl rfl rfl rfl rfl (kL1 rfl trivial) ?_)))))))))
 refine TL.mul _ rfl rfl (wr64 (by omega)) rfl rfl (TL.add _ rfl rfl (wr64 (by omega)) rfl rfl (xai rfl (dR ?_)))
 refine FQ.ret1 (v:=(.int _ _)) (Bs:=[]) [] rfl rfl rfl trivial ?_
 exact ⟨rfl,rfl⟩
theorem zhS {l:Lay} (hl:l.Ok) {x:Int}:FnD Tryz.prog 47 [layV l,.int .i64 x] [] (.tuple #[zsa (l.node x).1,.bool (l.node x).2]) []:=by
 have hb:=zaW hl
 refine Fn.enter (Tryz.func47) rfl rfl (fun w0 R=>?_)
 refine sA (xB 0 rfl (fun bk0=>(TL.alloc 1 (cs:=#[.bool false,.int .i64 0,.int .i64 0,.int .i64 0,.int .i64 0]) zfI rfl rfl rfl (fun _=>trivial) (fun bk1=>(xaf rfl (dB (xmi rfl (TL.sub _ rfl rfl (rfl) rfl rfl (xL3 0 zaa rfl rfl (TL.callD [] [] (zcV hl) ⟨rfl,trivial⟩ trivial zfJ rfl rfl rfl rfl rfl trivial ?_))))))))))
 refine TL.callD [] [] zaX ⟨rfl,rfl,trivial⟩ trivial zbl rfl rfl rfl rfl rfl trivial (TL.casesP rfl (fun q1=>?_) (fun q1=>?_))
 refine xnt rfl (dF rfl (xmi rfl (TL.sub _ rfl rfl (rfl) rfl rfl (xai rfl (dS (TC.draw [(0,true),(2,true),(3,true),(1,false),(4,true),(5,true)] [0] fc_m (by kernel_rfl) (xL3 0 zaa rfl rfl (xf 0 zaw rfl ?_))))))))
 refine xli 0 zaf rfl rfl (TL.callD [] [] (zbY hl) ⟨rfl,trivial⟩ trivial ze6 rfl rfl rfl rfl rfl (kL1 rfl trivial) (TL.mul _ rfl rfl (wr64 (by omega)) rfl rfl (xai rfl (dB (xmi rfl (xmi rfl (TL.lss rfl rfl rfl rfl (fun q2=>?_) (fun q2=>?_))))))))
 refine TL.done (TQ.then (TC.condT rfl (TC.seq (TC.draw [(0,true),(1,true),(2,true),(3,true),(4,true),(5,true),(6,true),(7,true),(8,true),(9,false),(10,true)] [0] fc_m (by kernel_rfl) (xmi rfl (xf 0 zaw rfl (xli 0 zaf rfl rfl (TL.quo _ rfl rfl (by omega) (zmc (by omega) (by omega) (by omega)) rfl rfl ?_))))))))
 refine xmi rfl (xf 0 zaw rfl (xli 0 zaf rfl rfl (TL.rem _ rfl rfl (by omega) (zqG (by omega)) rfl rfl (TL.bld [.bool false,.int .i64 0,.int .i64 0,.int .i64 0,.int .i64 0] [(.int _ _),(.int _ _)] [_,_,_,_,_] zfI zm8 ⟨rfl,rfl,trivial⟩ ⟨rfl,rfl⟩ rfl rfl (TL.stW 1 5 [_,_,_,_,_] rfl rfl rfl rfl rfl rfl zcd rfl rfl (kL1 rfl trivial) (xat rfl (dRR ?_)))))))
 refine FQ.retG (rs:=[.cell 4 94,.tmp 5]) [(.agg _),(.bool true)] (Bs:=[]) [] rfl ⟨⟨_,_,_,_,_,1,rfl,rfl,.inr ⟨5,[_,_,_,_,_],zcd,rfl,rfl⟩⟩,rfl,trivial⟩ rfl rfl trivial ?_
 first | exact ⟨by unfold Lay.node; simp only []; rw [if_neg (by omega)]; rfl,rfl⟩ | exact ⟨by unfold Lay.node; simp only []; rw [if_pos (by omega),if_pos (by omega)]; rfl,rfl⟩ | exact ⟨by unfold Lay.node; simp only []; rw [if_pos (by omega),if_neg (by omega)]; rfl,rfl⟩
 refine dF rfl (xmi rfl (xmi rfl (TL.sub _ rfl rfl (wr64 (by omega)) rfl rfl (xai rfl (dS (TC.draw [(0,true),(1,true),(4,true),(5,true),(9,true),(10,true),(2,false),(3,true),(6,false),(7,true),(8,true),(11,true),(12,false),(13,true)] [0] fc_m (by kernel_rfl) (xmi rfl (xL3 0 zaa rfl rfl ?_))))))))
 refine xmi rfl (xL3 0 zaa rfl rfl (xmi rfl (TL.rem _ rfl rfl (by omega) (zqG (by omega)) rfl rfl (TL.callD [] [] (zih hl) ⟨rfl,trivial⟩ trivial zkE rfl rfl rfl rfl rfl (kL1 rfl trivial) (TL.quo _ rfl rfl (by omega) (zmc (by omega) (by omega) (by omega)) rfl rfl (TL.callD [] [] (zih hl) ⟨rfl,trivial⟩ trivial zkE rfl rfl rfl rfl rfl (kL1 rfl trivial) (TL.rem _ rfl rfl (by omega) (zqG (by omega)) rfl rfl (TL.quo _ rfl rfl (by omega) (zmc (Int.emod_nonneg _ (by omega)) (by omega) (by have:=Int.emod_lt_of_pos (IntKind.i64.wrap (x - 1) - l.lev * l.V) (b:=l.arcs) (by omega); omega)) rfl rfl ?_))))))))
 refine TL.bld [.bool false,.int .i64 0,.int .i64 0,.int .i64 0,.int .i64 0] [(.bool true),(.int _ _),(.int _ _),(.int _ _)] [_,_,_,_,_] zfI zm8 ⟨rfl,rfl,rfl,rfl,trivial⟩ ⟨rfl,rfl⟩ rfl rfl (TL.stW 1 5 [_,_,_,_,_] rfl rfl rfl rfl rfl rfl zcd rfl rfl (kL1 rfl trivial) (xat rfl (dR ?_)))
 refine FQ.retG (rs:=[.cell 4 94,.tmp 5]) [(.agg _),(.bool true)] (Bs:=[]) [] rfl ⟨⟨_,_,_,_,_,1,rfl,rfl,.inr ⟨5,[_,_,_,_,_],zcd,rfl,rfl⟩⟩,rfl,trivial⟩ rfl rfl trivial ?_
 first | exact ⟨by unfold Lay.node; simp only []; rw [if_neg (by omega)]; rfl,rfl⟩ | exact ⟨by unfold Lay.node; simp only []; rw [if_pos (by omega),if_pos (by omega)]; rfl,rfl⟩ | exact ⟨by unfold Lay.node; simp only []; rw [if_pos (by omega),if_neg (by omega)]; rfl,rfl⟩
 refine xnf rfl (dT rfl (TL.bld [.bool false,.int .i64 0,.int .i64 0,.int .i64 0,.int .i64 0] [] [_,_,_,_,_] zfI zm8 trivial ⟨rfl,rfl⟩ rfl rfl (TL.stW 1 5 [_,_,_,_,_] rfl rfl rfl rfl rfl rfl zcd rfl rfl trivial (xaf rfl (dRR ?_)))))
 refine FQ.retG (rs:=[.cell 4 94,.tmp 5]) [(.agg _),(.bool false)] (Bs:=[]) [] rfl ⟨⟨_,_,_,_,_,1,rfl,rfl,.inr ⟨5,[_,_,_,_,_],zcd,rfl,rfl⟩⟩,rfl,trivial⟩ rfl rfl trivial ?_
 first | exact ⟨by unfold Lay.node; simp only []; rw [if_neg (by omega)]; rfl,rfl⟩ | exact ⟨by unfold Lay.node; simp only []; rw [if_pos (by omega),if_pos (by omega)]; rfl,rfl⟩ | exact ⟨by unfold Lay.node; simp only []; rw [if_pos (by omega),if_neg (by omega)]; rfl,rfl⟩
theorem zc6 {n m:Int}:FnD Tryz.prog 163 [.int .i64 n,.int .i64 m] [] (.bool (decide (0≤n∧n≤m))) []:=by
 refine Fn.enter (Tryz.func163) rfl rfl (fun w0 R=>?_)
 refine sA (xaf rfl (dA (xmi rfl (TL.geq rfl rfl rfl rfl (fun q1=>?_) (fun q1=>?_)))))
 refine xmt rfl (xmi rfl (xmi rfl (TL.leqV rfl rfl rfl rfl (TL.pickT (.bool _) rfl rfl rfl rfl (xab rfl (dR ?_))))))
 refine FQ.ret1 (v:=(.bool _)) (Bs:=[]) [] rfl rfl rfl trivial ?_
 first | exact ⟨bT (by omega),rfl⟩ | exact ⟨bF (by omega),rfl⟩ | exact ⟨congrArg Value.bool (decide_eq_decide.2 (by omega)),rfl⟩
 refine xmf rfl (xo rfl (xo rfl (xo rfl (xpF rfl (xaf rfl (dR ?_))))))
 refine FQ.ret1 (v:=(.bool false)) (Bs:=[]) [] rfl rfl rfl trivial ?_
 first | exact ⟨bT (by omega),rfl⟩ | exact ⟨bF (by omega),rfl⟩ | exact ⟨congrArg Value.bool (decide_eq_decide.2 (by omega)),rfl⟩
theorem zgk {o m t g:Int}:FnD Tryz.prog 132 [.agg #[.int .i64 o,.int .i64 m,.int .i64 t,.int .i64 g]] [] (.bool (decide (t=0))) []:=by
 refine Fn.enter (Tryz.func132) rfl rfl (fun w0 R=>?_)
 refine sA (xB 0 rfl (fun bk0=>(xaf rfl (dA (xf 2 zcO rfl (xli 0 zaf rfl rfl (TL.eqlV rfl rfl rfl rfl (xab rfl (dR ?_)))))))))
 refine FQ.ret1 (v:=(.bool _)) (Bs:=[]) [] rfl rfl rfl trivial ?_
 exact ⟨rfl,rfl⟩
theorem zij {o m t g:Int}:FnD Tryz.prog 162 [.agg #[.int .i64 o,.int .i64 m,.int .i64 t,.int .i64 g]] [] (.bool (⟨o,m,t,g⟩:Wd).right) []:=by
 refine Fn.enter (Tryz.func162) rfl rfl (fun w0 R=>?_)
 refine sA (xB 0 rfl (fun bk0=>(xaf rfl (dB (xf 0 za9 rfl (xli 0 zaf rfl rfl (TL.callD [] [] zc6 ⟨rfl,rfl,trivial⟩ trivial zfu rfl rfl rfl rfl rfl trivial (TL.casesP rfl (fun q1=>?_) (fun q1=>?_)))))))))
 refine xnt rfl (xmf rfl (xf 1 zaT rfl (xli 0 zaf rfl rfl (TL.callD [] [] zc6 ⟨rfl,rfl,trivial⟩ trivial zfu rfl rfl rfl rfl rfl trivial (TL.casesP rfl (fun q2=>?_) (fun q2=>?_))))))
 refine xnt rfl (xpF rfl (xmf rfl (xf 2 zcO rfl (xli 0 zaf rfl rfl (TL.callD [] [] zc6 ⟨rfl,rfl,trivial⟩ trivial zfu rfl rfl rfl rfl rfl trivial (TL.casesP rfl (fun q3=>?_) (fun q3=>?_)))))))
 refine xnt rfl (xpF rfl (xmf rfl (xf 3 zb7 rfl (xli 0 zaf rfl rfl (TL.callD [] [] zc6 ⟨rfl,rfl,trivial⟩ trivial zfu rfl rfl rfl rfl rfl trivial (TL.casesP rfl (fun q4=>?_) (fun q4=>?_)))))))
 refine xnt rfl (xpF rfl (dF rfl (xL4 0 zan rfl rfl (TL.callD [] [] zgk ⟨rfl,trivial⟩ trivial zjT rfl rfl rfl rfl rfl trivial (TL.casesP rfl (fun q5=>?_) (fun q5=>?_))))))
 refine xnt rfl (xmf rfl (xf 0 za9 rfl (xli 0 zaf rfl rfl (xf 1 zaT rfl (xli 0 zaf rfl rfl (TL.eql rfl rfl rfl rfl (fun q6=>?_) (fun q6=>?_)))))))
 refine xmt rfl (xf 3 zb7 rfl (xli 0 zaf rfl rfl (TL.eqlV rfl rfl rfl rfl (TL.pickT (.bool _) rfl rfl rfl rfl (TL.pickF (.bool _) rfl rfl rfl rfl (xab rfl (dR ?_)))))))
 refine FQ.ret1 (v:=(.bool _)) (Bs:=[]) [] rfl rfl rfl trivial ?_
 exact ⟨congrArg Value.bool (by simp [Wd.right, *]),rfl⟩
 refine xmf rfl (xo rfl (xo rfl (xo rfl (xpF rfl (xpF rfl (xaf rfl (dR ?_)))))))
 refine FQ.ret1 (v:=(.bool false)) (Bs:=[]) [] rfl rfl rfl trivial ?_
 exact ⟨congrArg Value.bool (by simp [Wd.right, *]),rfl⟩
 refine xnf rfl (xmt rfl (xo rfl (xo rfl (xo rfl (xo rfl (xo rfl (xo rfl (xo rfl ?_))))))))
 refine xo rfl (xo rfl (xo rfl (xpT rfl (xat rfl (dR ?_)))))
 refine FQ.ret1 (v:=(.bool true)) (Bs:=[]) [] rfl rfl rfl trivial ?_
 exact ⟨congrArg Value.bool (by simp [Wd.right, *]),rfl⟩
 refine xnf rfl (xpH rfl (dT rfl (xaf rfl (dRR ?_))))
 refine FQ.ret1 (v:=(.bool false)) (Bs:=[]) [] rfl rfl rfl trivial ?_
 exact ⟨congrArg Value.bool (by simp [Wd.right, *]),rfl⟩
 refine xnf rfl (xpH rfl (xmt rfl (xo rfl (xo rfl (xo rfl (xo rfl (xpT rfl (dT rfl ?_))))))))
 refine xaf rfl (dRR ?_)
 refine FQ.ret1 (v:=(.bool false)) (Bs:=[]) [] rfl rfl rfl trivial ?_
 exact ⟨congrArg Value.bool (by simp [Wd.right, *]),rfl⟩
 refine xnf rfl (xpH rfl (xmt rfl (xo rfl (xo rfl (xo rfl (xo rfl (xpT rfl (xmt rfl ?_))))))))
 refine xo rfl (xo rfl (xo rfl (xo rfl (xpT rfl (dT rfl (xaf rfl (dRR ?_)))))))
 refine FQ.ret1 (v:=(.bool false)) (Bs:=[]) [] rfl rfl rfl trivial ?_
 exact ⟨congrArg Value.bool (by simp [Wd.right, *]),rfl⟩
 refine xnf rfl (xmt rfl (xo rfl (xo rfl (xo rfl (xo rfl (xpT rfl (xmt rfl (xo rfl ?_))))))))
 refine xo rfl (xo rfl (xo rfl (xpT rfl (xmt rfl (xo rfl (xo rfl (xo rfl (xo rfl ?_))))))))
 refine xpT rfl (dT rfl (xaf rfl (dRR ?_)))
 refine FQ.ret1 (v:=(.bool false)) (Bs:=[]) [] rfl rfl rfl trivial ?_
 exact ⟨congrArg Value.bool (by simp [Wd.right, *]),rfl⟩
theorem zhN {o m t g:Int}:FnD Tryz.prog 143 [.agg #[.int .i64 o,.int .i64 m,.int .i64 t,.int .i64 g]] [] (.tuple #[.int .u64 (if (⟨o,m,t,g⟩:Wd).right then (⟨o,m,t,g⟩:Wd).pack else 0),.int .i64 (if (⟨o,m,t,g⟩:Wd).right then 0 else 11)]) []:=by
 refine Fn.enter (Tryz.func143) rfl rfl (fun w0 R=>?_)
 refine sA (xB 0 rfl (fun bk0=>(xai rfl (xai rfl (dB (xL4 0 zan rfl rfl (TL.callD [] [] zij ⟨rfl,trivial⟩ trivial zno rfl rfl rfl rfl rfl trivial (TL.cases rfl (fun q1=>?_) (fun q1=>?_)))))))))
 refine xnt rfl (dF rfl (xf 1 zaT rfl (xli 0 zaf rfl rfl (TL.conv _ rfl ze4 za0 (rfl) rfl rfl (xf 0 za9 rfl (xli 0 zaf rfl rfl (TL.conv _ rfl ze4 za0 (rfl) rfl rfl (TL.shl _ rfl rfl (by decide) rfl rfl rfl ?_))))))))
 refine TL.or _ rfl rfl rfl rfl rfl (xf 2 zcO rfl (xli 0 zaf rfl rfl (TL.conv _ rfl ze4 za0 (rfl) rfl rfl (TL.shl _ rfl rfl (by decide) rfl rfl rfl (TL.or _ rfl rfl rfl rfl rfl (xf 3 zb7 rfl (xli 0 zaf rfl rfl (TL.conv _ rfl ze4 za0 (rfl) rfl rfl ?_))))))))
 refine TL.shl _ rfl rfl (by decide) rfl rfl rfl (TL.or _ rfl rfl rfl rfl rfl (xai rfl (xai rfl (dR ?_))))
 refine FQ.ret2 (v:=(.int _ _)) (x:=(.int _ _)) (Bs:=[]) [] rfl rfl rfl rfl trivial ?_
 exact ⟨by simp only [*,if_true,Bool.false_eq_true,if_false]<;>rfl,rfl⟩
 refine xnf rfl (dT rfl (xai rfl (xai rfl (dRR ?_))))
 refine FQ.ret2 (v:=(.int _ _)) (x:=(.int _ _)) (Bs:=[]) [] rfl rfl rfl rfl trivial ?_
 exact ⟨by simp only [*,if_true,Bool.false_eq_true,if_false]<;>rfl,rfl⟩
theorem zj1 {v a n:Int} (ha:0≤a) (hn:0≤n):FnD Tryz.prog 161 [.int .u64 v,.int .i64 a,.int .i64 n] [] (.int .i64 (zg2 v a n)) []:=by
 refine Fn.enter (Tryz.func161) rfl rfl (fun w0 R=>?_)
 refine sA (xai rfl (dS (TC.draw [(0,true),(1,true),(2,true),(3,true),(4,true),(5,true),(6,true),(7,true),(8,true)] [] fc_m (by kernel_rfl) (xmi rfl (xmi rfl (TL.shr _ rfl rfl (by omega) rfl rfl rfl (xmi rfl (TL.shl _ rfl rfl (by omega) rfl rfl rfl ?_))))))))
 refine TL.sub _ rfl rfl (rfl) rfl rfl (TL.and _ rfl rfl rfl rfl rfl (TL.conv _ rfl zej zbF (rfl) rfl rfl (xai rfl (dR ?_))))
 refine FQ.ret1 (v:=(.int _ _)) (Bs:=[]) [] rfl rfl rfl trivial ?_
 exact ⟨iE (by unfold zg2 andU shrU shlU; rw [Int.one_mul]),rfl⟩
theorem zcf {v:Int}:FnD Tryz.prog 131 [.int .u64 v] [] (.tuple #[wdV (zab v).1,.int .i64 (if (zab v).2 then 0 else 21)]) []:=by
 refine Fn.enter (Tryz.func131) rfl rfl (fun w0 R=>?_)
 refine sA (TL.alloc 0 (cs:=#[.int .i64 0,.int .i64 0,.int .i64 0,.int .i64 0]) zbi rfl rfl rfl (fun _=>trivial) (fun bk0=>(xai rfl (dA (xmi rfl (TL.callD [] [] (zj1 (by decide) (by decide)) ⟨rfl,rfl,rfl,trivial⟩ trivial zjS rfl rfl rfl rfl rfl trivial (xmi rfl (TL.callD [] [] (zj1 (by decide) (by decide)) ⟨rfl,rfl,rfl,trivial⟩ trivial zjS rfl rfl rfl rfl rfl trivial (xmi rfl ?_)))))))))
 refine TL.callD [] [] (zj1 (by decide) (by decide)) ⟨rfl,rfl,rfl,trivial⟩ trivial zjS rfl rfl rfl rfl rfl trivial (xmi rfl (TL.shr _ rfl rfl (by decide) rfl rfl rfl (TL.conv _ rfl zej zbF (rfl) rfl rfl (TL.bld [.int .i64 0,.int .i64 0,.int .i64 0,.int .i64 0] [(.int _ _),(.int _ _),(.int _ _),(.int _ _)] [_,_,_,_] zbi zfr ⟨rfl,rfl,rfl,rfl,trivial⟩ ⟨rfl,rfl⟩ rfl rfl (TL.alloc 1 (cs:=#[.int .i64 0,.int .i64 0,.int .i64 0,.int .i64 0]) zbi rfl rfl rfl (fun _=>trivial) (fun bk1=>(TL.stW 1 4 [_,_,_,_] rfl rfl rfl rfl rfl rfl zan rfl rfl trivial (dB (xL4 1 zan rfl rfl ?_)))))))))
 refine TL.callD [] [] zij ⟨rfl,trivial⟩ trivial zno rfl rfl rfl rfl rfl trivial (TL.cases rfl (fun q1=>?_) (fun q1=>?_))
 refine xnt rfl (dF rfl (xL4 1 zan rfl rfl (TL.stW 0 4 [_,_,_,_] rfl rfl rfl rfl rfl rfl zan rfl rfl trivial (xai rfl (dR ?_)))))
 refine FQ.retG (rs:=[.cell 2 175,.tmp 3]) [(.agg _),(.int _ _)] (Bs:=[]) [] rfl ⟨⟨_,_,_,_,_,0,rfl,rfl,.inr ⟨4,[_,_,_,_],zan,rfl,rfl⟩⟩,rfl,trivial⟩ rfl rfl trivial ?_
 first | exact ⟨(by have q:(zbS v).right=true:=‹(zbS v).right=true›; simp only [zab,q,if_true]; rfl),rfl⟩ | exact ⟨(by have q:(zbS v).right=false:=‹(zbS v).right=false›; simp only [zab,q,Bool.false_eq_true,if_false]; rfl),rfl⟩
 refine xnf rfl (dT rfl (TL.bld [.int .i64 0,.int .i64 0,.int .i64 0,.int .i64 0] [] [_,_,_,_] zbi zfr trivial ⟨rfl,rfl⟩ rfl rfl (TL.stW 0 4 [_,_,_,_] rfl rfl rfl rfl rfl rfl zan rfl rfl trivial (xai rfl (dRR ?_)))))
 refine FQ.retG (rs:=[.cell 2 175,.tmp 3]) [(.agg _),(.int _ _)] (Bs:=[]) [] rfl ⟨⟨_,_,_,_,_,0,rfl,rfl,.inr ⟨4,[_,_,_,_],zan,rfl,rfl⟩⟩,rfl,trivial⟩ rfl rfl trivial ?_
 first | exact ⟨(by have q:(zbS v).right=true:=‹(zbS v).right=true›; simp only [zab,q,if_true]; rfl),rfl⟩ | exact ⟨(by have q:(zbS v).right=false:=‹(zbS v).right=false›; simp only [zab,q,Bool.false_eq_true,if_false]; rfl),rfl⟩
theorem zii {p:Pen} {x o m t g:Int} {b1 b2:Nat}:FnD Tryz.prog 134 [.agg #[.int .i64 o,.int .i64 m,.int .i64 t,.int .i64 g],.pointer (some ⟨b1,0,none⟩),.pointer (some ⟨b2,0,none⟩)] [pt b1 (.cells #[.int .i64 p.thread,.int .i64 p.tag] 37),pt b2 (.cells #[.int .i64 x] 3)] (wdV (p.to x (⟨o,m,t,g⟩:Wd))) [pt b1 (.cells #[.int .i64 p.thread,.int .i64 p.tag] 37),pt b2 (.cells #[.int .i64 x] 3)]:=by
 refine Fn.enter (Tryz.func134) rfl rfl (fun w0 R=>?_)
 refine sA (xB 2 rfl (fun bk2=>(TL.alloc 3 (cs:=#[.int .i64 0,.int .i64 0,.int .i64 0,.int .i64 0]) zbi rfl rfl rfl (fun _=>trivial) (fun bk3=>(dB (xf 2 zcO rfl (xli 2 zaf rfl rfl (xf 0 zdi rfl (xli 0 zaf rfl rfl (TL.neq rfl rfl rfl rfl (fun q1=>?_) (fun q1=>?_)))))))))))
 refine xmt rfl (xo rfl (xo rfl (xo rfl (xo rfl (xo rfl (xpT rfl (TL.done (TQ.then ?_))))))))
 refine TC.condT rfl (TC.region (xf 1 zaT rfl (xli 2 zaf rfl rfl (xf 0 za9 rfl (TL.st 2 #[_,_,_,_] (.int _ _) rfl rfl rfl rfl rfl rfl zaf rfl rfl trivial (dA (xf 0 za9 rfl (xli 2 zaf rfl rfl ?_))))))))
 refine xli 1 zaf rfl rfl (xf 0 zdi rfl (xli 0 zaf rfl rfl (xf 1 zcC rfl (xli 0 zaf rfl rfl (TL.bld [.int .i64 0,.int .i64 0,.int .i64 0,.int .i64 0] [(.int _ _),(.int _ _),(.int _ _),(.int _ _)] [_,_,_,_] zbi zfr ⟨rfl,rfl,rfl,rfl,trivial⟩ ⟨rfl,rfl⟩ rfl rfl (TL.stW 3 4 [_,_,_,_] rfl rfl rfl rfl rfl rfl zan rfl rfl trivial (dR ?_)))))))
 refine FQ.retG (rs:=[.cell 4 175]) [(.agg _)] (Bs:=[pt b1 (.cells #[.int .i64 p.thread,.int .i64 p.tag] 37),pt b2 (.cells #[.int .i64 x] 3)]) [0,1] rfl ⟨⟨_,_,_,_,_,3,rfl,rfl,.inr ⟨4,[_,_,_,_],zan,rfl,rfl⟩⟩,trivial⟩ rfl rfl ⟨rfl,rfl,trivial⟩ ?_
 first | exact ⟨(by unfold Pen.to; dsimp only; rw [if_pos (by omega)]; rfl),rfl⟩ | exact ⟨(by unfold Pen.to; dsimp only; rw [if_neg (by omega)]; rfl),rfl⟩
 refine xmf rfl (xf 3 zb7 rfl (xli 2 zaf rfl rfl (xf 1 zcC rfl (xli 0 zaf rfl rfl (TL.neq rfl rfl rfl rfl (fun q2=>?_) (fun q2=>?_))))))
 refine xpH rfl (TL.done (TQ.then (TC.condT rfl (TC.region (xf 1 zaT rfl (xli 2 zaf rfl rfl (xf 0 za9 rfl (TL.st 2 #[_,_,_,_] (.int _ _) rfl rfl rfl rfl rfl rfl zaf rfl rfl trivial ?_))))))))
 refine dA (xf 0 za9 rfl (xli 2 zaf rfl rfl (xli 1 zaf rfl rfl (xf 0 zdi rfl (xli 0 zaf rfl rfl (xf 1 zcC rfl (xli 0 zaf rfl rfl (TL.bld [.int .i64 0,.int .i64 0,.int .i64 0,.int .i64 0] [(.int _ _),(.int _ _),(.int _ _),(.int _ _)] [_,_,_,_] zbi zfr ⟨rfl,rfl,rfl,rfl,trivial⟩ ⟨rfl,rfl⟩ rfl rfl ?_))))))))
 refine TL.stW 3 4 [_,_,_,_] rfl rfl rfl rfl rfl rfl zan rfl rfl trivial (dR ?_)
 refine FQ.retG (rs:=[.cell 4 175]) [(.agg _)] (Bs:=[pt b1 (.cells #[.int .i64 p.thread,.int .i64 p.tag] 37),pt b2 (.cells #[.int .i64 x] 3)]) [0,1] rfl ⟨⟨_,_,_,_,_,3,rfl,rfl,.inr ⟨4,[_,_,_,_],zan,rfl,rfl⟩⟩,trivial⟩ rfl rfl ⟨rfl,rfl,trivial⟩ ?_
 first | exact ⟨(by unfold Pen.to; dsimp only; rw [if_pos (by omega)]; rfl),rfl⟩ | exact ⟨(by unfold Pen.to; dsimp only; rw [if_neg (by omega)]; rfl),rfl⟩
 refine xpF rfl (dF rfl (xf 0 za9 rfl (xli 2 zaf rfl rfl (xli 1 zaf rfl rfl (xf 0 zdi rfl (xli 0 zaf rfl rfl (xf 1 zcC rfl (xli 0 zaf rfl rfl ?_))))))))
 refine TL.bld [.int .i64 0,.int .i64 0,.int .i64 0,.int .i64 0] [(.int _ _),(.int _ _),(.int _ _),(.int _ _)] [_,_,_,_] zbi zfr ⟨rfl,rfl,rfl,rfl,trivial⟩ ⟨rfl,rfl⟩ rfl rfl (TL.stW 3 4 [_,_,_,_] rfl rfl rfl rfl rfl rfl zan rfl rfl trivial (dR ?_))
 refine FQ.retG (rs:=[.cell 4 175]) [(.agg _)] (Bs:=[pt b1 (.cells #[.int .i64 p.thread,.int .i64 p.tag] 37),pt b2 (.cells #[.int .i64 x] 3)]) [0,1] rfl ⟨⟨_,_,_,_,_,3,rfl,rfl,.inr ⟨4,[_,_,_,_],zan,rfl,rfl⟩⟩,trivial⟩ rfl rfl ⟨rfl,rfl,trivial⟩ ?_
 first | exact ⟨(by unfold Pen.to; dsimp only; rw [if_pos (by omega)]; rfl),rfl⟩ | exact ⟨(by unfold Pen.to; dsimp only; rw [if_neg (by omega)]; rfl),rfl⟩
theorem znY {S:Type} [MemLike S] {mt:TypeId} {mv:Value} {A:S→Assn} (hM:MemI Tryz.prog mt mv A) {σ:S} {p:Pen} {c x:Int} {b1 b2:Nat} (h:(zab (MemLike.get σ c)).2=false):FnD Tryz.prog 113 [.iface mt mv,.int .i64 c,.func (.func 134) #[] #[.pointer (some ⟨b1,0,none⟩),.pointer (some ⟨b2,0,none⟩)]] [A σ,pt b1 (.cells #[.int .i64 p.thread,.int .i64 p.tag] 37),pt b2 (.cells #[.int .i64 x] 3)] (.tuple #[]) [A (MemLike.ld σ c),pt b1 (.cells #[.int .i64 p.thread,.int .i64 p.tag] 37),pt b2 (.cells #[.int .i64 x] 3)]:=by
 refine Fn.enter (Tryz.func113) rfl rfl (fun w0 R=>?_)
 refine sA (xmc rfl (xmi rfl (TL.mload 0 hM rfl rfl rfl rfl rfl trivial (TL.callD [] [] zcf ⟨rfl,trivial⟩ trivial zdS rfl rfl rfl rfl rfl trivial (xmu rfl (TL.ext (.agg _) rfl rfl rfl rfl (xei rfl rfl (TL.alloc 3 (cs:=#[.int .i64 0,.int .i64 0,.int .i64 0,.int .i64 0]) zbi rfl rfl rfl (fun _=>trivial) (fun bk3=>?_)))))))))
 refine TL.stW 3 4 [_,_,_,_] rfl rfl rfl rfl rfl rfl zan rfl rfl trivial (xai rfl (dB (xmi rfl (TL.neqT rfl rfl (by rw [h]; decide) rfl rfl (TL.done (TQ.then (TC.condT rfl (TC.ret ?_))))))))
 refine TQ.thenRet ?_
 refine FQ.ret0 (Bs:=[A (MemLike.ld σ c),pt b1 (.cells #[.int .i64 p.thread,.int .i64 p.tag] 37),pt b2 (.cells #[.int .i64 x] 3)]) [0,1,2] rfl rfl ⟨rfl,rfl,rfl,trivial⟩ ?_
 exact ⟨rfl,rfl⟩
theorem znX {S:Type} [MemLike S] {mt:TypeId} {mv:Value} {A:S→Assn} (hM:MemI Tryz.prog mt mv A) {σ:S} {p:Pen} {c x:Int} {b1 b2:Nat} (h:(zab (MemLike.get σ c)).2=true) (h2:(p.to x (zab (MemLike.get σ c)).1).right=false):FnD Tryz.prog 113 [.iface mt mv,.int .i64 c,.func (.func 134) #[] #[.pointer (some ⟨b1,0,none⟩),.pointer (some ⟨b2,0,none⟩)]] [A σ,pt b1 (.cells #[.int .i64 p.thread,.int .i64 p.tag] 37),pt b2 (.cells #[.int .i64 x] 3)] (.tuple #[]) [A (MemLike.ld σ c),pt b1 (.cells #[.int .i64 p.thread,.int .i64 p.tag] 37),pt b2 (.cells #[.int .i64 x] 3)]:=by
 refine Fn.enter (Tryz.func113) rfl rfl (fun w0 R=>?_)
 refine sA (xmc rfl (xmi rfl (TL.mload 0 hM rfl rfl rfl rfl rfl trivial (TL.callD [] [] zcf ⟨rfl,trivial⟩ trivial zdS rfl rfl rfl rfl rfl trivial (xmu rfl (TL.ext (.agg _) rfl rfl rfl rfl (xei rfl rfl (TL.alloc 3 (cs:=#[.int .i64 0,.int .i64 0,.int .i64 0,.int .i64 0]) zbi rfl rfl rfl (fun _=>trivial) (fun bk3=>?_)))))))))
 refine TL.stW 3 4 [_,_,_,_] rfl rfl rfl rfl rfl rfl zan rfl rfl trivial (xai rfl (dB (xmi rfl (TL.neqF rfl rfl (by rw [h]; decide) rfl rfl (dF rfl (TL.mv (.func _ _ _) rfl rfl rfl (xL4 3 zan rfl rfl (TL.callC (c1:=[]) (c2:=[_,_]) (vs:=[_]) [1,2] [1,2] rfl zii ⟨rfl,trivial⟩ ⟨rfl,rfl,trivial⟩ zny rfl rfl rfl rfl rfl trivial ?_))))))))
 refine TL.callD [] [] zhN ⟨rfl,trivial⟩ trivial zh9 rfl rfl rfl rfl rfl trivial (xmu rfl (xei rfl rfl (xei rfl rfl (xai rfl (xai rfl (dA (xmi rfl (TL.eqlF rfl rfl (by rw [h2]; decide) rfl rfl ?_))))))))
 refine TL.done (TQ.then (TC.condF rfl (TC.skip ?_)))
 refine FQ.end0 (Bs:=[A (MemLike.ld σ c),pt b1 (.cells #[.int .i64 p.thread,.int .i64 p.tag] 37),pt b2 (.cells #[.int .i64 x] 3)]) [0,1,2] rfl rfl ⟨rfl,rfl,rfl,trivial⟩ ?_
 exact ⟨rfl,rfl⟩
theorem znW {S:Type} [MemLike S] {mt:TypeId} {mv:Value} {A:S→Assn} (hM:MemI Tryz.prog mt mv A) {σ:S} {p:Pen} {c x:Int} {b1 b2:Nat} (h:(zab (MemLike.get σ c)).2=true) (h2:(p.to x (zab (MemLike.get σ c)).1).right=true):FnD Tryz.prog 113 [.iface mt mv,.int .i64 c,.func (.func 134) #[] #[.pointer (some ⟨b1,0,none⟩),.pointer (some ⟨b2,0,none⟩)]] [A σ,pt b1 (.cells #[.int .i64 p.thread,.int .i64 p.tag] 37),pt b2 (.cells #[.int .i64 x] 3)] (.tuple #[]) [A (MemLike.st (MemLike.ld σ c) c (p.to x (zab (MemLike.get σ c)).1).pack),pt b1 (.cells #[.int .i64 p.thread,.int .i64 p.tag] 37),pt b2 (.cells #[.int .i64 x] 3)]:=by
 refine Fn.enter (Tryz.func113) rfl rfl (fun w0 R=>?_)
 refine sA (xmc rfl (xmi rfl (TL.mload 0 hM rfl rfl rfl rfl rfl trivial (TL.callD [] [] zcf ⟨rfl,trivial⟩ trivial zdS rfl rfl rfl rfl rfl trivial (xmu rfl (TL.ext (.agg _) rfl rfl rfl rfl (xei rfl rfl (TL.alloc 3 (cs:=#[.int .i64 0,.int .i64 0,.int .i64 0,.int .i64 0]) zbi rfl rfl rfl (fun _=>trivial) (fun bk3=>?_)))))))))
 refine TL.stW 3 4 [_,_,_,_] rfl rfl rfl rfl rfl rfl zan rfl rfl trivial (xai rfl (dB (xmi rfl (TL.neqF rfl rfl (by rw [h]; decide) rfl rfl (dF rfl (TL.mv (.func _ _ _) rfl rfl rfl (xL4 3 zan rfl rfl (TL.callC (c1:=[]) (c2:=[_,_]) (vs:=[_]) [1,2] [1,2] rfl zii ⟨rfl,trivial⟩ ⟨rfl,rfl,trivial⟩ zny rfl rfl rfl rfl rfl trivial ?_))))))))
 refine TL.callD [] [] zhN ⟨rfl,trivial⟩ trivial zh9 rfl rfl rfl rfl rfl trivial (xmu rfl (xei rfl rfl (xei rfl rfl (xai rfl (xai rfl (dA (xmi rfl (TL.eqlT rfl rfl (by rw [h2]; decide) rfl rfl ?_))))))))
 refine TL.done (TQ.then (TC.condT rfl (TC.region (xmc rfl (xmi rfl (xmi rfl (TL.mstore 0 hM rfl rfl rfl (by rw [h2]; exact zcH _ _) rfl rfl rfl trivial (TL.done ?_))))))))
 refine FQ.end0 (Bs:=[A _,pt b1 (.cells #[.int .i64 p.thread,.int .i64 p.tag] 37),pt b2 (.cells #[.int .i64 x] 3)]) [0,1,2] rfl rfl ⟨rfl,rfl,rfl,trivial⟩ ?_
 exact ⟨rfl,by rw [h2]; rfl⟩
theorem znZ {S:Type} [MemLike S] {mt:TypeId} {mv:Value} {A:S→Assn} (hM:MemI Tryz.prog mt mv A) {σ:S} {p:Pen} {c x:Int} {b1 b2:Nat}:FnD Tryz.prog 113 [.iface mt mv,.int .i64 c,.func (.func 134) #[] #[.pointer (some ⟨b1,0,none⟩),.pointer (some ⟨b2,0,none⟩)]] [A σ,pt b1 (.cells #[.int .i64 p.thread,.int .i64 p.tag] 37),pt b2 (.cells #[.int .i64 x] 3)] (.tuple #[]) [A (p.write σ c x),pt b1 (.cells #[.int .i64 p.thread,.int .i64 p.tag] 37),pt b2 (.cells #[.int .i64 x] 3)]:=by
 unfold Pen.write
 cases h:(zab (MemLike.get σ c)).2
 ·exact znY hM h
 ·rw [if_pos rfl]
  cases h2:(p.to x (zab (MemLike.get σ c)).1).right
  ·exact znX hM h h2
  ·exact znW hM h h2
theorem zot {S:Type} [MemLike S] {mt:TypeId} {mv:Value} {A:S→Assn} (hM:MemI Tryz.prog mt mv A) {σ:S} {p:Pen} {c x:Int}:FnD Tryz.prog 106 [.agg #[.int .i64 p.thread,.int .i64 p.tag],.iface mt mv,.int .i64 c,.int .i64 x] [A σ] (.tuple #[]) [A (p.write σ c x)]:=by
 refine Fn.enter (Tryz.func106) rfl rfl (fun w0 R=>?_)
 refine sA (xB 1 rfl (fun bk1=>(TL.box1 2 (.int _ _) rfl rfl rfl rfl (fun _=>trivial) (fun bk2=>(dG (xmc rfl (xmi rfl (TL.mf (xs:=[]) (ys:=[_,_]) [] [_,_] trivial ⟨rfl,rfl,trivial⟩ rfl rfl (TL.callD [0,1,2] [0,1,2] (znZ hM) ⟨rfl,rfl,rfl,trivial⟩ ⟨rfl,rfl,rfl,trivial⟩ znE rfl rfl rfl rfl rfl trivial (TL.done ?_))))))))))
 refine FQ.end0 (Bs:=[A (p.write σ c x)]) [0] rfl rfl ⟨rfl,trivial⟩ ?_
 exact ⟨rfl,rfl⟩
theorem zsm {S:Type} [MemLike S] {mt:TypeId} {mv:Value} {A:S→Assn} (hM:MemI Tryz.prog mt mv A) {σ:S} {c:Int}:FnD Tryz.prog 107 [.iface mt mv,.int .i64 c] [A σ] (.int .i64 (pnew σ c)) [A (MemLike.ld σ c)]:=by
 refine Fn.enter (Tryz.func107) rfl rfl (fun w0 R=>?_)
 refine sA (xai rfl (dA (xmc rfl (xmi rfl (TL.mload 0 hM rfl rfl rfl rfl rfl trivial (TL.callD [] [] zcf ⟨rfl,trivial⟩ trivial zdS rfl rfl rfl rfl rfl trivial (xmu rfl (TL.ext (.agg _) rfl rfl rfl rfl ?_))))))))
 refine xei rfl rfl (TL.alloc 1 (cs:=#[.int .i64 0,.int .i64 0,.int .i64 0,.int .i64 0]) zbi rfl rfl rfl (fun _=>trivial) (fun bk1=>(TL.stW 1 4 [_,_,_,_] rfl rfl rfl rfl rfl rfl zan rfl rfl trivial (xai rfl (dA (xf 1 zaT rfl (xli 1 zaf rfl rfl (xai rfl (dR ?_)))))))))
 refine FQ.ret1 (v:=(.int _ _)) (Bs:=[A (MemLike.ld σ c)]) [0] rfl rfl rfl ⟨rfl,trivial⟩ ?_
 exact ⟨rfl,rfl⟩
theorem zdn {S:Type} [MemLike S] {mt:TypeId} {mv:Value} {A:S→Assn} (hM:MemI Tryz.prog mt mv A) {l:Lay} (hl:l.Ok) {p:Pen} {σ:S} {x f:Int}:FnD Tryz.prog 147 [zba l mt mv p,.int .i64 x,.int .i64 f] [A σ] (.int .i64 (tget l σ x f)) [A (zff l σ x f)]:=by
 refine Fn.enter (Tryz.func147) rfl rfl (fun w0 R=>?_)
 refine sA (xB 1 rfl (fun bk1=>(xai rfl (dS (TC.draw [(0,true),(1,true),(2,true),(3,true),(4,true),(5,true),(7,true),(8,true),(6,false),(9,false),(10,true),(11,true)] [1] fc_m (by kernel_rfl) (xf 3 zaR rfl (xlc 1 zbu rfl rfl (xf 0 zax rfl (xL3 1 zaa rfl rfl ?_)))))))))
 refine xmi rfl (xmi rfl (TL.ncI rfl rfl rfl (xmc rfl (TL.callD [] [] (zaD hl) ⟨rfl,rfl,rfl,trivial⟩ trivial zbg rfl rfl rfl rfl rfl (kL1 rfl trivial) (TL.mload 0 hM rfl rfl rfl rfl rfl (kL1 rfl trivial) (TL.conv _ rfl zej zbF (rfl) rfl rfl (xai rfl (dR ?_))))))))
 refine FQ.ret1 (v:=(.int _ _)) (Bs:=[A _]) [0] rfl rfl rfl ⟨rfl,trivial⟩ ?_
 exact ⟨rfl,rfl⟩
theorem zhB {S:Type} [MemLike S] {mt:TypeId} {mv:Value} {A:S→Assn} (hM:MemI Tryz.prog mt mv A) {l:Lay} (hl:l.Ok) {p:Pen} {σ:S} {x f v:Int}:FnD Tryz.prog 150 [zba l mt mv p,.int .i64 x,.int .i64 f,.int .i64 v] [A σ] (.tuple #[]) [A (tput l σ x f v)]:=by
 refine Fn.enter (Tryz.func150) rfl rfl (fun w0 R=>?_)
 refine sA (xB 1 rfl (fun bk1=>(TL.done (TQ.then (TC.draw [(0,true),(1,true),(2,true),(3,true),(4,true),(5,true),(7,true),(8,true),(9,true),(10,true),(6,false),(11,false)] [1] fc_m (by kernel_rfl) (xf 3 zaR rfl (xlc 1 zbu rfl rfl (xf 0 zax rfl (xL3 1 zaa rfl rfl ?_)))))))))
 refine xmi rfl (xmi rfl (xmi rfl (TL.conv _ rfl ze4 za0 (rfl) rfl rfl (TL.ncI rfl rfl rfl (xmc rfl (TL.callD [] [] (zaD hl) ⟨rfl,rfl,rfl,trivial⟩ trivial zbg rfl rfl rfl rfl rfl (kL1 rfl trivial) (TL.mstore 0 hM rfl rfl rfl (by first | exact zf1 _ | exact zcH _ _ | exact MemLike.rng _ _ | decide | assumption) rfl rfl rfl (kL1 rfl trivial) (TL.done ?_))))))))
 refine FQ.end0 (Bs:=[A _]) [0] rfl rfl ⟨rfl,trivial⟩ ?_
 exact ⟨rfl,rfl⟩
theorem zj9 {mt:TypeId} {mv:Value} {l:Lay} (hl:l.Ok) {p:Pen} {x:Int}:FnD Tryz.prog 146 [zba l mt mv p,.int .i64 x] [] (.bool (zbC l x)) []:=by
 refine Fn.enter (Tryz.func146) rfl rfl (fun w0 R=>?_)
 refine sA (xB 0 rfl (fun bk0=>(xaf rfl (dA (xf 0 zax rfl (xL3 0 zaa rfl rfl (xmi rfl (TL.callD [] [] (zhS hl) ⟨rfl,rfl,trivial⟩ trivial zkF rfl rfl rfl rfl rfl trivial (xmu rfl ?_)))))))))
 refine TL.ext (.agg _) rfl rfl rfl rfl (TL.ext (.bool _) rfl rfl rfl rfl (TL.alloc 1 (cs:=#[.bool false,.int .i64 0,.int .i64 0,.int .i64 0,.int .i64 0]) zfI rfl rfl rfl (fun _=>trivial) (fun bk1=>(TL.stW 1 5 [_,_,_,_,_] rfl rfl rfl rfl rfl rfl zcd rfl rfl trivial (xab rfl (dA (xf 1 zfs rfl (xli 1 zaf rfl rfl (TL.eqlV rfl rfl rfl rfl ?_)))))))))
 refine xab rfl (dR ?_)
 refine FQ.ret1 (v:=(.bool _)) (Bs:=[]) [] rfl rfl rfl trivial ?_
 exact ⟨rfl,rfl⟩
theorem zdf {S:Type} [MemLike S] {mt:TypeId} {mv:Value} {A:S→Assn} (hM:MemI Tryz.prog mt mv A) {l:Lay} (hl:l.Ok) {p:Pen} {σ:S} {x:Int}:FnD Tryz.prog 119 [zba l mt mv p,.int .i64 x] [A σ] (.int .i64 (parent l σ x)) [A (zc3 l σ x)]:=by
 refine Fn.enter (Tryz.func119) rfl rfl (fun w0 R=>?_)
 refine sA (xB 1 rfl (fun bk1=>(xai rfl (dB (xL6 1 zae rfl rfl (xmi rfl (TL.callD [] [] (zj9 hl) ⟨rfl,rfl,trivial⟩ trivial zns rfl rfl rfl rfl rfl trivial (TL.cases rfl (fun q1=>?_) (fun q1=>?_)))))))))
 refine TL.done (TQ.then (TC.condT rfl (TC.seq (TC.draw [(0,true),(1,true),(2,true),(3,true),(4,true),(5,false),(6,false),(7,true)] [1] fc_m (by kernel_rfl) (xf 3 zaR rfl (xlc 1 zbu rfl rfl (xf 0 zax rfl (xL3 1 zaa rfl rfl ?_))))))))
 refine xmi rfl (TL.callD [] [] (zaD hl) ⟨rfl,rfl,rfl,trivial⟩ trivial zbg rfl rfl rfl rfl rfl (kL1 rfl trivial) (TL.callD [0] [0] (zsm hM) ⟨rfl,rfl,trivial⟩ ⟨rfl,trivial⟩ zrK rfl rfl rfl rfl rfl (kL1 rfl trivial) (xai rfl (dRR ?_))))
 refine FQ.ret1 (v:=(.int _ _)) (Bs:=[A _]) [0] rfl rfl rfl ⟨rfl,trivial⟩ ?_
 exact ⟨(by simp only [parent, *,if_true,Bool.false_eq_true,if_false]),rfl⟩
 refine dF rfl (xL6 1 zae rfl rfl (xmi rfl (TL.callD [0] [0] (zdn hM hl) ⟨rfl,rfl,rfl,trivial⟩ ⟨rfl,trivial⟩ zdy rfl rfl rfl rfl rfl trivial (xai rfl (dR ?_)))))
 refine FQ.ret1 (v:=(.int _ _)) (Bs:=[A _]) [0] rfl rfl rfl ⟨rfl,trivial⟩ ?_
 exact ⟨(by simp only [parent, *,if_true,Bool.false_eq_true,if_false]),rfl⟩
theorem zgt {S:Type} [MemLike S] {mt:TypeId} {mv:Value} {A:S→Assn} (hM:MemI Tryz.prog mt mv A) {l:Lay} (hl:l.Ok) {p:Pen} {σ:S} {x q:Int}:FnD Tryz.prog 151 [zba l mt mv p,.int .i64 x,.int .i64 q] [A σ] (.tuple #[]) [A (hang l p σ x q)]:=by
 refine Fn.enter (Tryz.func151) rfl rfl (fun w0 R=>?_)
 refine sA (xB 1 rfl (fun bk1=>(dK (sA (xmi rfl (TL.eql rfl rfl rfl rfl (fun q1=>?_) (fun q1=>?_)))))))
 refine xat rfl (TL.done (TQ.then (TC.condT rfl (TC.skip (TQ.inBlock ?_)))))
 refine FQ.end0 (Bs:=[A _]) [0] rfl rfl ⟨rfl,trivial⟩ ?_
 first | exact ⟨rfl,(by simp only [hang, *,if_true,Bool.false_eq_true,if_false])⟩ | exact ⟨rfl,(by simp only [hang]; rw [if_pos (by assumption)])⟩
 refine xaf rfl (TL.done (TQ.then (TC.condF rfl (sA (xL6 1 zae rfl rfl (xmi rfl (TL.callD [] [] (zj9 hl) ⟨rfl,rfl,trivial⟩ trivial zns rfl rfl rfl rfl rfl trivial (TL.cases rfl (fun q2=>?_) (fun q2=>?_)))))))))
 refine xat rfl (TL.done (TQ.then (TC.condT rfl (TC.draw [(0,true),(1,true),(2,true),(3,true),(4,true),(5,true),(6,true),(8,true),(7,false),(9,false)] [1] fc_m (by kernel_rfl) (xf 4 zhn rfl (xL2 1 zce rfl rfl (xf 3 zaR rfl (xlc 1 zbu rfl rfl ?_))))))))
 refine xf 0 zax rfl (xL3 1 zaa rfl rfl (xmi rfl (xmi rfl (TL.callD [] [] (zaD hl) ⟨rfl,rfl,rfl,trivial⟩ trivial zbg rfl rfl rfl rfl rfl (kL1 rfl trivial) (TL.callD [0] [0] (zot hM) ⟨rfl,rfl,rfl,rfl,trivial⟩ ⟨rfl,trivial⟩ zrL rfl rfl rfl rfl rfl (kL1 rfl trivial) (TL.done (TQ.inBlock ?_)))))))
 refine FQ.end0 (Bs:=[A _]) [0] rfl rfl ⟨rfl,trivial⟩ ?_
 first | exact ⟨rfl,(by simp only [hang, *,if_true,Bool.false_eq_true,if_false])⟩ | exact ⟨rfl,(by simp only [hang]; rw [if_pos (by assumption)])⟩
 refine xaf rfl (TL.done (TQ.then (TC.condF rfl (TC.region (xL6 1 zae rfl rfl (xmi rfl (xmi rfl (TL.callD [0] [0] (zhB hM hl) ⟨rfl,rfl,rfl,rfl,trivial⟩ ⟨rfl,trivial⟩ zh8 rfl rfl rfl rfl rfl trivial ?_))))))))
 refine TL.done (TQ.inBlock ?_)
 refine FQ.end0 (Bs:=[A _]) [0] rfl rfl ⟨rfl,trivial⟩ ?_
 first | exact ⟨rfl,(by simp only [hang, *,if_true,Bool.false_eq_true,if_false])⟩ | exact ⟨rfl,(by simp only [hang]; rw [if_pos (by assumption)])⟩
theorem zi4 {S:Type} [MemLike S] {mt:TypeId} {mv:Value} {A:S→Assn} (hM:MemI Tryz.prog mt mv A) {l:Lay} (hl:l.Ok) {p:Pen} {σ:S} {x:Int}:FnD Tryz.prog 195 [zba l mt mv p,.int .i64 x] [A σ] (.int .u64 (tsum l σ x)) [A (zcp l σ x)]:=by
 refine Fn.enter (Tryz.func195) rfl rfl (fun w0 R=>?_)
 refine sA (xB 1 rfl (fun bk1=>(xai rfl (dB (xmi rfl (TL.eql rfl rfl rfl rfl (fun q1=>?_) (fun q1=>?_)))))))
 refine dT rfl (xai rfl (dRR ?_))
 refine FQ.ret1 (v:=(.int _ _)) (Bs:=[A _]) [0] rfl rfl rfl ⟨rfl,trivial⟩ ?_
 first | exact ⟨(by simp only [tsum]; rw [if_pos (by assumption)]),(by simp only [zcp]; rw [if_pos (by assumption)])⟩ | exact ⟨(by simp only [tsum]; rw [if_neg (by assumption)]),(by simp only [zcp]; rw [if_neg (by assumption)])⟩
 refine TL.done (TQ.then (TC.condF rfl (TC.skip (TQ.then (TC.seq (TC.draw [(0,true),(1,true),(2,true),(3,true),(4,true),(6,true),(7,true),(5,false),(8,false),(9,true)] [1] fc_m (by kernel_rfl) (xf 3 zaR rfl (xlc 1 zbu rfl rfl ?_))))))))
 refine xf 0 zax rfl (xL3 1 zaa rfl rfl (xmi rfl (TL.ncI rfl rfl rfl (xmc rfl (TL.callD [] [] (zaD hl) ⟨rfl,rfl,rfl,trivial⟩ trivial zbg rfl rfl rfl rfl rfl (kL1 rfl trivial) (TL.mload 0 hM rfl rfl rfl rfl rfl (kL1 rfl trivial) (xai rfl (dR ?_))))))))
 refine FQ.ret1 (v:=(.int _ _)) (Bs:=[A _]) [0] rfl rfl rfl ⟨rfl,trivial⟩ ?_
 first | exact ⟨(by simp only [tsum]; rw [if_pos (by assumption)]),(by simp only [zcp]; rw [if_pos (by assumption)])⟩ | exact ⟨(by simp only [tsum]; rw [if_neg (by assumption)]),(by simp only [zcp]; rw [if_neg (by assumption)])⟩
theorem znR {v:Int}:FnD Tryz.prog 196 [.int .u64 v] [] (.int .u64 (zkQ v)) []:=by
 refine Fn.enter (Tryz.func196) rfl rfl (fun w0 R=>?_)
 refine sA (xai rfl (dA (xmi rfl (TL.and _ rfl rfl rfl rfl rfl (xai rfl (dR ?_))))))
 refine FQ.ret1 (v:=(.int _ _)) (Bs:=[]) [] rfl rfl rfl trivial ?_
 exact ⟨rfl,rfl⟩
theorem zmB {mt:TypeId} {mv:Value} {l:Lay} (hl:l.Ok) {p:Pen} {x m:Int}:FnD Tryz.prog 152 [zba l mt mv p,.int .i64 x,.int .u64 m] [] (.int .u64 (zed l x m)) []:=by
 refine Fn.enter (Tryz.func152) rfl rfl (fun w0 R=>?_)
 refine sA (xB 0 rfl (fun bk0=>(xai rfl (dA (xmi rfl (TL.shl _ rfl rfl (by decide) rfl rfl rfl (TL.or _ rfl rfl rfl rfl rfl (xmi rfl (TL.shl _ rfl rfl (by decide) rfl rfl rfl ?_)))))))))
 refine TL.or _ rfl rfl rfl rfl rfl (xai rfl (dB (xf 0 zax rfl (xL3 0 zaa rfl rfl (xmi rfl (TL.callD [] [] (zhS hl) ⟨rfl,rfl,trivial⟩ trivial zkF rfl rfl rfl rfl rfl trivial (xmu rfl (TL.ext (.agg _) rfl rfl rfl rfl ?_))))))))
 refine TL.ext (.bool _) rfl rfl rfl rfl (TL.alloc 1 (cs:=#[.bool false,.int .i64 0,.int .i64 0,.int .i64 0,.int .i64 0]) zfI rfl rfl rfl (fun _=>trivial) (fun bk1=>(TL.stW 1 5 [_,_,_,_,_] rfl rfl rfl rfl rfl rfl zcd rfl rfl trivial (xab rfl (dA (xf 0 zhl rfl (xlb 1 zcN rfl rfl (TL.not _ _ rfl rfl rfl rfl (TL.done ?_)))))))))
 refine TQ.then (TC.cond rfl (fun q1=>?_) (fun q1=>?_))
 refine TC.region (xmi rfl (TL.or _ rfl rfl rfl rfl rfl (xai rfl (dA (xmi rfl (xai rfl (dR ?_)))))))
 refine FQ.ret1 (v:=(.int _ _)) (Bs:=[]) [] rfl rfl rfl trivial ?_
 first | exact ⟨(by have q:(l.node x).1.arc=false:=(by simpa using ‹(!(l.node x).1.arc)=true›); simp only [zed,q,Bool.false_eq_true,if_false]; rfl),rfl⟩ | exact ⟨(by have q:(l.node x).1.arc=true:=(by simpa using ‹(!(l.node x).1.arc)=false›); simp only [zed,q,if_true]; rfl),rfl⟩
 refine TC.skip (TQ.then (sA (xmi rfl (xai rfl (dR ?_)))))
 refine FQ.ret1 (v:=(.int _ _)) (Bs:=[]) [] rfl rfl rfl trivial ?_
 first | exact ⟨(by have q:(l.node x).1.arc=false:=(by simpa using ‹(!(l.node x).1.arc)=true›); simp only [zed,q,Bool.false_eq_true,if_false]; rfl),rfl⟩ | exact ⟨(by have q:(l.node x).1.arc=true:=(by simpa using ‹(!(l.node x).1.arc)=false›); simp only [zed,q,if_true]; rfl),rfl⟩
theorem zeI {S:Type} [MemLike S] {mt:TypeId} {mv:Value} {A:S→Assn} (hM:MemI Tryz.prog mt mv A) {l:Lay} (hl:l.Ok) {p:Pen} {σ:S} {x m:Int}:FnD Tryz.prog 187 [zba l mt mv p,.int .i64 x,.int .u64 m] [A σ] (.tuple #[]) [A (zgi l σ x m)]:=by
 refine Fn.enter (Tryz.func187) rfl rfl (fun w0 R=>?_)
 refine sA (xB 1 rfl (fun bk1=>(dA (xL6 1 zae rfl rfl (xmi rfl (xmi rfl (TL.callD [] [] (zmB hl) ⟨rfl,rfl,rfl,trivial⟩ trivial znq rfl rfl rfl rfl rfl trivial (xai rfl (dB ?_)))))))))
 refine TL.bldA [.int .i64 0,.int .i64 0] [(.int _ _),(.int _ _)] [_,_] zfq zaF ⟨rfl,rfl,trivial⟩ ⟨rfl,rfl⟩ rfl rfl (xmi rfl (dK (TC.loopK (X:=Nat) [1,3,14] [1] (fun i=>[(6,.int .u64 (zdd l σ x m i).1),(15,.int .i64 (i:Int))]) (fun i=>[(0,A (zdd l σ x m i).2)]) (fun i=>i≤2) (fun i=>2 - i) (0) (by decide) ⟨rfl,rfl,trivial⟩ ⟨rfl,trivial⟩ (fun i hI=>(TC.sub (env':=[(6,_),(15,_),(1,_),(3,_),(14,_)]) (L':=[(0,_),(1,_)]) ⟨rfl,rfl,rfl,rfl,rfl,trivial⟩ ⟨rfl,rfl,trivial⟩ (sA (TL.lss rfl rfl rfl rfl (fun q1=>?_) (fun q1=>?_))))))))
 refine dS (TC.condT rfl (TC.skip (TQ.then (TC.seq (TC.block (sA (TL.ixA (.int .i64 (3+(i:Int))) rfl rfl zaF zaf (by omega) (by omega) (by have:i=0∨i=1:=(by omega); rcases this with rfl | rfl<;>rfl) rfl rfl (xai rfl ?_))))))))
 refine dS (TC.draw [(0,true),(1,true),(2,true),(3,true),(4,false),(5,false),(6,true)] [1] fc_m (by kernel_rfl) (xL6 1 zae rfl rfl (xL6 1 zae rfl rfl (xmi rfl (xmi rfl (TL.callD [0] [0] (zdn hM hl) ⟨rfl,rfl,rfl,trivial⟩ ⟨rfl,trivial⟩ zdy rfl rfl rfl rfl rfl (kL1 rfl trivial) (TL.callD [0] [0] (zi4 hM hl) ⟨rfl,rfl,trivial⟩ ⟨rfl,trivial⟩ zjO rfl rfl rfl rfl rfl (kL1 rfl trivial) (xai rfl ?_))))))))
 refine dG (xmi rfl (xmi rfl (TL.callD [] [] znR ⟨rfl,trivial⟩ trivial zrm rfl rfl rfl rfl rfl trivial (TL.add _ rfl rfl (rfl) rfl rfl (xmi rfl (TL.shr _ rfl rfl (by decide) rfl rfl rfl (TL.and _ rfl rfl rfl rfl rfl (TL.shl _ rfl rfl (by decide) rfl rfl rfl ?_))))))))
 refine TL.or _ rfl rfl rfl rfl rfl (xai rfl (dI (TL.add _ rfl rfl (wr64 (by omega)) rfl rfl (xmi rfl (TL.done (TQ.roundK (i+1) ⟨by omega,by omega⟩ ⟨rfl,rfl,trivial⟩ ⟨rfl,trivial⟩ (kE3 rfl rfl rfl trivial) (kL1 rfl trivial)))))))
 refine dS (TC.condF rfl (TC.exit (TQ.thenExit (TQ.thenExit (TQ.blockHere (TQ.then (TC.draw [(0,true),(1,true),(2,true),(3,true),(4,true),(6,true),(7,true),(8,true),(5,false),(9,false)] [1] fc_m (by kernel_rfl) (xf 3 zaR rfl ?_))))))))
 refine xlc 1 zbu rfl rfl (xf 0 zax rfl (xL3 1 zaa rfl rfl (xmi rfl (xmi rfl (TL.ncI rfl rfl rfl (xmc rfl (TL.callD [] [] (zaD hl) ⟨rfl,rfl,rfl,trivial⟩ trivial zbg rfl rfl rfl rfl rfl (kL1 rfl trivial) (TL.mstore 0 hM rfl rfl rfl (zlc _ _ _ _ _) rfl rfl rfl (kL1 rfl trivial) ?_))))))))
 refine TL.done ?_
 refine FQ.end0 (Bs:=[A _]) [0] rfl rfl ⟨rfl,trivial⟩ ?_
 obtain rfl:i=2:=by omega
 refine ⟨rfl,?_⟩
 unfold zgi
 rfl
theorem zd2 {S:Type} [MemLike S] {mt:TypeId} {mv:Value} {A:S→Assn} (hM:MemI Tryz.prog mt mv A) {l:Lay} (hl:l.Ok) {p:Pen} {σ:S} {x:Int}:FnD Tryz.prog 186 [zba l mt mv p,.int .i64 x] [A σ] (.int .u64 (zgp l σ x)) [A (zfE l σ x)]:=by
 refine Fn.enter (Tryz.func186) rfl rfl (fun w0 R=>?_)
 refine sA (xB 1 rfl (fun bk1=>(xai rfl (dA (xL6 1 zae rfl rfl (xmi rfl (TL.callD [0] [0] (zi4 hM hl) ⟨rfl,rfl,trivial⟩ ⟨rfl,trivial⟩ zjO rfl rfl rfl rfl rfl trivial (TL.shr _ rfl rfl (by decide) rfl rfl rfl (TL.and _ rfl rfl rfl rfl rfl ?_)))))))))
 refine xai rfl (dR ?_)
 refine FQ.ret1 (v:=(.int _ _)) (Bs:=[A _]) [0] rfl rfl rfl ⟨rfl,trivial⟩ ?_
 exact ⟨rfl,rfl⟩
theorem zpp {S:Type} [MemLike S] {mt:TypeId} {mv:Value} {A:S→Assn} (hM:MemI Tryz.prog mt mv A) {l:Lay} (hl:l.Ok) {p:Pen} {σ:S} {x:Int}:FnD Tryz.prog 123 [zba l mt mv p,.int .i64 x] [A σ] (.tuple #[]) [A (alone l p σ x)]:=by
 refine Fn.enter (Tryz.func123) rfl rfl (fun w0 R=>?_)
 refine sA (xB 1 rfl (fun bk1=>(dA (xL6 1 zae rfl rfl (xmi rfl (TL.callD [0] [0] (zhB hM hl) ⟨rfl,rfl,rfl,rfl,trivial⟩ ⟨rfl,trivial⟩ zh8 rfl rfl rfl rfl rfl trivial (dA (xL6 1 zae rfl rfl (xmi rfl ?_)))))))))
 refine TL.callD [0] [0] (zhB hM hl) ⟨rfl,rfl,rfl,rfl,trivial⟩ ⟨rfl,trivial⟩ zh8 rfl rfl rfl rfl rfl trivial (dA (xL6 1 zae rfl rfl (xmi rfl (TL.callD [0] [0] (zgt hM hl) ⟨rfl,rfl,rfl,trivial⟩ ⟨rfl,trivial⟩ zgN rfl rfl rfl rfl rfl trivial (TL.done (TQ.then (TC.draw [(0,true),(1,true),(2,true),(3,true),(4,true),(6,true),(7,true),(9,true),(10,true),(5,false),(8,false),(11,false)] [1] fc_m (by kernel_rfl) (xf 3 zaR rfl ?_))))))))
 refine xlc 1 zbu rfl rfl (xf 0 zax rfl (xL3 1 zaa rfl rfl (xmi rfl (xL6 1 zae rfl rfl (xmi rfl (TL.ncI rfl rfl rfl (xmc rfl (TL.callD [] [] (zaD hl) ⟨rfl,rfl,rfl,trivial⟩ trivial zbg rfl rfl rfl rfl rfl (kL1 rfl trivial) ?_))))))))
 refine TL.callD [] [] (zmB hl) ⟨rfl,rfl,rfl,trivial⟩ trivial znq rfl rfl rfl rfl rfl (kL1 rfl trivial) (TL.mstore 0 hM rfl rfl rfl (by first | exact zkp _ _ _) rfl rfl rfl (kL1 rfl trivial) (TL.done ?_))
 refine FQ.end0 (Bs:=[A _]) [0] rfl rfl ⟨rfl,trivial⟩ ?_
 exact ⟨rfl,rfl⟩
theorem zhF {S:Type} [MemLike S] {mt:TypeId} {mv:Value} {A:S→Assn} (hM:MemI Tryz.prog mt mv A) {l:Lay} (hl:l.Ok) {p:Pen} {σ:S} {x:Int}:FnD Tryz.prog 188 [zba l mt mv p,.int .i64 x] [A σ] (.int .i64 (size l σ x)) [A (zcp l σ x)]:=by
 refine Fn.enter (Tryz.func188) rfl rfl (fun w0 R=>?_)
 refine sA (xB 1 rfl (fun bk1=>(xai rfl (dA (xL6 1 zae rfl rfl (xmi rfl (TL.callD [0] [0] (zi4 hM hl) ⟨rfl,rfl,trivial⟩ ⟨rfl,trivial⟩ zjO rfl rfl rfl rfl rfl trivial (TL.and _ rfl rfl rfl rfl rfl (TL.conv _ rfl zej zbF (rfl) rfl rfl ?_)))))))))
 refine xai rfl (dR ?_)
 refine FQ.ret1 (v:=(.int _ _)) (Bs:=[A _]) [0] rfl rfl rfl ⟨rfl,trivial⟩ ?_
 exact ⟨rfl,rfl⟩
theorem zhI {S:Type} [MemLike S] {mt:TypeId} {mv:Value} {A:S→Assn} (hM:MemI Tryz.prog mt mv A) {l:Lay} (hl:l.Ok) {p:Pen} {σ:S} {x r:Int} {k:Nat} {σ2:S} (h:root l k σ x=some (r,σ2)):FnD Tryz.prog 86 [zba l mt mv p,.int .i64 x] [A σ] (.int .i64 r) [A σ2]:=by
 refine Fn.enter (Tryz.func86) rfl rfl (fun w0 R=>?_)
 refine sA (xB 1 rfl (fun bk1=>(xai rfl (dS (TC.block (TC.loopK (X:=Nat×S×Int) [2,4] [1] (fun y=>[(1,.int .i64 y.2.2)]) (fun y=>[(0,A y.2.1)]) (fun y=>root l y.1 y.2.1 y.2.2=some (r,σ2)) (fun y=>y.1) ((k,σ,x)) h ⟨rfl,trivial⟩ ⟨rfl,trivial⟩ (fun y hI=>?_)))))))
 obtain ⟨k,σ1,z⟩:=y
 rcases k with _ | k
 ·simp [root] at hI
 dsimp only at hI
 refine TC.sub (env':=[(1,_),(2,_),(4,_)]) (L':=[(0,_),(1,_)]) ⟨rfl,rfl,rfl,trivial⟩ ⟨rfl,rfl,trivial⟩ (sB (xmi rfl (TL.neq rfl rfl rfl rfl (fun q1=>?_) (fun q1=>?_))))
 refine TL.done (TQ.then (TC.condT rfl (TC.skip (TQ.then (TC.block (sA (xL6 1 zae rfl rfl (xmi rfl ?_))))))))
 refine TL.callD [0] [0] (zdf hM hl) ⟨rfl,rfl,trivial⟩ ⟨rfl,trivial⟩ zfv rfl rfl rfl rfl rfl trivial (xai rfl (dB (xmi rfl (TL.eql rfl rfl rfl rfl (fun q2=>?_) (fun q2=>?_)))))
 refine TL.done (TQ.then (TC.condT rfl (TC.exit (TQ.thenExit (TQ.blockOut rfl (TQ.thenExit (TQ.blockHere (TQ.then ?_))))))))
 refine sA (xmi rfl (xai rfl (dR ?_)))
 refine FQ.ret1 (v:=(.int _ _)) (Bs:=[A _]) [0] rfl rfl rfl ⟨rfl,trivial⟩ ?_
 rw [root,if_pos q1,if_pos q2] at hI; cases hI; exact ⟨rfl,rfl⟩
 refine TL.done (TQ.then (TC.condF rfl (TC.skip (TQ.then (TC.region (xmi rfl (xai rfl (TL.done ?_))))))))
 refine TQ.inBlock (TQ.roundK ((k,zc3 l σ1 z,parent l σ1 z)) ⟨(by rw [root,if_pos q1,if_neg q2] at hI; exact hI),Nat.lt_succ_self _⟩ ⟨rfl,trivial⟩ ⟨rfl,trivial⟩ (kE2 rfl rfl trivial) (kL1 rfl trivial))
 refine dE rfl (sA (xmi rfl (xai rfl (dR ?_))))
 refine FQ.ret1 (v:=(.int _ _)) (Bs:=[A _]) [0] rfl rfl rfl ⟨rfl,trivial⟩ ?_
 rw [root,if_neg q1] at hI; cases hI; exact ⟨rfl,rfl⟩
theorem zo0 {S:Type} [MemLike S] {mt:TypeId} {mv:Value} {A:S→Assn} (hM:MemI Tryz.prog mt mv A) {l:Lay} (hl:l.Ok) {p:Pen} {σ:S} {x r:Int} {k:Nat} {σ2:S} (h:index l k σ x=some (r,σ2)):FnD Tryz.prog 175 [zba l mt mv p,.int .i64 x] [A σ] (.int .i64 r) [A σ2]:=by
 unfold index at h
 dsimp only at h
 refine Fn.enter (Tryz.func175) rfl rfl (fun w0 R=>?_)
 refine sA (xB 1 rfl (fun bk1=>(xai rfl (dS (TC.draw [(0,true),(1,true),(2,true),(3,false),(4,false),(5,true)] [1] fc_m (by kernel_rfl) (xL6 1 zae rfl rfl (xL6 1 zae rfl rfl (xmi rfl (TL.callD [0] [0] (zdn hM hl) ⟨rfl,rfl,rfl,trivial⟩ ⟨rfl,trivial⟩ zdy rfl rfl rfl rfl rfl (kL1 rfl trivial) ?_)))))))))
 refine TL.callD [0] [0] (zhF hM hl) ⟨rfl,rfl,trivial⟩ ⟨rfl,trivial⟩ zh6 rfl rfl rfl rfl rfl (kL1 rfl trivial) (xai rfl (dK (TC.loopK (X:=Nat×S×Int×Int) [2] [1] (fun y=>[(1,.int .i64 y.2.2.1),(5,.int .i64 y.2.2.2)]) (fun y=>[(0,A y.2.1)]) (fun y=>zcj l y.1 y.2.1 y.2.2.1 y.2.2.2=some (r,σ2)) (fun y=>y.1) ((k,_,_,_)) h ⟨rfl,rfl,trivial⟩ ⟨rfl,trivial⟩ (fun y hI=>?_))))
 obtain ⟨k,σ1,z,n⟩:=y
 rcases k with _ | k
 ·simp [zcj] at hI
 dsimp only at hI
 refine TC.sub (env':=[(1,_),(5,_),(2,_)]) (L':=[(0,_),(1,_)]) ⟨rfl,rfl,rfl,trivial⟩ ⟨rfl,rfl,trivial⟩ (TC.block (sA (xL6 1 zae rfl rfl (xmi rfl (TL.callD [0] [0] (zdf hM hl) ⟨rfl,rfl,trivial⟩ ⟨rfl,trivial⟩ zfv rfl rfl rfl rfl rfl trivial (xai rfl (dB (xmi rfl ?_))))))))
 refine TL.eql rfl rfl rfl rfl (fun q1=>?_) (fun q1=>?_)
 refine dT rfl (xmi rfl (xai rfl (dRR (TQ.blockRet (TQ.thenRet (TQ.blockRet ?_))))))
 refine FQ.ret1 (v:=(.int _ _)) (Bs:=[A _]) [0] rfl rfl rfl ⟨rfl,trivial⟩ ?_
 rw [zcj,if_pos q1] at hI; cases hI; exact ⟨rfl,rfl⟩
 refine TL.done (TQ.then (TC.condF rfl (TC.skip (TQ.then (sB (xL6 1 zae rfl rfl (xmi rfl (TL.callD [0] [0] (zdn hM hl) ⟨rfl,rfl,rfl,trivial⟩ ⟨rfl,trivial⟩ zdy rfl rfl rfl rfl rfl trivial ?_))))))))
 refine xmi rfl (TL.eql rfl rfl rfl rfl (fun q2=>?_) (fun q2=>?_))
 refine TL.done (TQ.then (TC.condT rfl (TC.draw [(0,true),(1,true),(2,true),(3,true),(4,false),(5,false),(6,true),(7,true),(8,true)] [1] fc_m (by kernel_rfl) (xmi rfl (xL6 1 zae rfl rfl (xL6 1 zae rfl rfl (xmi rfl (TL.callD [0] [0] (zdn hM hl) ⟨rfl,rfl,rfl,trivial⟩ ⟨rfl,trivial⟩ zdy rfl rfl rfl rfl rfl (kL1 rfl trivial) ?_))))))))
 refine TL.callD [0] [0] (zhF hM hl) ⟨rfl,rfl,trivial⟩ ⟨rfl,trivial⟩ zh6 rfl rfl rfl rfl rfl (kL1 rfl trivial) (TL.add _ rfl rfl (rfl) rfl rfl (TL.add _ rfl rfl (rfl) rfl rfl (xai rfl (dG (xmi rfl (xai rfl (TL.done (TQ.inBlock ?_))))))))
 refine TQ.roundK ((k,_,_,_)) ⟨(by rw [zcj,if_neg q1] at hI; dsimp only at hI; rw [if_pos q2] at hI; exact hI),Nat.lt_succ_self _⟩ ⟨rfl,rfl,trivial⟩ ⟨rfl,trivial⟩ (kE1 rfl trivial) (kL1 rfl trivial)
 refine TL.done (TQ.then (TC.condF rfl (TC.skip (TQ.then (TC.region (xmi rfl (xai rfl (TL.done ?_))))))))
 refine TQ.inBlock (TQ.roundK ((k,_,_,_)) ⟨(by rw [zcj,if_neg q1] at hI; dsimp only at hI; rw [if_neg q2] at hI; exact hI),Nat.lt_succ_self _⟩ ⟨rfl,rfl,trivial⟩ ⟨rfl,trivial⟩ (kE1 rfl trivial) (kL1 rfl trivial))
theorem zka {S:Type} [MemLike S] {mt:TypeId} {mv:Value} {A:S→Assn} (hM:MemI Tryz.prog mt mv A) {l:Lay} (hl:l.Ok) {p:Pen} {σ:S} {x f c:Int}:FnD Tryz.prog 194 [zba l mt mv p,.int .i64 x,.int .i64 f,.int .i64 c] [A σ] (.tuple #[]) [A (setC l p σ x f c)]:=by
 refine Fn.enter (Tryz.func194) rfl rfl (fun w0 R=>?_)
 refine sA (xB 1 rfl (fun bk1=>(dA (xL6 1 zae rfl rfl (xmi rfl (xmi rfl (xmi rfl (TL.callD [0] [0] (zhB hM hl) ⟨rfl,rfl,rfl,rfl,trivial⟩ ⟨rfl,trivial⟩ zh8 rfl rfl rfl rfl rfl trivial (dA ?_)))))))))
 refine xL6 1 zae rfl rfl (xmi rfl (xmi rfl (TL.callD [0] [0] (zgt hM hl) ⟨rfl,rfl,rfl,trivial⟩ ⟨rfl,trivial⟩ zgN rfl rfl rfl rfl rfl trivial (TL.done (TQ.then (TC.draw [(0,true),(1,true),(2,true),(3,true),(4,false),(5,false)] [1] fc_m (by kernel_rfl) (xL6 1 zae rfl rfl (xmi rfl ?_))))))))
 refine xL6 1 zae rfl rfl (xmi rfl (TL.callD [0] [0] (zd2 hM hl) ⟨rfl,rfl,trivial⟩ ⟨rfl,trivial⟩ zft rfl rfl rfl rfl rfl (kL1 rfl trivial) (TL.callD [0] [0] (zeI hM hl) ⟨rfl,rfl,rfl,trivial⟩ ⟨rfl,trivial⟩ zgL rfl rfl rfl rfl rfl (kL1 rfl trivial) (TL.done ?_))))
 refine FQ.end0 (Bs:=[A _]) [0] rfl rfl ⟨rfl,trivial⟩ ?_
 exact ⟨rfl,(by unfold setC zfE; rfl)⟩
theorem zox {S:Type} [MemLike S] {mt:TypeId} {mv:Value} {A:S→Assn} (hM:MemI Tryz.prog mt mv A) {l:Lay} (hl:l.Ok) {p:Pen} {σ:S} {x n:Int} {r:Int×Int} {k:Nat} {σ2:S} (h:split l p k σ x n=some (r,σ2)):FnD Tryz.prog 189 [zba l mt mv p,.int .i64 x,.int .i64 n] [A σ] (.tuple #[.int .i64 r.1,.int .i64 r.2]) [A σ2]:=by
 induction k generalizing σ x n r σ2
 case zero=>simp [split] at h
 case succ k ih =>
  refine Fn.enter (Tryz.func189) rfl rfl (fun w0 R=>?_)
  refine sA (xB 1 rfl (fun bk1=>(xai rfl (xai rfl (dB (xmi rfl (TL.eql rfl rfl rfl rfl (fun q1=>?_) (fun q1=>?_))))))))
  refine dT rfl (xai rfl (xai rfl (dRR ?_)))
  refine FQ.ret2 (v:=(.int _ _)) (x:=(.int _ _)) (Bs:=[A _]) [0] rfl rfl rfl rfl ⟨rfl,trivial⟩ ?_
  rw [split,if_pos q1] at h; cases h; exact ⟨rfl,rfl⟩
  refine dF rfl (xL6 1 zae rfl rfl (xmi rfl (TL.callD [0] [0] (zdn hM hl) ⟨rfl,rfl,rfl,trivial⟩ ⟨rfl,trivial⟩ zdy rfl rfl rfl rfl rfl trivial (xai rfl (dA (xL6 1 zae rfl rfl (xmi rfl (TL.callD [0] [0] (zhF hM hl) ⟨rfl,rfl,trivial⟩ ⟨rfl,trivial⟩ zh6 rfl rfl rfl rfl rfl trivial ?_))))))))
  refine xai rfl (dB (xmi rfl (xmi rfl (TL.leq rfl rfl rfl rfl (fun q2=>?_) (fun q2=>?_)))))
  refine dT rfl (xL6 1 zae rfl rfl (xmi rfl (xmi rfl ?_)))
  rw [split,if_neg q1] at h
  dsimp only at h
  rw [if_pos q2] at h
  obtain ⟨⟨ab,σ3⟩,h1,h9⟩:=Option.bind_eq_some_iff.1 h
  refine TL.callD [0] [0] (ih h1) ⟨rfl,rfl,rfl,trivial⟩ ⟨rfl,trivial⟩ zjP rfl rfl rfl rfl rfl trivial (xmu rfl (xei rfl rfl (xei rfl rfl (xai rfl (xai rfl (dA (xL6 1 zae rfl rfl (xmi rfl ?_))))))))
  refine xmi rfl (TL.callD [0] [0] (zka hM hl) ⟨rfl,rfl,rfl,rfl,trivial⟩ ⟨rfl,trivial⟩ zh5 rfl rfl rfl rfl rfl trivial (dA (xmi rfl (xmi rfl (xai rfl (xai rfl (dRR ?_)))))))
  refine FQ.ret2 (v:=(.int _ _)) (x:=(.int _ _)) (Bs:=[A _]) [0] rfl rfl rfl rfl ⟨rfl,trivial⟩ ?_
  cases h9; exact ⟨rfl,rfl⟩
  refine TL.done (TQ.then (TC.condF rfl (TC.skip (TQ.then (TC.seq (TC.draw [(0,true),(1,true),(2,true),(4,true),(5,true),(6,true),(7,true),(3,false),(8,false),(9,true),(10,true),(11,true),(12,true),(13,true)] [1] fc_m (by kernel_rfl) (xL6 1 zae rfl rfl (xL6 1 zae rfl rfl ?_))))))))
  refine xmi rfl (xmi rfl (xmi rfl (TL.sub _ rfl rfl (rfl) rfl rfl (TL.sub _ rfl rfl (rfl) rfl rfl (TL.callD [0] [0] (zdn hM hl) ⟨rfl,rfl,rfl,trivial⟩ ⟨rfl,trivial⟩ zdy rfl rfl rfl rfl rfl (kL1 rfl trivial) ?_)))))
  rw [split,if_neg q1] at h
  dsimp only at h
  rw [if_neg q2] at h
  obtain ⟨⟨ab,σ3⟩,h1,h9⟩:=Option.bind_eq_some_iff.1 h
  refine TL.callD [0] [0] (ih h1) ⟨rfl,rfl,rfl,trivial⟩ ⟨rfl,trivial⟩ zjP rfl rfl rfl rfl rfl (kL1 rfl trivial) (xmu rfl (xei rfl rfl (xei rfl rfl (xai rfl (xai rfl (dA (xL6 1 zae rfl rfl (xmi rfl ?_))))))))
  refine xmi rfl (TL.callD [0] [0] (zka hM hl) ⟨rfl,rfl,rfl,rfl,trivial⟩ ⟨rfl,trivial⟩ zh5 rfl rfl rfl rfl rfl trivial (dA (xmi rfl (xmi rfl (xai rfl (xai rfl (dR ?_)))))))
  refine FQ.ret2 (v:=(.int _ _)) (x:=(.int _ _)) (Bs:=[A _]) [0] rfl rfl rfl rfl ⟨rfl,trivial⟩ ?_
  cases h9; exact ⟨rfl,rfl⟩
theorem zlY {S:Type} [MemLike S] {mt:TypeId} {mv:Value} {A:S→Assn} (hM:MemI Tryz.prog mt mv A) {l:Lay} (hl:l.Ok) {p:Pen} {σ:S} {x n:Int} {r:Int×Int} {k:Nat} {σ2:S} (h:zeg l p k σ x n=some (r,σ2)):FnD Tryz.prog 176 [zba l mt mv p,.int .i64 x,.int .i64 n] [A σ] (.tuple #[.int .i64 r.1,.int .i64 r.2]) [A σ2]:=by
 obtain ⟨⟨ab,σ3⟩,h1,h9⟩:=Option.bind_eq_some_iff.1 h
 cases h9
 refine Fn.enter (Tryz.func176) rfl rfl (fun w0 R=>?_)
 refine sA (xB 1 rfl (fun bk1=>(xai rfl (xai rfl (dS (TC.draw [(0,true),(1,true),(2,true),(3,true),(4,true),(5,true),(6,false),(7,true),(8,false),(9,true),(10,true),(11,true),(12,true),(13,true)] [1] fc_m (by kernel_rfl) (xL6 1 zae rfl rfl (xmi rfl (xmi rfl ?_)))))))))
 refine TL.max2 rfl rfl rfl rfl (xL6 1 zae rfl rfl (xmi rfl (TL.callD [0] [0] (zhF hM hl) ⟨rfl,rfl,trivial⟩ ⟨rfl,trivial⟩ zh6 rfl rfl rfl rfl rfl (kL1 rfl trivial) (TL.min2 rfl rfl rfl rfl (TL.callD [0] [0] (zox hM hl h1) ⟨rfl,rfl,rfl,trivial⟩ ⟨rfl,trivial⟩ zjP rfl rfl rfl rfl rfl (kL1 rfl trivial) (xmu rfl (xei rfl rfl (xei rfl rfl ?_))))))))
 refine xai rfl (xai rfl (dA (xL6 1 zae rfl rfl (xmi rfl (TL.callD [0] [0] (zgt hM hl) ⟨rfl,rfl,rfl,trivial⟩ ⟨rfl,trivial⟩ zgN rfl rfl rfl rfl rfl trivial (dA (xL6 1 zae rfl rfl (xmi rfl ?_))))))))
 refine TL.callD [0] [0] (zgt hM hl) ⟨rfl,rfl,rfl,trivial⟩ ⟨rfl,trivial⟩ zgN rfl rfl rfl rfl rfl trivial (dA (xmi rfl (xmi rfl (xai rfl (xai rfl (dR ?_))))))
 refine FQ.ret2 (v:=(.int _ _)) (x:=(.int _ _)) (Bs:=[A _]) [0] rfl rfl rfl rfl ⟨rfl,trivial⟩ ?_
 exact ⟨rfl,rfl⟩
theorem zpt {S:Type} [MemLike S] {mt:TypeId} {mv:Value} {A:S→Assn} (hM:MemI Tryz.prog mt mv A) {l:Lay} (hl:l.Ok) {p:Pen} {σ:S} {x y:Int}:FnD Tryz.prog 193 [zba l mt mv p,.int .i64 x,.int .i64 y] [A σ] (.bool (zfC l σ x y)) [A (zkZ l σ x y)]:=by
 refine Fn.enter (Tryz.func193) rfl rfl (fun w0 R=>?_)
 refine sA (xB 1 rfl (fun bk1=>(xaf rfl (dS (TC.draw [(0,true),(1,true),(2,true),(3,true),(4,true),(6,true),(7,true),(9,true),(10,true),(11,true),(12,true),(13,true),(15,true),(16,true),(5,false),(8,false),(14,false),(17,false),(18,true),(19,true)] [1] fc_m (by kernel_rfl) (xf 3 zaR rfl (xlc 1 zbu rfl rfl (xf 0 zax rfl (xL3 1 zaa rfl rfl ?_)))))))))
 refine xmi rfl (TL.ncI rfl rfl rfl (xmc rfl (xf 3 zaR rfl (xlc 1 zbu rfl rfl (xf 0 zax rfl (xL3 1 zaa rfl rfl (xmi rfl (TL.ncI rfl rfl rfl ?_))))))))
 refine xmc rfl (TL.callD [] [] (zaD hl) ⟨rfl,rfl,rfl,trivial⟩ trivial zbg rfl rfl rfl rfl rfl (kL1 rfl trivial) (TL.mload 0 hM rfl rfl rfl rfl rfl (kL1 rfl trivial) (TL.callD [] [] (zaD hl) ⟨rfl,rfl,rfl,trivial⟩ trivial zbg rfl rfl rfl rfl rfl (kL1 rfl trivial) (TL.mload 0 hM rfl rfl rfl rfl rfl (kL1 rfl trivial) (xai rfl (xai rfl (dA (xmi rfl ?_))))))))
 refine xmi rfl (TL.gtr rfl rfl rfl rfl (fun q1=>?_) (fun q1=>?_))
 refine xmt rfl (xo rfl (xo rfl (xo rfl (xo rfl (xo rfl (xo rfl (xo rfl (xo rfl ?_))))))))
 refine xpT rfl (xat rfl (dR ?_))
 refine FQ.ret1 (v:=(.bool true)) (Bs:=[A _]) [0] rfl rfl rfl ⟨rfl,trivial⟩ ?_
 first | exact ⟨(by unfold zfC; dsimp only; rw [if_pos q1]),rfl⟩ | exact ⟨(by unfold zfC; dsimp only; rw [if_neg q1,if_pos q2]),rfl⟩ | exact ⟨(by unfold zfC; dsimp only; rw [if_neg q1,if_neg q2]),rfl⟩
 refine xmf rfl (xmi rfl (xmi rfl (TL.eql rfl rfl rfl rfl (fun q2=>?_) (fun q2=>?_))))
 refine xmt rfl (xmi rfl (xmi rfl (TL.lssV rfl rfl rfl rfl (TL.pickT (.bool _) rfl rfl rfl rfl (TL.pickF (.bool _) rfl rfl rfl rfl (xab rfl (dR ?_)))))))
 refine FQ.ret1 (v:=(.bool _)) (Bs:=[A _]) [0] rfl rfl rfl ⟨rfl,trivial⟩ ?_
 first | exact ⟨(by unfold zfC; dsimp only; rw [if_pos q1]),rfl⟩ | exact ⟨(by unfold zfC; dsimp only; rw [if_neg q1,if_pos q2]),rfl⟩ | exact ⟨(by unfold zfC; dsimp only; rw [if_neg q1,if_neg q2]),rfl⟩
 refine xmf rfl (xo rfl (xo rfl (xo rfl (xpF rfl (xpF rfl (xaf rfl (dR ?_)))))))
 refine FQ.ret1 (v:=(.bool false)) (Bs:=[A _]) [0] rfl rfl rfl ⟨rfl,trivial⟩ ?_
 first | exact ⟨(by unfold zfC; dsimp only; rw [if_pos q1]),rfl⟩ | exact ⟨(by unfold zfC; dsimp only; rw [if_neg q1,if_pos q2]),rfl⟩ | exact ⟨(by unfold zfC; dsimp only; rw [if_neg q1,if_neg q2]),rfl⟩
theorem zoS {S:Type} [MemLike S] {mt:TypeId} {mv:Value} {A:S→Assn} (hM:MemI Tryz.prog mt mv A) {l:Lay} (hl:l.Ok) {p:Pen} {σ:S} {a b r:Int} {k:Nat} {σ2:S} (h:merge l p k σ a b=some (r,σ2)):FnD Tryz.prog 185 [zba l mt mv p,.int .i64 a,.int .i64 b] [A σ] (.int .i64 r) [A σ2]:=by
 induction k generalizing σ a b r σ2
 case zero=>simp [merge] at h
 case succ k ih =>
  refine Fn.enter (Tryz.func185) rfl rfl (fun w0 R=>?_)
  refine sA (xB 1 rfl (fun bk1=>(xai rfl (dS (TC.block (sA (xmi rfl (TL.eql rfl rfl rfl rfl (fun q1=>?_) (fun q1=>?_)))))))))
  refine xat rfl (dT rfl (xmi rfl (xai rfl (dR (TQ.blockRet (TQ.thenRet ?_))))))
  refine FQ.ret1 (v:=(.int _ _)) (Bs:=[A _]) [0] rfl rfl rfl ⟨rfl,trivial⟩ ?_
  rw [merge,if_pos q1] at h; cases h; exact ⟨rfl,rfl⟩
  refine xaf rfl (TL.done (TQ.then (TC.condF rfl (sA (xmi rfl (TL.eql rfl rfl rfl rfl (fun q2=>?_) (fun q2=>?_)))))))
  refine xat rfl (dT rfl (xmi rfl (xai rfl (dR (TQ.blockRet (TQ.thenRet ?_))))))
  refine FQ.ret1 (v:=(.int _ _)) (Bs:=[A _]) [0] rfl rfl rfl ⟨rfl,trivial⟩ ?_
  rw [merge,if_neg q1,if_pos q2] at h; cases h; exact ⟨rfl,rfl⟩
  refine xaf rfl (TL.done (TQ.then (TC.condF rfl (sA (xL6 1 zae rfl rfl (xmi rfl (xmi rfl (TL.callD [0] [0] (zpt hM hl) ⟨rfl,rfl,rfl,trivial⟩ ⟨rfl,trivial⟩ zrn rfl rfl rfl rfl rfl trivial ?_))))))))
  refine TL.cases rfl (fun q3=>?_) (fun q3=>?_)
  refine xat rfl (TL.done (TQ.then (TC.condT rfl (TC.seq (TC.draw [(0,true),(1,true),(2,true),(3,true),(4,true),(6,true),(5,false),(7,false),(8,false)] [1] fc_m (by kernel_rfl) (xL6 1 zae rfl rfl (xmi rfl (xL6 1 zae rfl rfl ?_))))))))
  refine xL6 1 zae rfl rfl (xmi rfl (xmi rfl (TL.callD [0] [0] (zdn hM hl) ⟨rfl,rfl,rfl,trivial⟩ ⟨rfl,trivial⟩ zdy rfl rfl rfl rfl rfl (kL1 rfl trivial) ?_)))
  rw [merge,if_neg q1,if_neg q2] at h
  dsimp only at h
  rw [if_pos q3] at h
  obtain ⟨⟨c,σ3⟩,h1,h9⟩:=Option.bind_eq_some_iff.1 h
  refine TL.callD [0] [0] (ih h1) ⟨rfl,rfl,rfl,trivial⟩ ⟨rfl,trivial⟩ zjQ rfl rfl rfl rfl rfl (kL1 rfl trivial) (TL.callD [0] [0] (zka hM hl) ⟨rfl,rfl,rfl,rfl,trivial⟩ ⟨rfl,trivial⟩ zh5 rfl rfl rfl rfl rfl (kL1 rfl trivial) (dA (xmi rfl (xai rfl (dR (TQ.blockRet (TQ.thenRet ?_)))))))
  refine FQ.ret1 (v:=(.int _ _)) (Bs:=[A _]) [0] rfl rfl rfl ⟨rfl,trivial⟩ ?_
  cases h9; exact ⟨rfl,rfl⟩
  refine xaf rfl (TL.done (TQ.then (TC.condF rfl (TC.skip (TQ.inBlock (TQ.then (TC.seq (TC.draw [(0,true),(1,true),(2,true),(3,true),(4,true),(5,true),(6,false),(7,false),(8,false)] [1] fc_m (by kernel_rfl) ?_))))))))
  refine xL6 1 zae rfl rfl (xmi rfl (xL6 1 zae rfl rfl (xmi rfl (xL6 1 zae rfl rfl (xmi rfl (TL.callD [0] [0] (zdn hM hl) ⟨rfl,rfl,rfl,trivial⟩ ⟨rfl,trivial⟩ zdy rfl rfl rfl rfl rfl (kL1 rfl trivial) ?_))))))
  rw [merge,if_neg q1,if_neg q2] at h
  dsimp only at h
  rw [if_neg (by rw [q3]; decide)] at h
  obtain ⟨⟨c,σ3⟩,h1,h9⟩:=Option.bind_eq_some_iff.1 h
  refine TL.callD [0] [0] (ih h1) ⟨rfl,rfl,rfl,trivial⟩ ⟨rfl,trivial⟩ zjQ rfl rfl rfl rfl rfl (kL1 rfl trivial) (TL.callD [0] [0] (zka hM hl) ⟨rfl,rfl,rfl,rfl,trivial⟩ ⟨rfl,trivial⟩ zh5 rfl rfl rfl rfl rfl (kL1 rfl trivial) (dA (xmi rfl (xai rfl (dR ?_)))))
  refine FQ.ret1 (v:=(.int _ _)) (Bs:=[A _]) [0] rfl rfl rfl ⟨rfl,trivial⟩ ?_
  cases h9; exact ⟨rfl,rfl⟩
theorem zeT {S:Type} [MemLike S] {mt:TypeId} {mv:Value} {A:S→Assn} (hM:MemI Tryz.prog mt mv A) {l:Lay} (hl:l.Ok) {p:Pen} {σ:S} {a b r:Int} {k:Nat} {σ2:S} (h:zeh l p k σ a b=some (r,σ2)):FnD Tryz.prog 171 [zba l mt mv p,.int .i64 a,.int .i64 b] [A σ] (.int .i64 r) [A σ2]:=by
 obtain ⟨⟨c,σ3⟩,h1,h9⟩:=Option.bind_eq_some_iff.1 h
 cases h9
 refine Fn.enter (Tryz.func171) rfl rfl (fun w0 R=>?_)
 refine sA (xB 1 rfl (fun bk1=>(xai rfl (dA (xL6 1 zae rfl rfl (xmi rfl (xmi rfl (TL.callD [0] [0] (zoS hM hl h1) ⟨rfl,rfl,rfl,trivial⟩ ⟨rfl,trivial⟩ zjQ rfl rfl rfl rfl rfl trivial (xai rfl ?_)))))))))
 refine dA (xL6 1 zae rfl rfl (xmi rfl (TL.callD [0] [0] (zgt hM hl) ⟨rfl,rfl,rfl,trivial⟩ ⟨rfl,trivial⟩ zgN rfl rfl rfl rfl rfl trivial (dA (xmi rfl (xai rfl (dR ?_)))))))
 refine FQ.ret1 (v:=(.int _ _)) (Bs:=[A _]) [0] rfl rfl rfl ⟨rfl,trivial⟩ ?_
 exact ⟨rfl,rfl⟩
theorem zmx {S:Type} [MemLike S] {mt:TypeId} {mv:Value} {A:S→Assn} (hM:MemI Tryz.prog mt mv A) {l:Lay} (hl:l.Ok) {p:Pen} {σ:S} {x m:Int} {k:Nat} {σ2:S} (h0:0≤m) (h:zgq l k σ x m true=some σ2):FnD Tryz.prog 173 [zba l mt mv p,.int .i64 x,.int .i64 m,.bool true] [A σ] (.tuple #[]) [A σ2]:=by
 unfold zgq at h
 dsimp only [zhV] at h
 simp only [if_true,Bool.false_eq_true,if_false] at h
 refine Fn.enter (Tryz.func173) rfl rfl (fun w0 R=>?_)
 refine sA (xB 1 rfl (fun bk1=>(dS (TC.draw [(0,true),(1,true),(3,true),(4,true),(2,false),(5,true),(6,true)] [1] fc_m (by kernel_rfl) (xL6 1 zae rfl rfl (xmi rfl (xmi rfl (TL.shl _ rfl rfl (by omega) rfl rfl rfl (TL.callD [0] [0] (zd2 hM hl) ⟨rfl,rfl,trivial⟩ ⟨rfl,trivial⟩ zft rfl rfl rfl rfl rfl (kL1 rfl trivial) ?_)))))))))
 refine TL.andNot _ rfl rfl rfl rfl rfl (xai rfl (dB (xmt rfl (TL.done (TQ.then (TC.condT rfl (TC.region (xmi rfl ?_))))))))
 refine xmi rfl (TL.shl _ rfl rfl (by omega) rfl rfl rfl (TL.or _ rfl rfl rfl rfl rfl (xai rfl (dA (xL6 1 zae rfl rfl (xmi rfl (xmi rfl (TL.callD [0] [0] (zeI hM hl) ⟨rfl,rfl,rfl,trivial⟩ ⟨rfl,trivial⟩ zgL rfl rfl rfl rfl rfl trivial ?_))))))))
 refine dA (xL6 1 zae rfl rfl (xmi rfl (TL.callD [0] [0] (zdf hM hl) ⟨rfl,rfl,trivial⟩ ⟨rfl,trivial⟩ zfv rfl rfl rfl rfl rfl trivial (xai rfl (dK (TC.loopK (X:=Nat×S×Int) [4] [1] (fun y=>[(9,.int .i64 y.2.2)]) (fun y=>[(0,A y.2.1)]) (fun y=>zbX l y.1 y.2.1 y.2.2=some σ2) (fun y=>y.1) ((k,_,_)) h ⟨rfl,trivial⟩ ⟨rfl,trivial⟩ (fun y hI=>?_)))))))
 obtain ⟨k,σ1,z⟩:=y
 rcases k with _ | k
 ·simp [zbX] at hI
 dsimp only at hI
 refine TC.sub (env':=[(9,_),(4,_)]) (L':=[(0,_),(1,_)]) ⟨rfl,rfl,trivial⟩ ⟨rfl,rfl,trivial⟩ (sB (xmi rfl (TL.neq rfl rfl rfl rfl (fun q1=>?_) (fun q1=>?_))))
 refine TL.done (TQ.then (TC.condT rfl (TC.skip (TQ.then (TC.seq (TC.block (TC.draw [(0,true),(1,true),(2,true),(3,true),(4,false),(5,false)] [1] fc_m (by kernel_rfl) (xL6 1 zae rfl rfl ?_))))))))
 refine xmi rfl (xL6 1 zae rfl rfl (xmi rfl (TL.callD [0] [0] (zd2 hM hl) ⟨rfl,rfl,trivial⟩ ⟨rfl,trivial⟩ zft rfl rfl rfl rfl rfl (kL1 rfl trivial) (TL.callD [0] [0] (zeI hM hl) ⟨rfl,rfl,rfl,trivial⟩ ⟨rfl,trivial⟩ zgL rfl rfl rfl rfl rfl (kL1 rfl trivial) (dI (xL6 1 zae rfl rfl (xmi rfl (TL.callD [0] [0] (zdf hM hl) ⟨rfl,rfl,trivial⟩ ⟨rfl,trivial⟩ zfv rfl rfl rfl rfl rfl trivial ?_))))))))
 refine xai rfl (TL.done (TQ.roundK ((k,_,_)) ⟨(by rw [zbX,if_pos q1] at hI; exact hI),Nat.lt_succ_self _⟩ ⟨rfl,trivial⟩ ⟨rfl,trivial⟩ (kE1 rfl trivial) (kL1 rfl trivial)))
 refine TL.done (TQ.then (TC.condF rfl (TC.exit (TQ.thenExit (TQ.thenExit (TQ.blockHere ?_))))))
 refine FQ.end0 (Bs:=[A _]) [0] rfl rfl ⟨rfl,trivial⟩ ?_
 rw [zbX,if_neg q1] at hI; cases hI; exact ⟨rfl,rfl⟩
theorem zli {S:Type} [MemLike S] {mt:TypeId} {mv:Value} {A:S→Assn} (hM:MemI Tryz.prog mt mv A) {l:Lay} (hl:l.Ok) {p:Pen} {σ:S} {x m:Int} {k:Nat} {σ2:S} (h0:0≤m) (h:zgq l k σ x m false=some σ2):FnD Tryz.prog 173 [zba l mt mv p,.int .i64 x,.int .i64 m,.bool false] [A σ] (.tuple #[]) [A σ2]:=by
 unfold zgq at h
 dsimp only [zhV] at h
 simp only [if_true,Bool.false_eq_true,if_false] at h
 refine Fn.enter (Tryz.func173) rfl rfl (fun w0 R=>?_)
 refine sA (xB 1 rfl (fun bk1=>(dS (TC.draw [(0,true),(1,true),(3,true),(4,true),(2,false),(5,true),(6,true)] [1] fc_m (by kernel_rfl) (xL6 1 zae rfl rfl (xmi rfl (xmi rfl (TL.shl _ rfl rfl (by omega) rfl rfl rfl (TL.callD [0] [0] (zd2 hM hl) ⟨rfl,rfl,trivial⟩ ⟨rfl,trivial⟩ zft rfl rfl rfl rfl rfl (kL1 rfl trivial) ?_)))))))))
 refine TL.andNot _ rfl rfl rfl rfl rfl (xai rfl (dB (xmf rfl (dF rfl (xL6 1 zae rfl rfl (xmi rfl (xmi rfl (TL.callD [0] [0] (zeI hM hl) ⟨rfl,rfl,rfl,trivial⟩ ⟨rfl,trivial⟩ zgL rfl rfl rfl rfl rfl trivial ?_))))))))
 refine dA (xL6 1 zae rfl rfl (xmi rfl (TL.callD [0] [0] (zdf hM hl) ⟨rfl,rfl,trivial⟩ ⟨rfl,trivial⟩ zfv rfl rfl rfl rfl rfl trivial (xai rfl (dK (TC.loopK (X:=Nat×S×Int) [4] [1] (fun y=>[(9,.int .i64 y.2.2)]) (fun y=>[(0,A y.2.1)]) (fun y=>zbX l y.1 y.2.1 y.2.2=some σ2) (fun y=>y.1) ((k,_,_)) h ⟨rfl,trivial⟩ ⟨rfl,trivial⟩ (fun y hI=>?_)))))))
 obtain ⟨k,σ1,z⟩:=y
 rcases k with _ | k
 ·simp [zbX] at hI
 dsimp only at hI
 refine TC.sub (env':=[(9,_),(4,_)]) (L':=[(0,_),(1,_)]) ⟨rfl,rfl,trivial⟩ ⟨rfl,rfl,trivial⟩ (sB (xmi rfl (TL.neq rfl rfl rfl rfl (fun q1=>?_) (fun q1=>?_))))
 refine TL.done (TQ.then (TC.condT rfl (TC.skip (TQ.then (TC.seq (TC.block (TC.draw [(0,true),(1,true),(2,true),(3,true),(4,false),(5,false)] [1] fc_m (by kernel_rfl) (xL6 1 zae rfl rfl ?_))))))))
 refine xmi rfl (xL6 1 zae rfl rfl (xmi rfl (TL.callD [0] [0] (zd2 hM hl) ⟨rfl,rfl,trivial⟩ ⟨rfl,trivial⟩ zft rfl rfl rfl rfl rfl (kL1 rfl trivial) (TL.callD [0] [0] (zeI hM hl) ⟨rfl,rfl,rfl,trivial⟩ ⟨rfl,trivial⟩ zgL rfl rfl rfl rfl rfl (kL1 rfl trivial) (dI (xL6 1 zae rfl rfl (xmi rfl (TL.callD [0] [0] (zdf hM hl) ⟨rfl,rfl,trivial⟩ ⟨rfl,trivial⟩ zfv rfl rfl rfl rfl rfl trivial ?_))))))))
 refine xai rfl (TL.done (TQ.roundK ((k,_,_)) ⟨(by rw [zbX,if_pos q1] at hI; exact hI),Nat.lt_succ_self _⟩ ⟨rfl,trivial⟩ ⟨rfl,trivial⟩ (kE1 rfl trivial) (kL1 rfl trivial)))
 refine TL.done (TQ.then (TC.condF rfl (TC.exit (TQ.thenExit (TQ.thenExit (TQ.blockHere ?_))))))
 refine FQ.end0 (Bs:=[A _]) [0] rfl rfl ⟨rfl,trivial⟩ ?_
 rw [zbX,if_neg q1] at hI; cases hI; exact ⟨rfl,rfl⟩
theorem zmy {S:Type} [MemLike S] {mt:TypeId} {mv:Value} {A:S→Assn} (hM:MemI Tryz.prog mt mv A) {l:Lay} (hl:l.Ok) {p:Pen} {σ:S} {x m:Int} {on:Bool} {k:Nat} {σ2:S} (h0:0≤m) (h:zgq l k σ x m on=some σ2):FnD Tryz.prog 173 [zba l mt mv p,.int .i64 x,.int .i64 m,.bool on] [A σ] (.tuple #[]) [A σ2]:=by
 cases on
 ·exact zli hM hl h0 h
 ·exact zmx hM hl h0 h
theorem zmw {S:Type} [MemLike S] {mt:TypeId} {mv:Value} {A:S→Assn} (hM:MemI Tryz.prog mt mv A) {l:Lay} (hl:l.Ok) {p:Pen} {σ:S} {x m:Int} (h0:0≤m):FnD Tryz.prog 184 [zba l mt mv p,.int .i64 x,.int .i64 m] [A σ] (.bool (zhf l σ x m)) [A (zfE l σ x)]:=by
 refine Fn.enter (Tryz.func184) rfl rfl (fun w0 R=>?_)
 refine sA (xB 1 rfl (fun bk1=>(xaf rfl (dA (xL6 1 zae rfl rfl (xmi rfl (TL.callD [0] [0] (zd2 hM hl) ⟨rfl,rfl,trivial⟩ ⟨rfl,trivial⟩ zft rfl rfl rfl rfl rfl trivial (xmi rfl (TL.shr _ rfl rfl (by omega) rfl rfl rfl ?_)))))))))
 refine TL.and _ rfl rfl rfl rfl rfl (TL.eqlV rfl rfl rfl rfl (xab rfl (dR ?_)))
 refine FQ.ret1 (v:=(.bool _)) (Bs:=[A _]) [0] rfl rfl rfl ⟨rfl,trivial⟩ ?_
 exact ⟨rfl,rfl⟩
theorem zkT {S:Type} [MemLike S] {mt:TypeId} {mv:Value} {A:S→Assn} (hM:MemI Tryz.prog mt mv A) {l:Lay} (hl:l.Ok) {p:Pen} {σ:S} {i u r:Int} {k:Nat} {σ2:S} (h:zgV l p k σ i u=some (r,σ2)):FnD Tryz.prog 172 [zba l mt mv p,.int .i64 i,.int .i64 u] [A σ] (.int .i64 r) [A σ2]:=by
 unfold zgV at h
 dsimp only at h
 obtain ⟨⟨a,σa⟩,h1,h⟩:=Option.bind_eq_some_iff.1 h
 obtain ⟨⟨j,σb⟩,h2,h⟩:=Option.bind_eq_some_iff.1 h
 obtain ⟨⟨s,σc⟩,h3,h4⟩:=Option.bind_eq_some_iff.1 h
 dsimp only at h1 h2 h3 h4
 refine Fn.enter (Tryz.func172) rfl rfl (fun w0 R=>?_)
 refine sA (xB 1 rfl (fun bk1=>(xai rfl (dA (xf 0 zaE rfl (xf 0 zax rfl (xL3 1 zaa rfl rfl (xmi rfl (xmi rfl ?_)))))))))
 refine TL.callD [] [] (zc7 hl) ⟨rfl,rfl,rfl,trivial⟩ trivial zhr rfl rfl rfl rfl rfl trivial (xai rfl (dS (TC.draw [(0,true),(1,true),(2,true),(3,true),(4,true),(6,true),(7,true),(8,true),(5,false),(9,false),(10,false),(11,true),(12,true),(13,true),(14,true),(15,true)] [1] fc_m (by kernel_rfl) (xf 0 zaE rfl (xL6 1 zae rfl rfl (xf 0 zaE rfl (xL6 1 zae rfl rfl (xmi rfl ?_))))))))
 refine xf 0 zaE rfl (xL6 1 zae rfl rfl (xmi rfl (TL.callD [0] [0] (zhI hM hl h1) ⟨rfl,rfl,trivial⟩ ⟨rfl,trivial⟩ zkD rfl rfl rfl rfl rfl (kL1 rfl trivial) (TL.callD [0] [0] (zo0 hM hl h2) ⟨rfl,rfl,trivial⟩ ⟨rfl,trivial⟩ zrs rfl rfl rfl rfl rfl (kL1 rfl trivial) (TL.callD [0] [0] (zlY hM hl h3) ⟨rfl,rfl,rfl,trivial⟩ ⟨rfl,trivial⟩ zrr rfl rfl rfl rfl rfl (kL1 rfl trivial) (xmu rfl (xei rfl rfl (xei rfl rfl ?_))))))))
 refine xai rfl (xai rfl (dA (xf 0 zaE rfl (xL6 1 zae rfl rfl (xmi rfl (xmi rfl (TL.callD [0] [0] (zeT hM hl h4) ⟨rfl,rfl,rfl,trivial⟩ ⟨rfl,trivial⟩ zh7 rfl rfl rfl rfl rfl trivial (xai rfl ?_))))))))
 refine dR ?_
 refine FQ.ret1 (v:=(.int _ _)) (Bs:=[A _]) [0] rfl rfl rfl ⟨rfl,trivial⟩ ?_
 exact ⟨rfl,rfl⟩
theorem zqD {S:Type} [MemLike S] {mt:TypeId} {mv:Value} {A:S→Assn} (hM:MemI Tryz.prog mt mv A) {l:Lay} (hl:l.Ok) {p:Pen} {σ:S} {i u v:Int} {b:Bool} {k:Nat} {σ2:S} (h:same l k σ i u v=some (b,σ2)):FnD Tryz.prog 100 [zba l mt mv p,.int .i64 i,.int .i64 u,.int .i64 v] [A σ] (.bool b) [A σ2]:=by
 unfold same at h
 obtain ⟨⟨a,σa⟩,h1,h⟩:=Option.bind_eq_some_iff.1 h
 obtain ⟨⟨c,σb⟩,h2,h⟩:=Option.bind_eq_some_iff.1 h
 dsimp only at h1 h2 h
 cases h
 refine Fn.enter (Tryz.func100) rfl rfl (fun w0 R=>?_)
 refine sA (xB 1 rfl (fun bk1=>(xaf rfl (dS (TC.draw [(0,true),(1,true),(2,true),(3,true),(4,true),(5,true),(6,true),(9,true),(10,true),(11,true),(12,true),(13,true),(14,true),(15,true),(7,false),(8,false),(16,false),(17,false),(18,true),(19,true)] [1] fc_m (by kernel_rfl) (xf 0 zaE rfl (xL6 1 zae rfl rfl (xf 0 zaE rfl (xf 0 zax rfl ?_)))))))))
 refine xL3 1 zaa rfl rfl (xmi rfl (xmi rfl (xf 0 zaE rfl (xL6 1 zae rfl rfl (xf 0 zaE rfl (xf 0 zax rfl (xL3 1 zaa rfl rfl (xmi rfl ?_))))))))
 refine xmi rfl (TL.callD [] [] (zc7 hl) ⟨rfl,rfl,rfl,trivial⟩ trivial zhr rfl rfl rfl rfl rfl (kL1 rfl trivial) (TL.callD [0] [0] (zhI hM hl h1) ⟨rfl,rfl,trivial⟩ ⟨rfl,trivial⟩ zkD rfl rfl rfl rfl rfl (kL1 rfl trivial) (TL.callD [] [] (zc7 hl) ⟨rfl,rfl,rfl,trivial⟩ trivial zhr rfl rfl rfl rfl rfl (kL1 rfl trivial) (TL.callD [0] [0] (zhI hM hl h2) ⟨rfl,rfl,trivial⟩ ⟨rfl,trivial⟩ zkD rfl rfl rfl rfl rfl (kL1 rfl trivial) (TL.eqlV rfl rfl rfl rfl (xab rfl (dR ?_)))))))
 refine FQ.ret1 (v:=(.bool _)) (Bs:=[A _]) [0] rfl rfl rfl ⟨rfl,trivial⟩ ?_
 exact ⟨rfl,rfl⟩
theorem zpl {mt:TypeId} {mv:Value} {l:Lay} (hl:l.Ok) {p:Pen} {i s:Int}:FnD Tryz.prog 170 [zba l mt mv p,.int .i64 i,.int .i64 s] [] (.tuple #[.int .i64 (l.arc s i 0),.int .i64 (l.arc s i 1)]) []:=by
 refine Fn.enter (Tryz.func170) rfl rfl (fun w0 R=>?_)
 refine sA (xB 0 rfl (fun bk0=>(xai rfl (xai rfl (dS (TC.draw [(0,true),(1,true),(2,true),(3,true),(4,true),(6,true),(7,true),(8,true),(9,true),(10,true),(5,false),(11,false),(12,true),(13,true)] [0] fc_m (by kernel_rfl) (xf 0 zaE rfl (xf 0 zax rfl (xL3 0 zaa rfl rfl ?_)))))))))
 refine xmi rfl (xmi rfl (xf 0 zaE rfl (xf 0 zax rfl (xL3 0 zaa rfl rfl (xmi rfl (xmi rfl (TL.callD [] [] (zoe hl) ⟨rfl,rfl,rfl,rfl,trivial⟩ trivial zjR rfl rfl rfl rfl rfl (kL1 rfl trivial) (TL.callD [] [] (zoe hl) ⟨rfl,rfl,rfl,rfl,trivial⟩ trivial zjR rfl rfl rfl rfl rfl (kL1 rfl trivial) ?_))))))))
 refine xai rfl (xai rfl (dR ?_))
 refine FQ.ret2 (v:=(.int _ _)) (x:=(.int _ _)) (Bs:=[]) [] rfl rfl rfl rfl trivial ?_
 exact ⟨rfl,rfl⟩
theorem zq0 {S:Type} [MemLike S] {mt:TypeId} {mv:Value} {A:S→Assn} (hM:MemI Tryz.prog mt mv A) {l:Lay} (hl:l.Ok) {p:Pen} {σ:S} {i s u v r:Int} {k:Nat} {σ2:S} (h:link l p k σ i s u v=some (r,σ2)):FnD Tryz.prog 141 [zba l mt mv p,.int .i64 i,.int .i64 s,.int .i64 u,.int .i64 v] [A σ] (.int .i64 r) [A σ2]:=by
 unfold link at h
 obtain ⟨⟨a,σa⟩,h1,h⟩:=Option.bind_eq_some_iff.1 h
 obtain ⟨⟨x,σb⟩,h2,h⟩:=Option.bind_eq_some_iff.1 h
 obtain ⟨⟨b,σc⟩,h3,h⟩:=Option.bind_eq_some_iff.1 h
 obtain ⟨⟨y,σd⟩,h4,h5⟩:=Option.bind_eq_some_iff.1 h
 dsimp only at h1 h2 h3 h4 h5
 refine Fn.enter (Tryz.func141) rfl rfl (fun w0 R=>?_)
 refine sA (xB 1 rfl (fun bk1=>(xai rfl (dA (xL6 1 zdA rfl rfl (xmi rfl (xmi rfl (TL.callD [] [] (zpl hl) ⟨rfl,rfl,rfl,trivial⟩ trivial zrt rfl rfl rfl rfl rfl trivial (xmu rfl ?_)))))))))
 refine xei rfl rfl (xei rfl rfl (xai rfl (xai rfl (dS (TC.draw [(0,true),(1,true),(2,true),(3,true),(4,true),(6,true),(5,false),(7,false),(8,true)] [1] fc_m (by kernel_rfl) (xf 0 zaE rfl (xL6 1 zae rfl rfl (xL6 1 zdA rfl rfl ?_))))))))
 refine xmi rfl (xmi rfl (xmi rfl (TL.callD [0] [0] (zkT hM hl h1) ⟨rfl,rfl,rfl,trivial⟩ ⟨rfl,trivial⟩ znj rfl rfl rfl rfl rfl (kL1 rfl trivial) (TL.callD [0] [0] (zeT hM hl h2) ⟨rfl,rfl,rfl,trivial⟩ ⟨rfl,trivial⟩ zh7 rfl rfl rfl rfl rfl (kL1 rfl trivial) (xai rfl (dS (TC.draw [(0,true),(1,true),(2,true),(3,true),(4,true),(5,true),(6,false),(7,false),(8,true)] [1] fc_m (by kernel_rfl) (xf 0 zaE rfl ?_))))))))
 refine xL6 1 zae rfl rfl (xmi rfl (xL6 1 zdA rfl rfl (xmi rfl (xmi rfl (TL.callD [0] [0] (zkT hM hl h3) ⟨rfl,rfl,rfl,trivial⟩ ⟨rfl,trivial⟩ znj rfl rfl rfl rfl rfl (kL1 rfl trivial) (TL.callD [0] [0] (zeT hM hl h4) ⟨rfl,rfl,rfl,trivial⟩ ⟨rfl,trivial⟩ zh7 rfl rfl rfl rfl rfl (kL1 rfl trivial) (xai rfl (dA ?_))))))))
 refine xf 0 zaE rfl (xL6 1 zae rfl rfl (xmi rfl (xmi rfl (TL.callD [0] [0] (zeT hM hl h5) ⟨rfl,rfl,rfl,trivial⟩ ⟨rfl,trivial⟩ zh7 rfl rfl rfl rfl rfl trivial (xai rfl (dR ?_))))))
 refine FQ.ret1 (v:=(.int _ _)) (Bs:=[A _]) [0] rfl rfl rfl ⟨rfl,trivial⟩ ?_
 exact ⟨rfl,rfl⟩
theorem zqd {b:Bool}:FnD Tryz.prog 137 [.bool b] [] (.int .u64 (bit b)) []:=by
 refine Fn.enter (Tryz.func137) rfl rfl (fun w0 R=>?_)
 refine sA (xai rfl (dB (xmb rfl (TL.cases rfl (fun q1=>?_) (fun q1=>?_)))))
 refine dT rfl (xai rfl (dRR ?_))
 refine FQ.ret1 (v:=(.int _ _)) (Bs:=[]) [] rfl rfl rfl trivial ?_
 cases b<;>first | exact ⟨rfl,rfl⟩ | (exfalso; simp at q1)
 refine dF rfl (xai rfl (dR ?_))
 refine FQ.ret1 (v:=(.int _ _)) (Bs:=[]) [] rfl rfl rfl trivial ?_
 cases b<;>first | exact ⟨rfl,rfl⟩ | (exfalso; simp at q1)
theorem zmZ {S:Type} [MemLike S] {mt:TypeId} {mv:Value} {A:S→Assn} (hM:MemI Tryz.prog mt mv A) {l:Lay} (hl:l.Ok) {σ:S} {u v:Int}:FnD Tryz.prog 73 [ziU l mt mv,.int .i64 u,.int .i64 v] [A σ] (.tuple #[.int .i64 (find l σ u v).slot,.bool (find l σ u v).tree,.bool (find l σ u v).ok]) [A (zo8 l σ u v)]:=by
 refine Fn.enter (Tryz.func73) rfl rfl (fun w0 R=>?_)
 refine sA (xB 1 rfl (fun bk1=>(xai rfl (xaf rfl (xaf rfl (dS (TC.draw [(0,true),(1,true),(2,true),(3,true),(4,true),(5,true),(7,true),(8,true),(6,false),(9,false),(10,true)] [1] fc_m (by kernel_rfl) (xf 3 zby rfl (xlc 1 zbu rfl rfl ?_)))))))))
 refine xf 0 za2 rfl (xL3 1 zaa rfl rfl (xmi rfl (xmi rfl (TL.ncI rfl rfl rfl (xmc rfl (TL.callD [] [] (zjW hl) ⟨rfl,rfl,rfl,trivial⟩ trivial zjU rfl rfl rfl rfl rfl (kL1 rfl trivial) (TL.mload 0 hM rfl rfl rfl rfl rfl (kL1 rfl trivial) (xai rfl ?_))))))))
 refine dB (xmi rfl (TL.eql rfl rfl rfl rfl (fun q1=>?_) (fun q1=>?_)))
 refine dT rfl (xai rfl (xaf rfl (xaf rfl (dRR ?_))))
 refine FQ.ret3 (v:=(.int _ _)) (x:=(.bool false)) (y:=(.bool false)) (Bs:=[A _]) [0] rfl rfl rfl rfl rfl ⟨rfl,trivial⟩ ?_
 first | exact ⟨(by unfold find; dsimp only; rw [if_pos q1]),rfl⟩ | exact ⟨(by unfold find; dsimp only; rw [if_neg q1]; rfl),rfl⟩
 refine dF rfl (xmi rfl (TL.shr _ rfl rfl (by decide) rfl rfl rfl (TL.conv _ rfl zej zbF (rfl) rfl rfl (TL.sub _ rfl rfl (rfl) rfl rfl (xmi rfl (TL.and _ rfl rfl rfl rfl rfl (TL.eqlV rfl rfl rfl rfl (xai rfl ?_))))))))
 refine xab rfl (xat rfl (dR ?_))
 refine FQ.ret3 (v:=(.int _ _)) (x:=(.bool _)) (y:=(.bool true)) (Bs:=[A _]) [0] rfl rfl rfl rfl rfl ⟨rfl,trivial⟩ ?_
 first | exact ⟨(by unfold find; dsimp only; rw [if_pos q1]),rfl⟩ | exact ⟨(by unfold find; dsimp only; rw [if_neg q1]; rfl),rfl⟩
theorem zrP {S:Type} [MemLike S] {mt:TypeId} {mv:Value} {A:S→Assn} (hM:MemI Tryz.prog mt mv A) {l:Lay} (hl:l.Ok) {σ:S} {s u v i:Int} {t:Bool}:FnD Tryz.prog 110 [ziU l mt mv,.int .i64 s,.int .i64 u,.int .i64 v,.int .i64 i,.bool t] [A σ] (.tuple #[]) [A (eput l σ s u v i t)]:=by
 refine Fn.enter (Tryz.func110) rfl rfl (fun w0 R=>?_)
 refine sA (xB 1 rfl (fun bk1=>(dS (TC.draw [(0,true),(1,true),(2,true),(3,true),(4,true),(6,true),(7,true),(8,true),(9,true),(10,true),(11,true),(12,true),(13,true),(14,true),(15,true),(16,true),(5,false),(17,false)] [1] fc_m (by kernel_rfl) (xf 3 zby rfl (xlc 1 zbu rfl rfl (xf 0 za2 rfl (xL3 1 zaa rfl rfl (xmi rfl ?_)))))))))
 refine xmi rfl (xmi rfl (TL.min2 rfl rfl rfl rfl (TL.shl _ rfl rfl (by decide) rfl rfl rfl (xmi rfl (xmi rfl (TL.max2 rfl rfl rfl rfl (TL.or _ rfl rfl rfl rfl rfl (TL.conv _ rfl ze4 za0 (rfl) rfl rfl ?_))))))))
 refine TL.ncI rfl rfl rfl (xmc rfl (TL.callD [] [] (znK hl) ⟨rfl,rfl,trivial⟩ trivial znx rfl rfl rfl rfl rfl (kL1 rfl trivial) (TL.mstore 0 hM rfl rfl rfl (by first | exact zf1 _ | exact zcH _ _ | exact MemLike.rng _ _ | decide | assumption) rfl rfl rfl (kL1 rfl trivial) (dS (TC.draw [(0,true),(1,true),(2,true),(3,true),(4,true),(6,true),(7,true),(8,true),(9,true),(5,false),(10,false)] [1] fc_m (by kernel_rfl) (xf 3 zby rfl (xlc 1 zbu rfl rfl (xf 0 za2 rfl ?_))))))))
 refine xL3 1 zaa rfl rfl (xmi rfl (xmi rfl (TL.conv _ rfl ze4 za0 (rfl) rfl rfl (TL.ncI rfl rfl rfl (xmc rfl (TL.callD [] [] (zku hl) ⟨rfl,rfl,trivial⟩ trivial znw rfl rfl rfl rfl rfl (kL1 rfl trivial) (TL.mstore 0 hM rfl rfl rfl (by first | exact zf1 _ | exact zcH _ _ | exact MemLike.rng _ _ | decide | assumption) rfl rfl rfl (kL1 rfl trivial) (TL.done ?_))))))))
 refine TQ.then (TC.draw [(0,true),(1,true),(2,true),(3,true),(4,true),(5,true),(7,true),(8,true),(9,true),(10,true),(11,true),(14,true),(15,true),(6,false),(12,false),(13,true),(16,false)] [1] fc_m (by kernel_rfl) (xf 3 zby rfl (xlc 1 zbu rfl rfl (xf 0 za2 rfl (xL3 1 zaa rfl rfl (xmi rfl (xmi rfl (xmi rfl ?_))))))))
 refine TL.add _ rfl rfl (rfl) rfl rfl (TL.conv _ rfl ze4 za0 (rfl) rfl rfl (TL.shl _ rfl rfl (by decide) rfl rfl rfl (xmb rfl (TL.ncI rfl rfl rfl (xmc rfl (TL.callD [] [] (zjW hl) ⟨rfl,rfl,rfl,trivial⟩ trivial zjU rfl rfl rfl rfl rfl (kL1 rfl trivial) (TL.callD [] [] zqd ⟨rfl,trivial⟩ trivial znv rfl rfl rfl rfl rfl (kL1 rfl trivial) (TL.or _ rfl rfl rfl rfl rfl ?_))))))))
 refine TL.mstore 0 hM rfl rfl rfl (by first | exact zf1 _ | exact zcH _ _ | exact MemLike.rng _ _ | decide | assumption) rfl rfl rfl (kL1 rfl trivial) (TL.done ?_)
 refine FQ.end0 (Bs:=[A _]) [0] rfl rfl ⟨rfl,trivial⟩ ?_
 exact ⟨rfl,rfl⟩
theorem zkK {S:Type} [MemLike S] {mt:TypeId} {mv:Value} {A:S→Assn} (hM:MemI Tryz.prog mt mv A) {l:Lay} (hl:l.Ok) {σ:S} {s:Int}:FnD Tryz.prog 153 [ziU l mt mv,.int .i64 s] [A σ] (.tuple #[.int .i64 (zlu l σ s),.int .i64 (zlt l σ s)]) [A (zid l σ s)]:=by
 refine Fn.enter (Tryz.func153) rfl rfl (fun w0 R=>?_)
 refine sA (xB 1 rfl (fun bk1=>(xai rfl (xai rfl (dS (TC.draw [(0,true),(1,true),(2,true),(3,true),(4,true),(6,true),(7,true),(5,false),(8,false),(9,true),(10,true)] [1] fc_m (by kernel_rfl) (xf 3 zby rfl (xlc 1 zbu rfl rfl (xf 0 za2 rfl ?_)))))))))
 refine xL3 1 zaa rfl rfl (xmi rfl (TL.ncI rfl rfl rfl (xmc rfl (TL.callD [] [] (znK hl) ⟨rfl,rfl,trivial⟩ trivial znx rfl rfl rfl rfl rfl (kL1 rfl trivial) (TL.mload 0 hM rfl rfl rfl rfl rfl (kL1 rfl trivial) (TL.conv _ rfl zej zbF (rfl) rfl rfl (xai rfl (dA ?_))))))))
 refine xmi rfl (TL.shr _ rfl rfl (by decide) rfl rfl rfl (xmi rfl (TL.and _ rfl rfl rfl rfl rfl (xai rfl (xai rfl (dR ?_))))))
 refine FQ.ret2 (v:=(.int _ _)) (x:=(.int _ _)) (Bs:=[A _]) [0] rfl rfl rfl rfl ⟨rfl,trivial⟩ ?_
 exact ⟨rfl,rfl⟩
theorem znO {S:Type} [MemLike S] {mt:TypeId} {mv:Value} {A:S→Assn} (hM:MemI Tryz.prog mt mv A) {l:Lay} (hl:l.Ok) {σ:S} {s:Int}:FnD Tryz.prog 125 [ziU l mt mv,.int .i64 s] [A σ] (edgV (eget l σ s)) [A (zey l σ s)]:=by
 refine Fn.enter (Tryz.func125) rfl rfl (fun w0 R=>?_)
 refine sA (xB 1 rfl (fun bk1=>(TL.alloc 2 (cs:=#[.int .i64 0,.int .i64 0,.int .i64 0,.bool false]) zh4 rfl rfl rfl (fun _=>trivial) (fun bk2=>(dA (xL4 1 zcZ rfl rfl (xmi rfl (TL.callD [0] [0] (zkK hM hl) ⟨rfl,rfl,trivial⟩ ⟨rfl,trivial⟩ znp rfl rfl rfl rfl rfl trivial (xmu rfl (xei rfl rfl ?_))))))))))
 refine xei rfl rfl (xai rfl (xai rfl (dA (xL4 1 zcZ rfl rfl (xmi rfl (xmi rfl (TL.callD [0] [0] (zmZ hM hl) ⟨rfl,rfl,rfl,trivial⟩ ⟨rfl,trivial⟩ zpW rfl rfl rfl rfl rfl trivial (xmu rfl ?_))))))))
 refine xei rfl rfl (TL.ext (.bool _) rfl rfl rfl rfl (TL.ext (.bool _) rfl rfl rfl rfl (xai rfl (xab rfl (xab rfl (dS (TC.draw [(0,true),(1,true),(2,true),(3,true),(4,true),(5,true),(6,true),(8,true),(9,true),(12,true),(7,false),(10,false),(11,true),(13,true),(14,false)] [1] fc_m (by kernel_rfl) (xmi rfl ?_))))))))
 refine xmi rfl (xf 3 zby rfl (xlc 1 zbu rfl rfl (xf 0 za2 rfl (xL3 1 zaa rfl rfl (xmi rfl (TL.ncI rfl rfl rfl (xmc rfl (xmb rfl ?_))))))))
 refine TL.callD [] [] (zku hl) ⟨rfl,rfl,trivial⟩ trivial znw rfl rfl rfl rfl rfl (kL1 rfl trivial) (TL.mload 0 hM rfl rfl rfl rfl rfl (kL1 rfl trivial) (TL.conv _ rfl zej zbF (rfl) rfl rfl (TL.bld [.int .i64 0,.int .i64 0,.int .i64 0,.bool false] [(.int _ _),(.int _ _),(.int _ _),(.bool _)] [_,_,_,_] zh4 zrh ⟨rfl,rfl,rfl,rfl,trivial⟩ ⟨rfl,rfl⟩ rfl rfl (TL.stW 2 4 [_,_,_,_] rfl rfl rfl rfl rfl rfl ze7 rfl rfl (kL1 rfl trivial) (dR ?_)))))
 refine FQ.retG (rs:=[.cell 4 183]) [(.agg _)] (Bs:=[A _]) [0] rfl ⟨⟨_,_,_,_,_,2,rfl,rfl,.inr ⟨4,[_,_,_,_],ze7,rfl,rfl⟩⟩,trivial⟩ rfl rfl ⟨rfl,trivial⟩ ?_
 exact ⟨rfl,rfl⟩
theorem zpb {S:Type} [MemLike S] {mt:TypeId} {mv:Value} {A:S→Assn} (hM:MemI Tryz.prog mt mv A) {l:Lay} (hl:l.Ok) {σ:S} {s:Int} {t:Bool}:FnD Tryz.prog 140 [ziU l mt mv,.int .i64 s,.bool t] [A σ] (.tuple #[]) [A (zg1 l σ s t)]:=by
 refine Fn.enter (Tryz.func140) rfl rfl (fun w0 R=>?_)
 refine sA (xB 1 rfl (fun bk1=>(dA (xL4 1 zcZ rfl rfl (xmi rfl (TL.callD [0] [0] (zkK hM hl) ⟨rfl,rfl,trivial⟩ ⟨rfl,trivial⟩ znp rfl rfl rfl rfl rfl trivial (xmu rfl (xei rfl rfl (xei rfl rfl ?_)))))))))
 refine xai rfl (xai rfl (TL.done (TQ.then (TC.draw [(0,true),(1,true),(2,true),(3,true),(4,true),(5,true),(7,true),(8,true),(9,true),(10,true),(11,true),(14,true),(15,true),(6,false),(12,false),(13,true),(16,false)] [1] fc_m (by kernel_rfl) (xf 3 zby rfl (xlc 1 zbu rfl rfl (xf 0 za2 rfl (xL3 1 zaa rfl rfl ?_))))))))
 refine xmi rfl (xmi rfl (xmi rfl (TL.add _ rfl rfl (rfl) rfl rfl (TL.conv _ rfl ze4 za0 (rfl) rfl rfl (TL.shl _ rfl rfl (by decide) rfl rfl rfl (xmb rfl (TL.ncI rfl rfl rfl (xmc rfl ?_))))))))
 refine TL.callD [] [] (zjW hl) ⟨rfl,rfl,rfl,trivial⟩ trivial zjU rfl rfl rfl rfl rfl (kL1 rfl trivial) (TL.callD [] [] zqd ⟨rfl,trivial⟩ trivial znv rfl rfl rfl rfl rfl (kL1 rfl trivial) (TL.or _ rfl rfl rfl rfl rfl (TL.mstore 0 hM rfl rfl rfl (by first | exact zf1 _ | exact zcH _ _ | exact MemLike.rng _ _ | decide | assumption) rfl rfl rfl (kL1 rfl trivial) (TL.done ?_))))
 refine FQ.end0 (Bs:=[A _]) [0] rfl rfl ⟨rfl,trivial⟩ ?_
 exact ⟨rfl,rfl⟩
theorem zol {S:Type} [MemLike S] {mt:TypeId} {mv:Value} {A:S→Assn} (hM:MemI Tryz.prog mt mv A) {l:Lay} (hl:l.Ok) {p:Pen} {σ:S} {c:Int}:FnD Tryz.prog 165 [adjV l mt mv p,.int .i64 c] [A σ] (.int .i64 (aget σ c)) [A (MemLike.ld σ c)]:=by
 refine Fn.enter (Tryz.func165) rfl rfl (fun w0 R=>?_)
 refine sA (xB 1 rfl (fun bk1=>(xai rfl (dA (xf 6 za1 rfl (xf 3 zby rfl (xlc 1 zbu rfl rfl (xmi rfl (TL.mload 0 hM rfl rfl rfl rfl rfl trivial ?_)))))))))
 refine TL.conv _ rfl zej zbF (rfl) rfl rfl (xai rfl (dR ?_))
 refine FQ.ret1 (v:=(.int _ _)) (Bs:=[A _]) [0] rfl rfl rfl ⟨rfl,trivial⟩ ?_
 exact ⟨rfl,rfl⟩
theorem zgW {S:Type} [MemLike S] {mt:TypeId} {mv:Value} {A:S→Assn} (hM:MemI Tryz.prog mt mv A) {l:Lay} (hl:l.Ok) {p:Pen} {σ:S} {c v:Int}:FnD Tryz.prog 166 [adjV l mt mv p,.int .i64 c,.int .i64 v] [A σ] (.tuple #[]) [A (MemLike.st σ c (IntKind.u64.wrap v))]:=by
 refine Fn.enter (Tryz.func166) rfl rfl (fun w0 R=>?_)
 refine sA (xB 1 rfl (fun bk1=>(dG (xf 6 za1 rfl (xf 3 zby rfl (xlc 1 zbu rfl rfl (xmi rfl (xmi rfl (TL.conv _ rfl ze4 za0 (rfl) rfl rfl ?_)))))))))
 refine TL.mstore 0 hM rfl rfl rfl (by first | exact zf1 _ | exact zcH _ _ | exact MemLike.rng _ _ | decide | assumption) rfl rfl rfl trivial (TL.done ?_)
 refine FQ.end0 (Bs:=[A _]) [0] rfl rfl ⟨rfl,trivial⟩ ?_
 exact ⟨rfl,rfl⟩
theorem zl0 {s d:Int}:FnD Tryz.prog 139 [.int .i64 s,.int .i64 d] [] (.int .i64 (side s d)) []:=by
 refine Fn.enter (Tryz.func139) rfl rfl (fun w0 R=>?_)
 refine sA (xai rfl (dA (xmi rfl (TL.mul _ rfl rfl (rfl) rfl rfl (xmi rfl (TL.add _ rfl rfl (rfl) rfl rfl (TL.add _ rfl rfl (rfl) rfl rfl (xai rfl ?_))))))))
 refine dR ?_
 refine FQ.ret1 (v:=(.int _ _)) (Bs:=[]) [] rfl rfl rfl trivial ?_
 exact ⟨rfl,rfl⟩
theorem zpm {mt:TypeId} {mv:Value} {l:Lay} (hl:l.Ok) {p:Pen} {x:Int}:FnD Tryz.prog 167 [adjV l mt mv p,.int .i64 x] [] (.int .i64 (zaY l x)) []:=by
 refine Fn.enter (Tryz.func167) rfl rfl (fun w0 R=>?_)
 refine sA (xB 0 rfl (fun bk0=>(xai rfl (dA (xf 6 za1 rfl (xf 0 za2 rfl (xL3 0 zaa rfl rfl (xmi rfl (TL.sub _ rfl rfl (rfl) rfl rfl ?_)))))))))
 refine TL.quo _ rfl rfl (by omega) (quo2 _) rfl rfl (xmi rfl (TL.sub _ rfl rfl (rfl) rfl rfl (TL.rem _ rfl rfl (by omega) (rfl) rfl rfl (TL.callD [] [] (zqX hl) ⟨rfl,rfl,rfl,trivial⟩ trivial zrq rfl rfl rfl rfl rfl trivial (xai rfl (dR ?_))))))
 refine FQ.ret1 (v:=(.int _ _)) (Bs:=[]) [] rfl rfl rfl trivial ?_
 exact ⟨rfl,rfl⟩
theorem zkV {mt:TypeId} {mv:Value} {l:Lay} (hl:l.Ok) {p:Pen} {x:Int}:FnD Tryz.prog 168 [adjV l mt mv p,.int .i64 x] [] (.int .i64 (zaH l x)) []:=by
 refine Fn.enter (Tryz.func168) rfl rfl (fun w0 R=>?_)
 refine sA (xB 0 rfl (fun bk0=>(xai rfl (dA (xf 6 za1 rfl (xf 0 za2 rfl (xL3 0 zaa rfl rfl (xmi rfl (TL.sub _ rfl rfl (rfl) rfl rfl ?_)))))))))
 refine TL.quo _ rfl rfl (by omega) (quo2 _) rfl rfl (xmi rfl (TL.sub _ rfl rfl (rfl) rfl rfl (TL.rem _ rfl rfl (by omega) (rfl) rfl rfl (TL.callD [] [] (zqJ hl) ⟨rfl,rfl,rfl,trivial⟩ trivial zrp rfl rfl rfl rfl rfl trivial (xai rfl (dR ?_))))))
 refine FQ.ret1 (v:=(.int _ _)) (Bs:=[]) [] rfl rfl rfl trivial ?_
 exact ⟨rfl,rfl⟩
theorem zkW {S:Type} [MemLike S] {mt:TypeId} {mv:Value} {A:S→Assn} (hM:MemI Tryz.prog mt mv A) {l:Lay} (hl:l.Ok) {p:Pen} {σ:S} {v i:Int} {k:Nat} {σ2:S} (h:zgX l k σ v i=some σ2):FnD Tryz.prog 169 [adjV l mt mv p,.int .i64 v,.int .i64 i] [A σ] (.tuple #[]) [A σ2]:=by
 unfold zgX at h
 dsimp only at h
 refine Fn.enter (Tryz.func169) rfl rfl (fun w0 R=>?_)
 refine sA (xB 1 rfl (fun bk1=>(dA (xf 6 za1 rfl (xf 0 za2 rfl (xL3 1 zaa rfl rfl (xmi rfl (xmi rfl (TL.callD [] [] (zc7 hl) ⟨rfl,rfl,rfl,trivial⟩ trivial zhr rfl rfl rfl rfl rfl trivial ?_)))))))))
 refine xai rfl (dS (TC.draw [(0,true),(1,true),(2,true),(3,true),(4,true),(5,true),(6,false),(7,false),(8,true),(9,true)] [1] fc_m (by kernel_rfl) (xL10 1 za6 rfl rfl (xf 6 za1 rfl (xf 0 za2 rfl (xL3 1 zaa rfl rfl (xmi rfl (xmi rfl ?_))))))))
 refine TL.callD [] [] (zmN hl) ⟨rfl,rfl,rfl,trivial⟩ trivial znn rfl rfl rfl rfl rfl (kL1 rfl trivial) (TL.callD [0] [0] (zol hM hl) ⟨rfl,rfl,trivial⟩ ⟨rfl,trivial⟩ znm rfl rfl rfl rfl rfl (kL1 rfl trivial) (TL.neqV rfl rfl rfl rfl (xab rfl (dA (xmb rfl (xf 0 zcB rfl (xf 0 zaE rfl (xL6 1 zae rfl rfl ?_))))))))
 refine xmi rfl (TL.callD [0] [0] (zmw hM hl (by decide)) ⟨rfl,rfl,rfl,trivial⟩ ⟨rfl,trivial⟩ zro rfl rfl rfl rfl rfl trivial (TL.neqB rfl rfl fc_b4 rfl rfl (TL.cases rfl (fun q1=>?_) (fun q1=>?_))))
 refine TL.done (TQ.then (TC.condT rfl (TC.region (xf 0 zcB rfl (xf 0 zaE rfl (xL6 1 zae rfl rfl (xmi rfl (xmb rfl ?_))))))))
 refine TL.callD [0] [0] (zmy hM hl (by decide) (by rw [if_pos (by simpa using q1)] at h; exact h)) ⟨rfl,rfl,rfl,rfl,trivial⟩ ⟨rfl,trivial⟩ zni rfl rfl rfl rfl rfl trivial (TL.done ?_)
 refine FQ.end0 (Bs:=[A _]) [0] rfl rfl ⟨rfl,trivial⟩ ?_
 exact ⟨rfl,rfl⟩
 refine TL.done (TQ.then (TC.condF rfl (TC.skip ?_)))
 refine FQ.end0 (Bs:=[A _]) [0] rfl rfl ⟨rfl,trivial⟩ ?_
 rw [if_neg (fun hc=>by revert q1 hc; cases zhf l (MemLike.ld σ (l.head v i)) (l.vertex i v) 0<;>simp<;>omega)] at h; cases h; exact ⟨rfl,rfl⟩
theorem zmg {S:Type} [MemLike S] {mt:TypeId} {mv:Value} {A:S→Assn} (hM:MemI Tryz.prog mt mv A) {l:Lay} (hl:l.Ok) {p:Pen} {σ:S} {x v i:Int} {k:Nat} {σ2:S} (h:push l k σ x v i=some σ2):FnD Tryz.prog 138 [adjV l mt mv p,.int .i64 x,.int .i64 v,.int .i64 i] [A σ] (.tuple #[]) [A σ2]:=by
 unfold push at h
 dsimp only at h
 refine Fn.enter (Tryz.func138) rfl rfl (fun w0 R=>?_)
 refine sA (xB 1 rfl (fun bk1=>(dA (xf 6 za1 rfl (xf 0 za2 rfl (xL3 1 zaa rfl rfl (xmi rfl (xmi rfl (TL.callD [] [] (zmN hl) ⟨rfl,rfl,rfl,trivial⟩ trivial znn rfl rfl rfl rfl rfl trivial ?_)))))))))
 refine xai rfl (dA (xL10 1 za6 rfl rfl (xmi rfl (TL.callD [0] [0] (zol hM hl) ⟨rfl,rfl,trivial⟩ ⟨rfl,trivial⟩ znm rfl rfl rfl rfl rfl trivial (xai rfl (dS (TC.draw [(0,true),(1,true),(2,true),(4,true),(3,false),(5,false)] [1] fc_m (by kernel_rfl) (xL10 1 za6 rfl rfl ?_))))))))
 refine xL10 1 za6 rfl rfl (xmi rfl (xmi rfl (TL.callD [] [] (zpm hl) ⟨rfl,rfl,trivial⟩ trivial zru rfl rfl rfl rfl rfl (kL1 rfl trivial) (TL.callD [0] [0] (zgW hM hl) ⟨rfl,rfl,rfl,trivial⟩ ⟨rfl,trivial⟩ zgM rfl rfl rfl rfl rfl (kL1 rfl trivial) (dS (TC.draw [(0,true),(1,true),(2,true),(3,false),(4,false)] [1] fc_m (by kernel_rfl) (xL10 1 za6 rfl rfl (xL10 1 za6 rfl rfl ?_))))))))
 refine xmi rfl (TL.callD [] [] (zkV hl) ⟨rfl,rfl,trivial⟩ trivial znl rfl rfl rfl rfl rfl (kL1 rfl trivial) (TL.callD [0] [0] (zgW hM hl) ⟨rfl,rfl,rfl,trivial⟩ ⟨rfl,trivial⟩ zgM rfl rfl rfl rfl rfl (kL1 rfl trivial) (dB (xmi rfl (TL.neq rfl rfl rfl rfl (fun q1=>?_) (fun q1=>?_))))))
 refine TL.done (TQ.then (TC.condT rfl (TC.draw [(0,true),(1,true),(2,true),(4,true),(3,false),(5,false)] [1] fc_m (by kernel_rfl) (xL10 1 za6 rfl rfl (xL10 1 za6 rfl rfl (xmi rfl (xmi rfl (TL.callD [] [] (zkV hl) ⟨rfl,rfl,trivial⟩ trivial znl rfl rfl rfl rfl rfl (kL1 rfl trivial) ?_))))))))
 refine TL.callD [0] [0] (zgW hM hl) ⟨rfl,rfl,rfl,trivial⟩ ⟨rfl,trivial⟩ zgM rfl rfl rfl rfl rfl (kL1 rfl trivial) (dA (xL10 1 za6 rfl rfl (xmi rfl (xmi rfl (TL.callD [0] [0] (zgW hM hl) ⟨rfl,rfl,rfl,trivial⟩ ⟨rfl,trivial⟩ zgM rfl rfl rfl rfl rfl trivial (dG (xL10 1 za6 rfl rfl (xmi rfl ?_))))))))
 refine xmi rfl (TL.callD [0] [0] (zkW hM hl (by rw [if_pos q1] at h; exact h)) ⟨rfl,rfl,rfl,trivial⟩ ⟨rfl,trivial⟩ znk rfl rfl rfl rfl rfl trivial (TL.done ?_))
 refine FQ.end0 (Bs:=[A _]) [0] rfl rfl ⟨rfl,trivial⟩ ?_
 exact ⟨rfl,rfl⟩
 refine dF rfl (xL10 1 za6 rfl rfl (xmi rfl (xmi rfl (TL.callD [0] [0] (zgW hM hl) ⟨rfl,rfl,rfl,trivial⟩ ⟨rfl,trivial⟩ zgM rfl rfl rfl rfl rfl trivial (dG (xL10 1 za6 rfl rfl (xmi rfl (xmi rfl ?_))))))))
 refine TL.callD [0] [0] (zkW hM hl (by rw [if_neg q1] at h; exact h)) ⟨rfl,rfl,rfl,trivial⟩ ⟨rfl,trivial⟩ znk rfl rfl rfl rfl rfl trivial (TL.done ?_)
 refine FQ.end0 (Bs:=[A _]) [0] rfl rfl ⟨rfl,trivial⟩ ?_
 exact ⟨rfl,rfl⟩
theorem zof {S:Type} [MemLike S] {mt:TypeId} {mv:Value} {A:S→Assn} (hM:MemI Tryz.prog mt mv A) {l:Lay} (hl:l.Ok) {p:Pen} {σ:S} {s:Int} {k:Nat} {σ2:S} (h:add l k σ s=some σ2):FnD Tryz.prog 111 [adjV l mt mv p,.int .i64 s] [A σ] (.tuple #[]) [A σ2]:=by
 unfold add at h
 dsimp only at h
 obtain ⟨σ1,h1,h2⟩:=Option.bind_eq_some_iff.1 h
 refine Fn.enter (Tryz.func111) rfl rfl (fun w0 R=>?_)
 refine sA (xB 1 rfl (fun bk1=>(dA (xf 6 za1 rfl (xL4 1 zcZ rfl rfl (xmi rfl (TL.callD [0] [0] (znO hM hl) ⟨rfl,rfl,trivial⟩ ⟨rfl,trivial⟩ znA rfl rfl rfl rfl rfl trivial (TL.alloc 2 (cs:=#[.int .i64 0,.int .i64 0,.int .i64 0,.bool false]) zh4 rfl rfl rfl (fun _=>trivial) (fun bk2=>(TL.stW 2 4 [_,_,_,_] rfl rfl rfl rfl rfl rfl ze7 rfl rfl trivial ?_))))))))))
 refine dS (TC.draw [(0,true),(1,true),(3,true),(4,true),(5,true),(6,true),(2,false),(7,false)] [1,2] fc_m (by kernel_rfl) (xL10 1 za6 rfl rfl (xmi rfl (xf 0 zgF rfl (xli 2 zaf rfl rfl (xf 2 zdw rfl (xli 2 zaf rfl rfl (TL.callD [] [] zl0 ⟨rfl,rfl,trivial⟩ trivial znt rfl rfl rfl rfl rfl (kL2 rfl rfl trivial) ?_))))))))
 refine TL.callD [0] [0] (zmg hM hl h1) ⟨rfl,rfl,rfl,rfl,trivial⟩ ⟨rfl,trivial⟩ znu rfl rfl rfl rfl rfl (kL2 rfl rfl trivial) (TL.done (TQ.then (TC.draw [(0,true),(1,true),(3,true),(4,true),(5,true),(6,true),(2,false),(7,false)] [1,2] fc_m (by kernel_rfl) (xL10 1 za6 rfl rfl (xmi rfl (xf 1 zgE rfl (xli 2 zaf rfl rfl (xf 2 zdw rfl ?_))))))))
 refine xli 2 zaf rfl rfl (TL.callD [] [] zl0 ⟨rfl,rfl,trivial⟩ trivial znt rfl rfl rfl rfl rfl (kL2 rfl rfl trivial) (TL.callD [0] [0] (zmg hM hl h2) ⟨rfl,rfl,rfl,rfl,trivial⟩ ⟨rfl,trivial⟩ znu rfl rfl rfl rfl rfl (kL2 rfl rfl trivial) (TL.done ?_)))
 refine FQ.end0 (Bs:=[A _]) [0] rfl rfl ⟨rfl,trivial⟩ ?_
 exact ⟨rfl,rfl⟩
theorem zoT {S:Type} [MemLike S] {mt:TypeId} {mv:Value} {A:S→Assn} (hM:MemI Tryz.prog mt mv A) {l:Lay} (hl:l.Ok) {p:Pen} {σ:S} {s i:Int} {on:Bool} {k:Nat} {σ2:S} (h:lmark l k σ s i on=some σ2):FnD Tryz.prog 142 [adjV l mt mv p,.int .i64 s,.int .i64 i,.bool on] [A σ] (.tuple #[]) [A σ2]:=by
 unfold lmark at h
 refine Fn.enter (Tryz.func142) rfl rfl (fun w0 R=>?_)
 refine sA (xB 1 rfl (fun bk1=>(TL.done (TQ.then (TC.draw [(0,true),(1,true),(2,true),(3,true),(4,true),(5,true),(6,true),(7,true),(8,true),(9,true),(11,true),(10,false),(12,false)] [1] fc_m (by kernel_rfl) (xf 0 zbn rfl (xf 0 zcB rfl (xf 0 zaE rfl (xL6 1 zae rfl rfl ?_)))))))))
 refine xf 0 zbn rfl (xf 6 za1 rfl (xf 0 za2 rfl (xL3 1 zaa rfl rfl (xmi rfl (xmi rfl (xmb rfl (TL.callD [] [] (zoe hl) ⟨rfl,rfl,rfl,rfl,trivial⟩ trivial zjR rfl rfl rfl rfl rfl (kL1 rfl trivial) (TL.callD [0] [0] (zmy hM hl (by decide) h) ⟨rfl,rfl,rfl,rfl,trivial⟩ ⟨rfl,trivial⟩ zni rfl rfl rfl rfl rfl (kL1 rfl trivial) ?_))))))))
 refine TL.done ?_
 refine FQ.end0 (Bs:=[A _]) [0] rfl rfl ⟨rfl,trivial⟩ ?_
 exact ⟨rfl,rfl⟩
theorem zoM {S:Type} [MemLike S] {mt:TypeId} {mv:Value} {A:S→Assn} (hM:MemI Tryz.prog mt mv A) {l:Lay} (hl:l.Ok) {p:Pen} {σ:S} {s:Int} {k:Nat} {σ2:S} (h:plant l p k σ s=some σ2):FnD Tryz.prog 112 [adjV l mt mv p,.int .i64 s] [A σ] (.tuple #[]) [A σ2]:=by
 unfold plant at h
 dsimp only at h
 obtain ⟨σ1,h1,h2⟩:=Option.bind_eq_some_iff.1 h
 refine Fn.enter (Tryz.func112) rfl rfl (fun w0 R=>?_)
 refine sA (xB 1 rfl (fun bk1=>(dA (xf 0 zbn rfl (xf 6 za1 rfl (xL4 1 zcZ rfl rfl (xmi rfl (TL.callD [0] [0] (znO hM hl) ⟨rfl,rfl,trivial⟩ ⟨rfl,trivial⟩ znA rfl rfl rfl rfl rfl trivial (TL.alloc 2 (cs:=#[.int .i64 0,.int .i64 0,.int .i64 0,.bool false]) zh4 rfl rfl rfl (fun _=>trivial) (fun bk2=>?_))))))))))
 refine TL.stW 2 4 [_,_,_,_] rfl rfl rfl rfl rfl rfl ze7 rfl rfl trivial (dA (xf 0 zbn rfl (xf 6 za1 rfl (xL4 1 zcZ rfl rfl (xmi rfl (TL.callD [0] [0] (zpb hM hl) ⟨rfl,rfl,rfl,trivial⟩ ⟨rfl,trivial⟩ zrA rfl rfl rfl rfl rfl trivial (dB (xf 2 zdw rfl ?_))))))))
 refine xli 2 zaf rfl rfl (TL.add _ rfl rfl (rfl) rfl rfl (xmi rfl (dK (TC.loopK (X:=Nat×S×Int) [1,2,4,18] [1,2] (fun y=>[(19,.int .i64 y.2.2)]) (fun y=>[(0,A y.2.1)]) (fun y=>zde l p s (eget l σ s).u (eget l σ s).v y.1 k y.2.1 y.2.2 (IntKind.i64.wrap ((eget l σ s).level+1))=some σ1) (fun y=>y.1) ((k,_,0)) h1 ⟨rfl,trivial⟩ ⟨rfl,trivial⟩ (fun y hI=>?_)))))
 obtain ⟨j,σ3,z⟩:=y
 rcases j with _ | j
 ·simp [zde] at hI
 dsimp only at hI
 refine TC.sub (env':=[(19,_),(1,_),(2,_),(4,_),(18,_)]) (L':=[(0,_),(1,_),(2,_)]) ⟨rfl,rfl,rfl,rfl,rfl,trivial⟩ ⟨rfl,rfl,rfl,trivial⟩ (sA (TL.lss rfl rfl rfl rfl (fun q1=>?_) (fun q1=>?_)))
 refine dS (TC.condT rfl (TC.skip (TQ.then (TC.seq (TC.block (sA (xmi rfl (xai rfl ?_))))))))
 refine dG (xf 0 zbn rfl (xf 0 zcB rfl (xL6 1 zdA rfl rfl (xmi rfl (xmi rfl (xf 0 zgF rfl (xli 2 zaf rfl rfl (xf 1 zgE rfl ?_))))))))
 refine xli 2 zaf rfl rfl ?_
 rw [zde,if_pos q1] at hI
 obtain ⟨⟨r,σ4⟩,h3,h4⟩:=Option.bind_eq_some_iff.1 hI
 refine TL.callD [0] [0] (zq0 hM hl h3) ⟨rfl,rfl,rfl,rfl,rfl,trivial⟩ ⟨rfl,trivial⟩ zrz rfl rfl rfl rfl rfl trivial (dI (TL.add _ rfl rfl (rfl) rfl rfl (xmi rfl (TL.done (TQ.roundK ((j,_,_)) ⟨h4,Nat.lt_succ_self _⟩ ⟨rfl,trivial⟩ ⟨rfl,trivial⟩ (kE4 rfl rfl rfl rfl trivial) (kL2 rfl rfl trivial))))))
 refine dS (TC.condF rfl (TC.exit (TQ.thenExit (TQ.thenExit (TQ.blockHere (TQ.then (TC.region (xL10 1 ziP rfl rfl ?_))))))))
 refine xmi rfl (xf 2 zdw rfl (xli 2 zaf rfl rfl ?_))
 rw [zde,if_neg q1] at hI
 cases hI
 refine TL.callD [0] [0] (zoT hM hl h2) ⟨rfl,rfl,rfl,rfl,trivial⟩ ⟨rfl,trivial⟩ zry rfl rfl rfl rfl rfl trivial (TL.done ?_)
 refine FQ.end0 (Bs:=[A _]) [0] rfl rfl ⟨rfl,trivial⟩ ?_
 exact ⟨rfl,rfl⟩
theorem zo2 {mt:TypeId} {mv:Value} {l:Lay} {p:Pen}:FnD Tryz.prog 37 [layV l,.iface mt mv,.agg #[.int .i64 p.thread,.int .i64 p.tag]] [] (adjV l mt mv p) []:=by
 refine Fn.enter (Tryz.func37) rfl rfl (fun w0 R=>?_)
 refine sA (xB 0 rfl (fun bk0=>(xB 1 rfl (fun bk1=>(TL.alloc 2 (cs:=#[.int .i64 0,.int .i64 0,.int .i64 0,.nilIface,.int .i64 0,.int .i64 0,.int .i64 0,.int .i64 0,.int .i64 0,.nilIface]) zm4 rfl rfl rfl (fun _=>trivial) (fun bk2=>(dA (xL3 0 zaa rfl rfl (xmc rfl (xL2 1 zce rfl rfl (TL.bld [.int .i64 0,.int .i64 0,.int .i64 0,.nilIface,.int .i64 0,.int .i64 0] [(.agg _),(.iface _ _),(.agg _)] [_,_,_,_,_,_] ziO zm9 ⟨rfl,rfl,rfl,trivial⟩ ⟨rfl,rfl⟩ rfl rfl ?_)))))))))))
 refine TL.bld [.int .i64 0,.int .i64 0,.int .i64 0,.nilIface,.int .i64 0,.int .i64 0] [(.agg _)] [_,_,_,_,_,_] zpL zsM ⟨rfl,trivial⟩ ⟨rfl,rfl⟩ rfl rfl (TL.alloc 3 (cs:=#[.int .i64 0,.int .i64 0,.int .i64 0,.nilIface,.int .i64 0,.int .i64 0]) zpL rfl rfl rfl (fun _=>trivial) (fun bk3=>(TL.stW 3 6 [_,_,_,_,_,_] rfl rfl rfl rfl rfl rfl zdA rfl rfl trivial (dA (xL6 3 zdA rfl rfl (xL3 0 zaa rfl rfl (xmc rfl (TL.bld [.int .i64 0,.int .i64 0,.int .i64 0,.nilIface] [(.agg _),(.iface _ _)] [_,_,_,_] zsE zsL ⟨rfl,rfl,trivial⟩ ⟨rfl,rfl⟩ rfl rfl ?_))))))))
 refine TL.bld [.int .i64 0,.int .i64 0,.int .i64 0,.nilIface,.int .i64 0,.int .i64 0,.int .i64 0,.int .i64 0,.int .i64 0,.nilIface] [(.agg _),(.agg _)] [_,_,_,_,_,_,_,_,_,_] zsD zsK ⟨rfl,rfl,trivial⟩ ⟨rfl,rfl⟩ rfl rfl (TL.bld [.int .i64 0,.int .i64 0,.int .i64 0,.nilIface,.int .i64 0,.int .i64 0,.int .i64 0,.int .i64 0,.int .i64 0,.nilIface] [(.agg _)] [_,_,_,_,_,_,_,_,_,_] zsC zsJ ⟨rfl,trivial⟩ ⟨rfl,rfl⟩ rfl rfl (TL.bld [.int .i64 0,.int .i64 0,.int .i64 0,.nilIface,.int .i64 0,.int .i64 0,.int .i64 0,.int .i64 0,.int .i64 0,.nilIface] [(.agg _)] [_,_,_,_,_,_,_,_,_,_] zm4 zsI ⟨rfl,trivial⟩ ⟨rfl,rfl⟩ rfl rfl ?_))
 refine TL.stW 2 10 [_,_,_,_,_,_,_,_,_,_] rfl rfl rfl rfl rfl rfl zdk rfl rfl trivial (dR ?_)
 refine FQ.retG (rs:=[.cell 6 49]) [(.agg _)] (Bs:=[]) [] rfl ⟨⟨_,_,_,_,_,2,rfl,rfl,.inr ⟨10,[_,_,_,_,_,_,_,_,_,_],zdk,rfl,rfl⟩⟩,trivial⟩ rfl rfl trivial ?_
 exact ⟨rfl,rfl⟩
theorem zmI {S:Type} [MemLike S] {mt:TypeId} {mv:Value} {A:S→Assn} (hM:MemI Tryz.prog mt mv A) {l:Lay} (hl:l.Ok) {p:Pen} {σ:S} {u v:Int} {b:Bool} {k:Nat} {σ2:S} (h:same l k σ 0 u v=some (b,σ2)):FnD Tryz.prog 42 [adjV l mt mv p,.int .i64 u,.int .i64 v] [A σ] (.bool b) [A σ2]:=by
 refine Fn.enter (Tryz.func42) rfl rfl (fun w0 R=>?_)
 refine sA (xB 1 rfl (fun bk1=>(xaf rfl (dA (xf 0 zcA rfl (xf 0 zbn rfl (xf 0 zcB rfl (xL6 1 zdA rfl rfl (xmi rfl ?_)))))))))
 refine xmi rfl (TL.callD [0] [0] (zqD hM hl h) ⟨rfl,rfl,rfl,rfl,trivial⟩ ⟨rfl,trivial⟩ zrN rfl rfl rfl rfl rfl trivial (xab rfl (dR ?_)))
 refine FQ.ret1 (v:=(.bool _)) (Bs:=[A _]) [0] rfl rfl rfl ⟨rfl,trivial⟩ ?_
 exact ⟨rfl,rfl⟩
theorem zlm {S:Type} [MemLike S] {mt:TypeId} {mv:Value} {A:S→Assn} (hM:MemI Tryz.prog mt mv A) {l:Lay} (hl:l.Ok) {p:Pen} {σ:S} {s u v:Int} {b:Bool} {k:Nat} {σ2:S} (h:zdr l p k σ s u v=some (b,σ2)):FnD Tryz.prog 74 [adjV l mt mv p,.int .i64 s,.int .i64 u,.int .i64 v] [A σ] (.bool b) [A σ2]:=by
 unfold zdr at h
 obtain ⟨⟨j,σ1⟩,h1,h⟩:=Option.bind_eq_some_iff.1 h
 dsimp only at h
 refine Fn.enter (Tryz.func74) rfl rfl (fun w0 R=>?_)
 refine sA (xB 1 rfl (fun bk1=>(xaf rfl (dA (xL10 1 zdk rfl rfl (xmi rfl (xmi rfl (TL.callD [0] [0] (zmI hM hl h1) ⟨rfl,rfl,rfl,trivial⟩ ⟨rfl,trivial⟩ zs2 rfl rfl rfl rfl rfl trivial (xab rfl ?_)))))))))
 refine dA (xf 0 zcA rfl (xf 0 zbn rfl (xf 6 za1 rfl (xL4 1 zcZ rfl rfl (xmi rfl (xmi rfl (xmi rfl (TL.callD [0] [0] (zrP hM hl) ⟨rfl,rfl,rfl,rfl,rfl,rfl,trivial⟩ ⟨rfl,trivial⟩ zrJ rfl rfl rfl rfl rfl trivial ?_))))))))
 refine dB (xmb rfl (TL.cases rfl (fun q1=>?_) (fun q1=>?_)))
 refine TL.done (TQ.then (TC.condT rfl (TC.region (xf 0 zcA rfl (xf 0 zbn rfl (xL10 1 za6 rfl rfl (xmi rfl ?_)))))))
 rw [if_pos (by simpa using q1)] at h
 obtain ⟨σ3,h2,h3⟩:=Option.bind_eq_some_iff.1 h
 cases h3
 refine TL.callD [0] [0] (zof hM hl h2) ⟨rfl,rfl,trivial⟩ ⟨rfl,trivial⟩ zrI rfl rfl rfl rfl rfl trivial (dA (xmb rfl (TL.not _ _ rfl rfl rfl rfl (xab rfl (dR ?_)))))
 refine FQ.ret1 (v:=(.bool _)) (Bs:=[A _]) [0] rfl rfl rfl ⟨rfl,trivial⟩ ?_
 first | exact ⟨by rw [q1]; rfl,rfl⟩ | exact ⟨by simp [*],rfl⟩
 refine TL.done (TQ.then (TC.condF rfl (TC.region (xf 0 zcA rfl (xL10 1 ziP rfl rfl (xmi rfl ?_))))))
 rw [if_neg (by simpa using q1)] at h
 obtain ⟨σ3,h2,h3⟩:=Option.bind_eq_some_iff.1 h
 cases h3
 refine TL.callD [0] [0] (zoM hM hl h2) ⟨rfl,rfl,trivial⟩ ⟨rfl,trivial⟩ zrH rfl rfl rfl rfl rfl trivial (dA (xmb rfl (TL.not _ _ rfl rfl rfl rfl (xab rfl (dR ?_)))))
 refine FQ.ret1 (v:=(.bool _)) (Bs:=[A _]) [0] rfl rfl rfl ⟨rfl,trivial⟩ ?_
 first | exact ⟨by rw [q1]; rfl,rfl⟩ | exact ⟨by simp [*],rfl⟩
theorem at_Li {ab mb N cap:Nat} {c:Cnt} {i:Int} (h0:0≤i) (h1:i<N):FnD Tryz.prog 89 [.pointer (some ⟨ab,0,none⟩),.int .i64 i,.pointer (some ⟨ab,1,none⟩)] [arO ab mb (N) cap 140 c] (.pointer (some ⟨mb,0+i.toNat * 1,none⟩)) [arO ab mb (N) cap 140 c.ld]:=by
 refine Fn.enter (Tryz.func89) rfl rfl (fun w0 R=>?_)
 refine sA (TL.asg (.pointer none) rfl rfl rfl (dB (xmi rfl (TL.lssF rfl rfl (by omega) rfl rfl (xmf rfl (xmi rfl (xmp rfl (xN0 rfl ?_))))))))
 refine xf 0 zaz rfl (xls 0 zbO rfl rfl (xz zal rfl (TL.geqF rfl rfl (by omega) rfl rfl (xpF rfl (dF rfl (xmp rfl (xN0 rfl (xli 0 zaf rfl rfl ?_))))))))
 refine TL.add _ rfl rfl (rfl) rfl rfl (xN0 rfl (TL.st 0 #[_,_,_,_,_,_] (.int _ _) rfl rfl rfl rfl rfl rfl zaf rfl rfl trivial (dA (xmp rfl (xN0 rfl (xf 0 zaz rfl (xls 0 zbO rfl rfl (xmi rfl ?_))))))))
 refine TL.ia _ rfl rfl zal (by omega) (by omega) rfl rfl rfl (xap rfl (dR ?_))
 refine FQ.ret1 (v:=(.pointer (some ⟨_,_,none⟩))) (Bs:=[_]) [0] rfl rfl rfl ⟨rfl,trivial⟩ ?_
 exact ⟨rfl,rfl⟩
theorem at_Si {ab mb N cap:Nat} {c:Cnt} {i:Int} (h0:0≤i) (h1:i<N):FnD Tryz.prog 89 [.pointer (some ⟨ab,0,none⟩),.int .i64 i,.pointer (some ⟨ab,2,none⟩)] [arO ab mb (N) cap 140 c] (.pointer (some ⟨mb,0+i.toNat * 1,none⟩)) [arO ab mb (N) cap 140 c.st]:=by
 refine Fn.enter (Tryz.func89) rfl rfl (fun w0 R=>?_)
 refine sA (TL.asg (.pointer none) rfl rfl rfl (dB (xmi rfl (TL.lssF rfl rfl (by omega) rfl rfl (xmf rfl (xmi rfl (xmp rfl (xN0 rfl ?_))))))))
 refine xf 0 zaz rfl (xls 0 zbO rfl rfl (xz zal rfl (TL.geqF rfl rfl (by omega) rfl rfl (xpF rfl (dF rfl (xmp rfl (xN0 rfl (xli 0 zaf rfl rfl ?_))))))))
 refine TL.add _ rfl rfl (rfl) rfl rfl (xN0 rfl (TL.st 0 #[_,_,_,_,_,_] (.int _ _) rfl rfl rfl rfl rfl rfl zaf rfl rfl trivial (dA (xmp rfl (xN0 rfl (xf 0 zaz rfl (xls 0 zbO rfl rfl (xmi rfl ?_))))))))
 refine TL.ia _ rfl rfl zal (by omega) (by omega) rfl rfl rfl (xap rfl (dR ?_))
 refine FQ.ret1 (v:=(.pointer (some ⟨_,_,none⟩))) (Bs:=[_]) [0] rfl rfl rfl ⟨rfl,trivial⟩ ?_
 exact ⟨rfl,rfl⟩
theorem at_Xi {ab mb N cap:Nat} {c:Cnt} {i:Int} (h0:0≤i) (h1:i<N):FnD Tryz.prog 89 [.pointer (some ⟨ab,0,none⟩),.int .i64 i,.pointer (some ⟨ab,3,none⟩)] [arO ab mb (N) cap 140 c] (.pointer (some ⟨mb,0+i.toNat * 1,none⟩)) [arO ab mb (N) cap 140 c.sw]:=by
 refine Fn.enter (Tryz.func89) rfl rfl (fun w0 R=>?_)
 refine sA (TL.asg (.pointer none) rfl rfl rfl (dB (xmi rfl (TL.lssF rfl rfl (by omega) rfl rfl (xmf rfl (xmi rfl (xmp rfl (xN0 rfl ?_))))))))
 refine xf 0 zaz rfl (xls 0 zbO rfl rfl (xz zal rfl (TL.geqF rfl rfl (by omega) rfl rfl (xpF rfl (dF rfl (xmp rfl (xN0 rfl (xli 0 zaf rfl rfl ?_))))))))
 refine TL.add _ rfl rfl (rfl) rfl rfl (xN0 rfl (TL.st 0 #[_,_,_,_,_,_] (.int _ _) rfl rfl rfl rfl rfl rfl zaf rfl rfl trivial (dA (xmp rfl (xN0 rfl (xf 0 zaz rfl (xls 0 zbO rfl rfl (xmi rfl ?_))))))))
 refine TL.ia _ rfl rfl zal (by omega) (by omega) rfl rfl rfl (xap rfl (dR ?_))
 refine FQ.ret1 (v:=(.pointer (some ⟨_,_,none⟩))) (Bs:=[_]) [0] rfl rfl rfl ⟨rfl,trivial⟩ ?_
 exact ⟨rfl,rfl⟩
theorem at_Mi {ab mb N cap:Nat} {c:Cnt} {i:Int} (h0:0≤i) (h1:i<N):FnD Tryz.prog 89 [.pointer (some ⟨ab,0,none⟩),.int .i64 i,.pointer (some ⟨ab,4,none⟩)] [arO ab mb (N) cap 140 c] (.pointer (some ⟨mb,0+i.toNat * 1,none⟩)) [arO ab mb (N) cap 140 c.ms]:=by
 refine Fn.enter (Tryz.func89) rfl rfl (fun w0 R=>?_)
 refine sA (TL.asg (.pointer none) rfl rfl rfl (dB (xmi rfl (TL.lssF rfl rfl (by omega) rfl rfl (xmf rfl (xmi rfl (xmp rfl (xN0 rfl ?_))))))))
 refine xf 0 zaz rfl (xls 0 zbO rfl rfl (xz zal rfl (TL.geqF rfl rfl (by omega) rfl rfl (xpF rfl (dF rfl (xmp rfl (xN0 rfl (xli 0 zaf rfl rfl ?_))))))))
 refine TL.add _ rfl rfl (rfl) rfl rfl (xN0 rfl (TL.st 0 #[_,_,_,_,_,_] (.int _ _) rfl rfl rfl rfl rfl rfl zaf rfl rfl trivial (dA (xmp rfl (xN0 rfl (xf 0 zaz rfl (xls 0 zbO rfl rfl (xmi rfl ?_))))))))
 refine TL.ia _ rfl rfl zal (by omega) (by omega) rfl rfl rfl (xap rfl (dR ?_))
 refine FQ.ret1 (v:=(.pointer (some ⟨_,_,none⟩))) (Bs:=[_]) [0] rfl rfl rfl ⟨rfl,trivial⟩ ?_
 exact ⟨rfl,rfl⟩
theorem at_o {ab mb N cap k:Nat} {c:Cnt} {i:Int} (h:¬(0≤i∧i<N)):FnD Tryz.prog 89 [.pointer (some ⟨ab,0,none⟩),.int .i64 i,.pointer (some ⟨ab,k,none⟩)] [arO ab mb (N) cap 140 c] (.pointer none) [arO ab mb (N) cap 140 c]:=by
 refine Fn.enter (Tryz.func89) rfl rfl (fun w0 R=>?_)
 refine sA (TL.asg (.pointer none) rfl rfl rfl (dB (xmi rfl (TL.lss rfl rfl rfl rfl (fun q1=>?_) (fun q1=>?_)))))
 refine xmt rfl (xo rfl (xo rfl (xo rfl (xo rfl (xo rfl (xo rfl (xo rfl (xpT rfl ?_))))))))
 refine dT rfl (TL.asg (.pointer none) rfl rfl rfl (dRR ?_))
 refine FQ.ret1 (v:=(.pointer none)) (Bs:=[_]) [0] rfl rfl rfl ⟨rfl,trivial⟩ ?_
 exact ⟨rfl,rfl⟩
 refine xmf rfl (xmi rfl (xmp rfl (xN0 rfl (xf 0 zaz rfl (xls 0 zbO rfl rfl (xz zal rfl (TL.geq rfl rfl rfl rfl (fun q2=>?_) (fun q2=>?_))))))))
 refine xpH rfl (dT rfl (TL.asg (.pointer none) rfl rfl rfl (dRR ?_)))
 refine FQ.ret1 (v:=(.pointer none)) (Bs:=[_]) [0] rfl rfl rfl ⟨rfl,trivial⟩ ?_
 exact ⟨rfl,rfl⟩
 refine xpF rfl (TL.done (TQ.then (TC.condF rfl (TC.skip (TQ.then (TC.seq ?_))))))
 exact absurd (by omega:False) id
theorem zr5 {ab mb cap:Nat} {rs:Array Value} {σ:Array UInt64} {c:Cnt} {i:Int} (h0:0≤i) (h1:i<σ.size):FnD Tryz.prog 31 [.pointer (some ⟨ab,0,none⟩),.int .i64 i] [arO ab mb (σ.size) cap 140 c,pt mb (.cells (encM (σ)++rs) 71)] (.tuple #[.int .u64 (MemLike.get σ i),.int .i64 0]) [arO ab mb (σ.size) cap 140 c.ld,pt mb (.cells (encM (σ)++rs) 71)]:=by
 refine Fn.enter (Tryz.func31) rfl rfl (fun w0 R=>?_)
 refine sA (xai rfl (xai rfl (dA (xmp rfl (xmi rfl (xmp rfl (xN0 rfl (xf 1 za4 rfl ?_))))))))
 refine xf 0 zd6 rfl (TL.callD [0] [0] (at_Li h0 h1) ⟨rfl,rfl,rfl,trivial⟩ ⟨rfl,trivial⟩ zek rfl rfl rfl rfl rfl trivial (xap rfl (dB (xmp rfl (TL.nilP false rfl rfl zc5 rfl rfl rfl (dF rfl (xmp rfl (xN0 rfl ?_))))))))
 refine TL.ldM 1 rfl rfl (by omega) (by omega) zdF rfl rfl (xai rfl (xai rfl (dR ?_)))
 refine FQ.ret2 (v:=(.int _ _)) (x:=(.int _ _)) (Bs:=[_,_]) [0,1] rfl rfl rfl rfl ⟨rfl,rfl,trivial⟩ ?_
 exact ⟨rfl,rfl⟩
theorem zr4 {ab mb cap:Nat} {rs:Array Value} {σ:Array UInt64} {c:Cnt} {i:Int} (h:¬(0≤i∧i<σ.size)):FnD Tryz.prog 31 [.pointer (some ⟨ab,0,none⟩),.int .i64 i] [arO ab mb (σ.size) cap 140 c,pt mb (.cells (encM (σ)++rs) 71)] (.tuple #[.int .u64 (MemLike.get σ i),.int .i64 20]) [arO ab mb (σ.size) cap 140 c,pt mb (.cells (encM (σ)++rs) 71)]:=by
 refine Fn.enter (Tryz.func31) rfl rfl (fun w0 R=>?_)
 refine sA (xai rfl (xai rfl (dA (xmp rfl (xmi rfl (xmp rfl (xN0 rfl (xf 1 za4 rfl ?_))))))))
 refine xf 0 zd6 rfl (TL.callD [0] [0] (at_o h) ⟨rfl,rfl,rfl,trivial⟩ ⟨rfl,trivial⟩ zek rfl rfl rfl rfl rfl trivial (TL.asg (.pointer none) rfl rfl rfl (dB (TL.mv (.pointer none) rfl rfl rfl (TL.nilP true rfl rfl zc5 rfl rfl rfl (dT rfl (xai rfl (xai rfl ?_))))))))
 refine dRR ?_
 refine FQ.ret2 (v:=(.int _ _)) (x:=(.int _ _)) (Bs:=[_,_]) [0,1] rfl rfl rfl rfl ⟨rfl,rfl,trivial⟩ ?_
 exact ⟨by rw [zfb,if_neg h],rfl⟩
theorem zpx {ab mb cap:Nat} {rs:Array Value} {σ:Array UInt64} {c:Cnt} {i:Int} (h0:0≤i) (h1:i<σ.size) {y:Int} (hv:0≤y∧y<18446744073709551616):FnD Tryz.prog 55 [.pointer (some ⟨ab,0,none⟩),.int .i64 i,.int .u64 y] [arO ab mb (σ.size) cap 140 c,pt mb (.cells (encM (σ)++rs) 71)] (.int .i64 0) [arO ab mb (σ.size) cap 140 c.st,pt mb (.cells (encM (MemLike.st σ i y)++rs) 71)]:=by
 refine Fn.enter (Tryz.func55) rfl rfl (fun w0 R=>?_)
 refine sA (xai rfl (dA (xmp rfl (xmi rfl (xmp rfl (xN0 rfl (xf 1 za4 rfl (xf 1 zd5 rfl ?_))))))))
 refine TL.callD [0] [0] (at_Si h0 h1) ⟨rfl,rfl,rfl,trivial⟩ ⟨rfl,trivial⟩ zek rfl rfl rfl rfl rfl trivial (xap rfl (dB (xmp rfl (TL.nilP false rfl rfl zc5 rfl rfl rfl (dF rfl (xmp rfl (xmi rfl (xN0 rfl ?_))))))))
 refine TL.stM 1 rfl rfl rfl (by omega) (by omega) (by omega) zdF rfl rfl trivial (dA (xai rfl (dR ?_)))
 refine FQ.ret1 (v:=(.int _ _)) (Bs:=[_,_]) [0,1] rfl rfl rfl ⟨rfl,rfl,trivial⟩ ?_
 exact ⟨rfl,rfl⟩
theorem zpw {ab mb cap:Nat} {rs:Array Value} {σ:Array UInt64} {c:Cnt} {i:Int} (h:¬(0≤i∧i<σ.size)) {y:Int} (hv:0≤y∧y<18446744073709551616):FnD Tryz.prog 55 [.pointer (some ⟨ab,0,none⟩),.int .i64 i,.int .u64 y] [arO ab mb (σ.size) cap 140 c,pt mb (.cells (encM (σ)++rs) 71)] (.int .i64 20) [arO ab mb (σ.size) cap 140 c,pt mb (.cells (encM (MemLike.st σ i y)++rs) 71)]:=by
 have hst:(MemLike.st σ i y:Array UInt64)=σ:=by rw [zlG,if_neg h]
 refine Fn.enter (Tryz.func55) rfl rfl (fun w0 R=>?_)
 refine sA (xai rfl (dA (xmp rfl (xmi rfl (xmp rfl (xN0 rfl (xf 1 za4 rfl (xf 1 zd5 rfl ?_))))))))
 refine TL.callD [0] [0] (at_o h) ⟨rfl,rfl,rfl,trivial⟩ ⟨rfl,trivial⟩ zek rfl rfl rfl rfl rfl trivial (TL.asg (.pointer none) rfl rfl rfl (dB (TL.mv (.pointer none) rfl rfl rfl (TL.nilP true rfl rfl zc5 rfl rfl rfl (dT rfl (xai rfl (dRR ?_)))))))
 refine FQ.ret1 (v:=(.int _ _)) (Bs:=[_,_]) [0,1] rfl rfl rfl ⟨rfl,rfl,trivial⟩ ?_
 exact ⟨rfl,by rw [hst]⟩
theorem zr3 {ab mb cap:Nat} {rs:Array Value} {σ:Array UInt64} {c:Cnt} {i:Int} (h0:0≤i) (h1:i<σ.size) {z:Int} (hz:0≤z∧z<18446744073709551616) {y:Int} (hv:0≤y∧y<18446744073709551616) (h2:MemLike.get σ i=z):FnD Tryz.prog 118 [.pointer (some ⟨ab,0,none⟩),.int .i64 i,.int .u64 z,.int .u64 y] [arO ab mb (σ.size) cap 140 c,pt mb (.cells (encM (σ)++rs) 71)] (.tuple #[.bool true,.int .i64 0]) [arO ab mb (σ.size) cap 140 c.sw,pt mb (.cells (encM (MemLike.st σ i y)++rs) 71)]:=by
 refine Fn.enter (Tryz.func118) rfl rfl (fun w0 R=>?_)
 refine sA (xaf rfl (xai rfl (dA (xmp rfl (xN0 rfl (xf 1 za4 rfl (xf 3 zdh rfl (xap rfl ?_))))))))
 refine dB (xmi rfl (TL.geqT rfl rfl (by omega) rfl rfl (xmt rfl (xmi rfl (xmp rfl (xN0 rfl (xf 0 zaz rfl (TL.ld 0 (.slice (some ⟨_,_,none⟩) _ _) rfl rfl rfl zbO rfl rfl ?_))))))))
 refine xz zal rfl (TL.lssT rfl rfl (by omega) rfl rfl (xpT rfl (xmt rfl (xmp rfl (xN0 rfl (xf 0 zaz rfl (TL.ld 0 (.slice (some ⟨_,_,none⟩) _ _) rfl rfl rfl zbO rfl rfl (xmi rfl ?_))))))))
 refine TL.ia _ rfl rfl zal (by omega) (by omega) rfl rfl rfl (TL.ldM 1 rfl rfl (by omega) (by omega) zdF rfl rfl (xmi rfl (TL.eqlT rfl rfl h2 rfl rfl (xpT rfl (TL.done (TQ.then (TC.condT rfl (TC.region ?_))))))))
 refine xmp rfl (xN0 rfl (xf 1 za4 rfl (xf 2 zd4 rfl (xap rfl (dA (xmp rfl (xmi rfl (xmp rfl ?_))))))))
 refine TL.callD [0] [0] (at_Xi h0 h1) ⟨rfl,rfl,rfl,trivial⟩ ⟨rfl,trivial⟩ zek rfl rfl rfl rfl rfl trivial (xap rfl (dB (xmp rfl (TL.nilP false rfl rfl zc5 rfl rfl rfl (TL.done (TQ.then (TC.condF rfl (TC.skip ?_))))))))
 refine TQ.then (sB (xmp rfl (xN0 rfl (TL.ldM 1 rfl rfl (by omega) (by omega) zdF rfl rfl (xmi rfl (TL.neqF rfl rfl (fun h=>h h2) rfl rfl (dF rfl (xmp rfl ?_))))))))
 refine xmi rfl (xN0 rfl (TL.stM 1 rfl rfl rfl (by omega) (by omega) (by omega) zdF rfl rfl trivial (dA (xat rfl (xai rfl (dR ?_))))))
 refine FQ.ret2 (v:=(.bool true)) (x:=(.int _ _)) (Bs:=[_,_]) [0,1] rfl rfl rfl rfl ⟨rfl,rfl,trivial⟩ ?_
 exact ⟨rfl,rfl⟩
theorem zr2 {ab mb cap:Nat} {rs:Array Value} {σ:Array UInt64} {c:Cnt} {i:Int} (h0:0≤i) (h1:i<σ.size) {z:Int} (hz:0≤z∧z<18446744073709551616) {y:Int} (hv:0≤y∧y<18446744073709551616) (h2:MemLike.get σ i≠z):FnD Tryz.prog 118 [.pointer (some ⟨ab,0,none⟩),.int .i64 i,.int .u64 z,.int .u64 y] [arO ab mb (σ.size) cap 140 c,pt mb (.cells (encM (σ)++rs) 71)] (.tuple #[.bool false,.int .i64 0]) [arO ab mb (σ.size) cap 140 c.ms,pt mb (.cells (encM (σ)++rs) 71)]:=by
 refine Fn.enter (Tryz.func118) rfl rfl (fun w0 R=>?_)
 refine sA (xaf rfl (xai rfl (dA (xmp rfl (xN0 rfl (xf 1 za4 rfl (xf 3 zdh rfl (xap rfl ?_))))))))
 refine dB (xmi rfl (TL.geqT rfl rfl (by omega) rfl rfl (xmt rfl (xmi rfl (xmp rfl (xN0 rfl (xf 0 zaz rfl (TL.ld 0 (.slice (some ⟨_,_,none⟩) _ _) rfl rfl rfl zbO rfl rfl ?_))))))))
 refine xz zal rfl (TL.lssT rfl rfl (by omega) rfl rfl (xpT rfl (xmt rfl (xmp rfl (xN0 rfl (xf 0 zaz rfl (TL.ld 0 (.slice (some ⟨_,_,none⟩) _ _) rfl rfl rfl zbO rfl rfl (xmi rfl ?_))))))))
 refine TL.ia _ rfl rfl zal (by omega) (by omega) rfl rfl rfl (TL.ldM 1 rfl rfl (by omega) (by omega) zdF rfl rfl (xmi rfl (TL.eqlF rfl rfl h2 rfl rfl (xpG rfl (dF rfl (xmp rfl (xmi rfl (xmp rfl ?_))))))))
 refine TL.callD [0] [0] (at_Mi h0 h1) ⟨rfl,rfl,rfl,trivial⟩ ⟨rfl,trivial⟩ zek rfl rfl rfl rfl rfl trivial (xap rfl (dB (xmp rfl (TL.nilP false rfl rfl zc5 rfl rfl rfl (TL.done (TQ.then (TC.condF rfl (TC.skip ?_))))))))
 refine TQ.then (sB (xmp rfl (xN0 rfl (TL.ldM 1 rfl rfl (by omega) (by omega) zdF rfl rfl (xmi rfl (TL.neqT rfl rfl h2 rfl rfl (dT rfl (xaf rfl ?_))))))))
 refine xai rfl (dRR ?_)
 refine FQ.ret2 (v:=(.bool false)) (x:=(.int _ _)) (Bs:=[_,_]) [0,1] rfl rfl rfl rfl ⟨rfl,rfl,trivial⟩ ?_
 exact ⟨rfl,rfl⟩
theorem zr1 {ab mb cap:Nat} {rs:Array Value} {σ:Array UInt64} {c:Cnt} {i:Int} (h:¬(0≤i∧i<σ.size)) {z:Int} (hz:0≤z∧z<18446744073709551616) {y:Int} (hv:0≤y∧y<18446744073709551616):FnD Tryz.prog 118 [.pointer (some ⟨ab,0,none⟩),.int .i64 i,.int .u64 z,.int .u64 y] [arO ab mb (σ.size) cap 140 c,pt mb (.cells (encM (σ)++rs) 71)] (.tuple #[.bool false,.int .i64 20]) [arO ab mb (σ.size) cap 140 c,pt mb (.cells (encM (σ)++rs) 71)]:=by
 refine Fn.enter (Tryz.func118) rfl rfl (fun w0 R=>?_)
 refine sA (xaf rfl (xai rfl (dA (xmp rfl (xN0 rfl (xf 1 za4 rfl (xf 3 zdh rfl (xap rfl ?_))))))))
 refine dB (xmi rfl (TL.geq rfl rfl rfl rfl (fun q1=>?_) (fun q1=>?_)))
 refine xmt rfl (xmi rfl (xmp rfl (xN0 rfl (xf 0 zaz rfl (TL.ld 0 (.slice (some ⟨_,_,none⟩) _ _) rfl rfl rfl zbO rfl rfl (xz zal rfl (TL.lss rfl rfl rfl rfl (fun q2=>?_) (fun q2=>?_))))))))
 refine xpT rfl (xmt rfl (xmp rfl (xN0 rfl (xf 0 zaz rfl (TL.ld 0 (.slice (some ⟨_,_,none⟩) _ _) rfl rfl rfl zbO rfl rfl (xmi rfl (TL.ia _ rfl rfl zal (by omega) (by omega) rfl rfl rfl (TL.ldM 1 rfl rfl (by omega) (by omega) zdF rfl rfl ?_))))))))
 refine xmi rfl (TL.eql rfl rfl rfl rfl (fun q3=>?_) (fun q3=>?_))
 refine xpT rfl (TL.done (TQ.then (TC.condT rfl (TC.region (xmp rfl (xN0 rfl (xf 1 za4 rfl (xf 2 zd4 rfl ?_))))))))
 refine xap rfl (dA (xmp rfl (xmi rfl (xmp rfl (TL.callD [0] [0] (at_o h) ⟨rfl,rfl,rfl,trivial⟩ ⟨rfl,trivial⟩ zek rfl rfl rfl rfl rfl trivial (TL.asg (.pointer none) rfl rfl rfl (dB (TL.mv (.pointer none) rfl rfl rfl ?_))))))))
 refine TL.nilP true rfl rfl zc5 rfl rfl rfl (dT rfl (xaf rfl (xai rfl (dRR ?_))))
 refine FQ.ret2 (v:=(.bool false)) (x:=(.int _ _)) (Bs:=[_,_]) [0,1] rfl rfl rfl rfl ⟨rfl,rfl,trivial⟩ ?_
 exact ⟨rfl,rfl⟩
 refine xpG rfl (dF rfl (xmp rfl (xmi rfl (xmp rfl (TL.callD [0] [0] (at_o h) ⟨rfl,rfl,rfl,trivial⟩ ⟨rfl,trivial⟩ zek rfl rfl rfl rfl rfl trivial (TL.asg (.pointer none) rfl rfl rfl (dB (TL.mv (.pointer none) rfl rfl rfl ?_))))))))
 refine TL.nilP true rfl rfl zc5 rfl rfl rfl (dT rfl (xaf rfl (xai rfl (dRR ?_))))
 refine FQ.ret2 (v:=(.bool false)) (x:=(.int _ _)) (Bs:=[_,_]) [0,1] rfl rfl rfl rfl ⟨rfl,rfl,trivial⟩ ?_
 exact ⟨rfl,rfl⟩
 refine xpG rfl (xmf rfl (xo rfl (xo rfl (xo rfl (xo rfl (xo rfl (xo rfl (xo rfl ?_))))))))
 refine xo rfl (xo rfl (xpF rfl (dF rfl (xmp rfl (xmi rfl (xmp rfl (TL.callD [0] [0] (at_o h) ⟨rfl,rfl,rfl,trivial⟩ ⟨rfl,trivial⟩ zek rfl rfl rfl rfl rfl trivial (TL.asg (.pointer none) rfl rfl rfl ?_))))))))
 refine dB (TL.mv (.pointer none) rfl rfl rfl (TL.nilP true rfl rfl zc5 rfl rfl rfl (dT rfl (xaf rfl (xai rfl (dRR ?_))))))
 refine FQ.ret2 (v:=(.bool false)) (x:=(.int _ _)) (Bs:=[_,_]) [0,1] rfl rfl rfl rfl ⟨rfl,rfl,trivial⟩ ?_
 exact ⟨rfl,rfl⟩
 refine xmf rfl (xo rfl (xo rfl (xo rfl (xo rfl (xo rfl (xo rfl (xo rfl (xpF rfl ?_))))))))
 refine xmf rfl (xo rfl (xo rfl (xo rfl (xo rfl (xo rfl (xo rfl (xo rfl (xo rfl ?_))))))))
 refine xo rfl (xpF rfl (dF rfl (xmp rfl (xmi rfl (xmp rfl (TL.callD [0] [0] (at_o h) ⟨rfl,rfl,rfl,trivial⟩ ⟨rfl,trivial⟩ zek rfl rfl rfl rfl rfl trivial (TL.asg (.pointer none) rfl rfl rfl (dB ?_))))))))
 refine TL.mv (.pointer none) rfl rfl rfl (TL.nilP true rfl rfl zc5 rfl rfl rfl (dT rfl (xaf rfl (xai rfl (dRR ?_)))))
 refine FQ.ret2 (v:=(.bool false)) (x:=(.int _ _)) (Bs:=[_,_]) [0,1] rfl rfl rfl rfl ⟨rfl,rfl,trivial⟩ ?_
 exact ⟨rfl,rfl⟩
theorem zgY {ab mb:Nat} {σ:Array UInt64} {c:Cnt} {i:Int}:FnD Tryz.prog 31 [.pointer (some ⟨ab,0,none⟩),.int .i64 i] [arenaC ab mb 140 71 (σ) (c)] (.tuple #[.int .u64 (MemLike.get σ i),.int .i64 (if 0≤i∧i<σ.size then 0 else 20)]) [arenaC ab mb 140 71 (σ) (cntL σ i c)]:=by
 unfold cntL
 by_cases h:0≤i∧i<σ.size
 ·rw [if_pos h,if_pos h]; exact Fn.arenaC rfl fun cap rs=>zr5 h.1 h.2
 ·rw [if_neg h,if_neg h]; exact Fn.arenaC rfl fun cap rs=>zr4 h
theorem zfA {ab mb:Nat} {σ:Array UInt64} {c:Cnt} {i v:Int} (hv:0≤v∧v<18446744073709551616):FnD Tryz.prog 55 [.pointer (some ⟨ab,0,none⟩),.int .i64 i,.int .u64 v] [arenaC ab mb 140 71 (σ) (c)] (.int .i64 (if 0≤i∧i<σ.size then 0 else 20)) [arenaC ab mb 140 71 (MemLike.st σ i v) (cntS σ i c)]:=by
 unfold cntS
 by_cases h:0≤i∧i<σ.size
 ·rw [if_pos h,if_pos h]; exact Fn.arenaC (zdC _ _ _) fun cap rs=>zpx h.1 h.2 hv
 ·rw [if_neg h,if_neg h]; exact Fn.arenaC (zdC _ _ _) fun cap rs=>zpw h hv
theorem zkX {ab mb:Nat} {σ:Array UInt64} {i:Int}:FnD Tryz.prog 31 [.pointer (some ⟨ab,0,none⟩),.int .i64 i] [zaA ab mb 140 71 (σ)] (.tuple #[.int .u64 (MemLike.get σ i),.int .i64 (if 0≤i∧i<σ.size then 0 else 20)]) [zaA ab mb 140 71 (σ)]:=Fn.arena fun _=>⟨_,zgY⟩
theorem zfa {ab mb:Nat} {σ:Array UInt64} {i v:Int} (hv:0≤v∧v<18446744073709551616):FnD Tryz.prog 55 [.pointer (some ⟨ab,0,none⟩),.int .i64 i,.int .u64 v] [zaA ab mb 140 71 (σ)] (.int .i64 (if 0≤i∧i<σ.size then 0 else 20)) [zaA ab mb 140 71 (MemLike.st σ i v)]:=Fn.arena fun _=>⟨_,zfA hv⟩
theorem zod {ab mb:Nat} {σ:Array UInt64} {c:Cnt} {i z y:Int} (h0:0≤i) (h1:i<σ.size) (h2:MemLike.get σ i=z) (hz:0≤z∧z<18446744073709551616) (hv:0≤y∧y<18446744073709551616):FnD Tryz.prog 118 [.pointer (some ⟨ab,0,none⟩),.int .i64 i,.int .u64 z,.int .u64 y] [arenaC ab mb 140 71 (σ) (c)] (.tuple #[.bool true,.int .i64 0]) [arenaC ab mb 140 71 (MemLike.st σ i y) (c.sw)] :=
 Fn.arenaC (zdC _ _ _) fun cap rs=>zr3 h0 h1 hz hv h2
theorem zlE {ab mb:Nat} {σ:Array UInt64} {c:Cnt} {i z y:Int} (h0:0≤i) (h1:i<σ.size) (h2:MemLike.get σ i≠z) (hz:0≤z∧z<18446744073709551616) (hv:0≤y∧y<18446744073709551616):FnD Tryz.prog 118 [.pointer (some ⟨ab,0,none⟩),.int .i64 i,.int .u64 z,.int .u64 y] [arenaC ab mb 140 71 (σ) (c)] (.tuple #[.bool false,.int .i64 0]) [arenaC ab mb 140 71 (σ) (c.ms)] :=
 Fn.arenaC rfl fun cap rs=>zr2 h0 h1 hz hv h2
theorem zoc {ab mb:Nat} {σ:Array UInt64} {c:Cnt} {i z y:Int} (h:¬(0≤i∧i<σ.size)) (hz:0≤z∧z<18446744073709551616) (hv:0≤y∧y<18446744073709551616):FnD Tryz.prog 118 [.pointer (some ⟨ab,0,none⟩),.int .i64 i,.int .u64 z,.int .u64 y] [arenaC ab mb 140 71 (σ) (c)] (.tuple #[.bool false,.int .i64 20]) [arenaC ab mb 140 71 (σ) (c)] :=
 Fn.arenaC rfl fun cap rs=>zr1 h hz hv
def zhD (σ:Array UInt64) (i z y:Int):Bool×Array UInt64:=if (0≤i∧i<σ.size)∧MemLike.get σ i=z then (true,MemLike.st σ i y) else (false,σ)
theorem zpk {ab mb:Nat} {σ:Array UInt64} {c:Cnt} {i z y:Int} (hz:0≤z∧z<18446744073709551616) (hv:0≤y∧y<18446744073709551616):FnD Tryz.prog 118 [.pointer (some ⟨ab,0,none⟩),.int .i64 i,.int .u64 z,.int .u64 y] [arenaC ab mb 140 71 (σ) (c)] (.tuple #[.bool (zhD σ i z y).1,.int .i64 (if 0≤i∧i<σ.size then 0 else 20)]) [arenaC ab mb 140 71 ((zhD σ i z y).2) (cntX σ i z c)]:=by
 unfold zhD cntX
 by_cases h:0≤i∧i<σ.size
 ·by_cases h2:MemLike.get σ i=z
  ·rw [if_pos ⟨h,h2⟩,if_pos h,if_pos h,if_pos h2]; exact zod h.1 h.2 h2 hz hv
  ·rw [if_neg (fun q=>h2 q.2),if_pos h,if_pos h,if_neg h2]; exact zlE h.1 h.2 h2 hz hv
 ·rw [if_neg (fun q=>h q.1),if_neg h,if_neg h]; exact zoc h hz hv
theorem zoL {ab mb:Nat} {σ:Array UInt64} {i:Int}:FnD Tryz.prog 214 [.agg #[.pointer (some ⟨ab,0,none⟩)],.int .i64 i] [zaA ab mb 140 71 (σ)] (.int .u64 (MemLike.get σ i)) [zaA ab mb 140 71 (σ)]:=by
 refine Fn.enter (Tryz.func214) rfl rfl (fun w0 R=>?_)
 refine sA (xB 1 rfl (fun bk1=>(xai rfl (dA (xf 0 zhm rfl (xlp 1 ze5 rfl rfl (xmi rfl (TL.callD [0] [0] zkX ⟨rfl,rfl,trivial⟩ ⟨rfl,trivial⟩ zkH rfl rfl rfl rfl rfl trivial (xmu rfl ?_)))))))))
 refine xei rfl rfl (xei rfl rfl (xai rfl (xai rfl (dA (xmi rfl (xai rfl (dR ?_)))))))
 refine FQ.ret1 (v:=(.int _ _)) (Bs:=[zaA ab mb 140 71 (σ)]) [0] rfl rfl rfl ⟨rfl,trivial⟩ ?_
 exact ⟨rfl,rfl⟩
theorem zml {ab mb:Nat} {σ:Array UInt64} {i:Int} {y:Int} (hv:0≤y∧y<18446744073709551616):FnD Tryz.prog 215 [.agg #[.pointer (some ⟨ab,0,none⟩)],.int .i64 i,.int .u64 y] [zaA ab mb 140 71 (σ)] (.tuple #[]) [zaA ab mb 140 71 (MemLike.st σ i y)]:=by
 refine Fn.enter (Tryz.func215) rfl rfl (fun w0 R=>?_)
 refine sA (xB 1 rfl (fun bk1=>(dG (xf 0 zhm rfl (xlp 1 ze5 rfl rfl (xmi rfl (xmi rfl (TL.callD [0] [0] (zfa hv) ⟨rfl,rfl,rfl,trivial⟩ ⟨rfl,trivial⟩ zhq rfl rfl rfl rfl rfl trivial (TL.done ?_)))))))))
 refine FQ.end0 (Bs:=[_]) [0] rfl rfl ⟨rfl,trivial⟩ ?_
 exact ⟨rfl,rfl⟩
theorem zdM {ab mb:Nat}:MemI (S:=Array UInt64) Tryz.prog 88 (.agg #[.pointer (some ⟨ab,0,none⟩)]) (zaA ab mb 140 71) :=
 ⟨⟨214,_,zkn (by kernel_rfl) (by kernel_rfl),fun _ _=>zoL⟩,⟨215,_,zkn (by kernel_rfl) (by kernel_rfl),fun _ _ _ hv=>zml hv⟩⟩
theorem zrZ {N:Nat} (hN:N≤16384):Go.Eng.Fn Tryz.prog 92 [.int .i64 ((N:Nat):Int)] [] (fun v Bs=>∃ ab mb,v=.tuple #[.pointer (some ⟨ab,0,none⟩),.int .i64 0]∧Bs=[arenaC ab mb 140 71 (Array.replicate N 0) (⟨0,0,0,0,0⟩)]):=by
 refine Fn.enter (Tryz.func92) rfl rfl (fun w0 R=>?_)
 refine sA (TL.asg (.pointer none) rfl rfl rfl (xai rfl (dB (xmi rfl (TL.lssF rfl rfl (by omega) rfl rfl (xmf rfl (xmi rfl (TL.gtrF rfl rfl (by omega) rfl rfl ?_))))))))
 refine xpF rfl (dF rfl (xmi rfl (TL.mkS 0 rfl rfl zgB zsy rfl (by omega) rfl rfl (fun bk0=>⟨trivial,?_⟩))))
 refine TL.bld [.slice none 0 0,.int .i64 0,.int .i64 0,.int .i64 0,.int .i64 0,.int .i64 0] [(.slice _ _ _)] [_,_,_,_,_,_] zm7 zna ⟨rfl,trivial⟩ ⟨rfl,rfl⟩ rfl rfl (xB 1 rfl (fun bk1=>(xap rfl (xai rfl (dR (TQ.conseq 0 (B:=pt _ (.cells (encM (Array.replicate N 0)++#[]) 71)) rfl (fun h hh=>by rw [←zpe,Array.append_empty]; exact hh) (TQ.arenaC 1 0 (N:=N) (c:=⟨0,0,0,0,0⟩) (by simp) rfl rfl (by decide) ?_)))))))
 refine FQ.ret2 (v:=(.pointer (some ⟨_,_,none⟩))) (x:=(.int _ _)) (Bs:=[_]) [1] rfl rfl rfl rfl ⟨rfl,trivial⟩ ?_
 exact ⟨_,_,rfl,rfl⟩
theorem zfV {ab:Nat}:FnD Tryz.prog 38 [.pointer (some ⟨ab,0,none⟩)] [] (.agg #[.pointer (some ⟨ab,0,none⟩)]) []:=by
 refine Fn.enter (Tryz.func38) rfl rfl (fun w0 R=>?_)
 refine sA (TL.alloc 0 (cs:=#[.pointer none]) zm1 rfl rfl rfl (fun _=>trivial) (fun bk0=>(dA (xmp rfl (TL.bld [.pointer none] [(.pointer (some ⟨_,_,none⟩))] [_] zm1 zsG ⟨rfl,trivial⟩ ⟨rfl,rfl⟩ rfl rfl (TL.stW 0 1 [_] rfl rfl rfl rfl rfl rfl zdz rfl rfl trivial (dR ?_)))))))
 refine FQ.retG (rs:=[.cell 2 88]) [(.agg _)] (Bs:=[]) [] rfl ⟨⟨_,_,_,_,_,0,rfl,rfl,.inr ⟨1,[_],zdz,rfl,rfl⟩⟩,trivial⟩ rfl rfl trivial ?_
 exact ⟨rfl,rfl⟩
theorem zr7 {x:Int}:FnD Tryz.prog 115 [.int .i64 x] [] (wdV (wofI x)) []:=by
 refine Fn.enter (Tryz.func115) rfl rfl (fun w0 R=>?_)
 refine sA (TL.alloc 0 (cs:=#[.int .i64 0,.int .i64 0,.int .i64 0,.int .i64 0]) zbi rfl rfl rfl (fun _=>trivial) (fun bk0=>(dA (xmi rfl (TL.max2 rfl rfl rfl rfl (TL.min2 rfl rfl rfl rfl (xai rfl (dA (xmi rfl ?_)))))))))
 refine xmi rfl (TL.bld [.int .i64 0,.int .i64 0,.int .i64 0,.int .i64 0] [(.int _ _),(.int _ _)] [_,_,_,_] zbi zfr ⟨rfl,rfl,trivial⟩ ⟨rfl,rfl⟩ rfl rfl (TL.stW 0 4 [_,_,_,_] rfl rfl rfl rfl rfl rfl zan rfl rfl trivial (dR ?_)))
 refine FQ.retG (rs:=[.cell 2 175]) [(.agg _)] (Bs:=[]) [] rfl ⟨⟨_,_,_,_,_,0,rfl,rfl,.inr ⟨4,[_,_,_,_],zan,rfl,rfl⟩⟩,trivial⟩ rfl rfl trivial ?_
 exact ⟨rfl,rfl⟩
theorem zqw {tag:Int} {dn:Bool} (h:0≤tag∧tag≤16777215):FnD Tryz.prog 133 [.int .i64 tag,.bool dn] [] (.tuple #[.int .u64 (zbo tag dn),.int .i64 0]) []:=by
 refine Fn.enter (Tryz.func133) rfl rfl (fun w0 R=>?_)
 refine sA (xai rfl (xai rfl (dB (xmi rfl (TL.callD [] [] zc6 ⟨rfl,rfl,trivial⟩ trivial zfu rfl rfl rfl rfl rfl trivial ?_)))))
 rw [decide_eq_true h]
 refine xnt rfl (dF rfl (xmi rfl (TL.conv _ rfl ze4 za0 (rfl) rfl rfl (TL.shl _ rfl rfl (by decide) rfl rfl rfl (xai rfl (dB (xmb rfl (TL.cases rfl (fun q1=>?_) (fun q1=>?_)))))))))
 refine TL.done (TQ.then (TC.condT rfl (TC.region (xmi rfl (TL.or _ rfl rfl rfl rfl rfl (xai rfl (dA (xmi rfl ?_))))))))
 refine xai rfl (xai rfl (dR ?_))
 refine FQ.ret2 (v:=(.int _ _)) (x:=(.int _ _)) (Bs:=[]) [] rfl rfl rfl rfl trivial ?_
 first | exact ⟨by unfold zbo; rw [if_pos q1]; rfl,rfl⟩ | exact ⟨by unfold zbo; rw [if_neg (by rw [q1]; decide)]; rfl,rfl⟩
 refine dF rfl (xmi rfl (xai rfl (xai rfl (dR ?_))))
 refine FQ.ret2 (v:=(.int _ _)) (x:=(.int _ _)) (Bs:=[]) [] rfl rfl rfl rfl trivial ?_
 first | exact ⟨by unfold zbo; rw [if_pos q1]; rfl,rfl⟩ | exact ⟨by unfold zbo; rw [if_neg (by rw [q1]; decide)]; rfl,rfl⟩
theorem zqv {tag:Int} {dn:Bool} (h:¬(0≤tag∧tag≤16777215)):FnD Tryz.prog 133 [.int .i64 tag,.bool dn] [] (.tuple #[.int .u64 0,.int .i64 11]) []:=by
 refine Fn.enter (Tryz.func133) rfl rfl (fun w0 R=>?_)
 refine sA (xai rfl (xai rfl (dB (xmi rfl (TL.callD [] [] zc6 ⟨rfl,rfl,trivial⟩ trivial zfu rfl rfl rfl rfl rfl trivial ?_)))))
 rw [decide_eq_false h]
 refine xnf rfl (dT rfl (xai rfl (xai rfl (dRR ?_))))
 refine FQ.ret2 (v:=(.int _ _)) (x:=(.int _ _)) (Bs:=[]) [] rfl rfl rfl rfl trivial ?_
 exact ⟨rfl,rfl⟩
theorem zsb {v:Int}:FnD Tryz.prog 159 [.int .u64 v] [] (.tuple #[.int .i64 (tagV v).1,.bool (tagV v).2.1,.int .i64 (if (tagV v).2.2=true then 0 else 21)]) []:=by
 refine Fn.enter (Tryz.func159) rfl rfl (fun w0 R=>?_)
 refine sA (xai rfl (xaf rfl (xai rfl (dB (xmi rfl (TL.shr _ rfl rfl (by decide) rfl rfl rfl (TL.gtr rfl rfl rfl rfl (fun q1=>?_) (fun q1=>?_))))))))
 refine dT rfl (xai rfl (xaf rfl (xai rfl (dRR ?_))))
 refine FQ.ret3 (v:=(.int _ _)) (x:=(.bool false)) (y:=(.int _ _)) (Bs:=[]) [] rfl rfl rfl rfl rfl trivial ?_
 have q:shrU v 1 > 16777215:=q1
 exact ⟨by unfold tagV; rw [if_pos q]; rfl,rfl⟩
 refine dF rfl (xmi rfl (TL.shr _ rfl rfl (by decide) rfl rfl rfl (TL.conv _ rfl zej zbF (rfl) rfl rfl (xmi rfl (TL.and _ rfl rfl rfl rfl rfl (TL.eqlV rfl rfl rfl rfl (xai rfl (xab rfl ?_))))))))
 refine xai rfl (dR ?_)
 refine FQ.ret3 (v:=(.int _ _)) (x:=(.bool _)) (y:=(.int _ _)) (Bs:=[]) [] rfl rfl rfl rfl rfl trivial ?_
 have q:¬(shrU v 1 > 16777215):=q1
 exact ⟨by unfold tagV; rw [if_neg q]; rfl,rfl⟩
theorem zlM {o m t g:Int} {tag:Int} {dn:Bool}:FnD Tryz.prog 160 [.agg #[.int .i64 o,.int .i64 m,.int .i64 t,.int .i64 g],.int .i64 tag,.bool dn] [] (.int .i64 (zei (⟨o,m,t,g⟩:Wd) tag dn)) []:=by
 refine Fn.enter (Tryz.func160) rfl rfl (fun w0 R=>?_)
 refine sA (xB 0 rfl (fun bk0=>(xai rfl (dB (xL4 0 zan rfl rfl (TL.callD [] [] zgk ⟨rfl,trivial⟩ trivial zjT rfl rfl rfl rfl rfl trivial (TL.casesP rfl (fun q1=>?_) (fun q1=>?_))))))))
 refine xmt rfl (xo rfl (xo rfl (xo rfl (xo rfl (xpT rfl (xmt rfl (xo rfl (xo rfl ?_))))))))
 refine xo rfl (xo rfl (xo rfl (xo rfl (xo rfl (xpT rfl (dT rfl (xf 1 zaT rfl (xli 0 zaf rfl rfl ?_))))))))
 refine xai rfl (dRR ?_)
 refine FQ.ret1 (v:=(.int _ _)) (Bs:=[]) [] rfl rfl rfl trivial ?_
 exact ⟨iE (by unfold zei; rw [if_pos (.inl q1)]),rfl⟩
 refine xmf rfl (xmi rfl (xf 3 zb7 rfl (xli 0 zaf rfl rfl (TL.gtr rfl rfl rfl rfl (fun q2=>?_) (fun q2=>?_)))))
 refine xpH rfl (xmt rfl (xo rfl (xo rfl (xo rfl (xo rfl (xo rfl (xo rfl (xo rfl ?_))))))))
 refine xpT rfl (dT rfl (xf 1 zaT rfl (xli 0 zaf rfl rfl (xai rfl (dRR ?_)))))
 refine FQ.ret1 (v:=(.int _ _)) (Bs:=[]) [] rfl rfl rfl trivial ?_
 exact ⟨iE (by unfold zei; rw [if_pos (.inr (.inl q2))]),rfl⟩
 refine xpF rfl (xmf rfl (xmi rfl (xf 3 zb7 rfl (xli 0 zaf rfl rfl (TL.eql rfl rfl rfl rfl (fun q3=>?_) (fun q3=>?_))))))
 refine xmt rfl (xmb rfl (TL.cases rfl (fun q4=>?_) (fun q4=>?_)))
 refine xpT rfl (xpH rfl (dT rfl (xf 1 zaT rfl (xli 0 zaf rfl rfl (xai rfl (dRR ?_))))))
 refine FQ.ret1 (v:=(.int _ _)) (Bs:=[]) [] rfl rfl rfl trivial ?_
 exact ⟨iE (by unfold zei; rw [if_pos (.inr (.inr ⟨q3,q4⟩))]),rfl⟩
 refine xpG rfl (xpF rfl (dF rfl (xf 0 za9 rfl (xli 0 zaf rfl rfl (xai rfl (dR ?_))))))
 refine FQ.ret1 (v:=(.int _ _)) (Bs:=[]) [] rfl rfl rfl trivial ?_
 exact ⟨iE (by unfold zei; rw [if_neg (fun h=>h.elim q1 (fun h=>h.elim q2 (fun h=>by have:=h.2; rw [q4] at this; cases this)))]),rfl⟩
 refine xmf rfl (xo rfl (xpF rfl (xpF rfl (dF rfl (xf 0 za9 rfl (xli 0 zaf rfl rfl (xai rfl (dR ?_))))))))
 refine FQ.ret1 (v:=(.int _ _)) (Bs:=[]) [] rfl rfl rfl trivial ?_
 exact ⟨iE (by unfold zei; rw [if_neg (fun h=>h.elim q1 (fun h=>h.elim q2 (fun h=>q3 h.1)))]),rfl⟩
theorem ziE {l:Lay} (hl:l.Ok) {t:Int}:FnD Tryz.prog 53 [layV l,.int .i64 t] [] (.int .i64 (l.state t)) []:=by
 have hb:=zaW hl
 refine Fn.enter (Tryz.func53) rfl rfl (fun w0 R=>?_)
 refine sA (xB 0 rfl (fun bk0=>(xai rfl (dB (xmi rfl (TL.sub _ rfl rfl (rfl) rfl rfl (xf 2 zdj rfl (xli 0 zaf rfl rfl (TL.callD [] [] zaX ⟨rfl,rfl,trivial⟩ trivial zbl rfl rfl rfl rfl rfl trivial ?_)))))))))
 refine TL.casesP rfl (fun q1=>?_) (fun q1=>?_)
 refine xnt rfl (dF rfl (xmi rfl (TL.sub _ rfl rfl (rfl) rfl rfl (xai rfl (dR ?_)))))
 refine FQ.ret1 (v:=(.int _ _)) (Bs:=[]) [] rfl rfl rfl trivial ?_
 first | exact ⟨iE (by unfold Lay.state; rw [if_pos (by omega)]),rfl⟩ | exact ⟨iE (by unfold Lay.state; rw [if_neg (by omega)]),rfl⟩
 refine xnf rfl (dT rfl (xai rfl (dRR ?_)))
 refine FQ.ret1 (v:=(.int _ _)) (Bs:=[]) [] rfl rfl rfl trivial ?_
 first | exact ⟨iE (by unfold Lay.state; rw [if_pos (by omega)]),rfl⟩ | exact ⟨iE (by unfold Lay.state; rw [if_neg (by omega)]),rfl⟩
theorem zkq {l:Lay} (hl:l.Ok) {s:Int}:FnD Tryz.prog 121 [layV l,.int .i64 s] [] (.int .i64 (l.of s 0)) []:=by
 have hb:=zaW hl
 refine Fn.enter (Tryz.func121) rfl rfl (fun w0 R=>?_)
 refine sA (xB 0 rfl (fun bk0=>(xai rfl (dA (xL3 0 zaa rfl rfl (xmi rfl (TL.callD [] [] (zmt hl (by omega)) ⟨rfl,rfl,rfl,trivial⟩ trivial zgO rfl rfl rfl rfl rfl trivial (xai rfl (dR ?_)))))))))
 refine FQ.ret1 (v:=(.int _ _)) (Bs:=[]) [] rfl rfl rfl trivial ?_
 exact ⟨rfl,rfl⟩
theorem zlf {o m t g:Int} {v:Int}:FnD Tryz.prog 130 [.agg #[.int .i64 o,.int .i64 m,.int .i64 t,.int .i64 g],.int .u64 v] [] (.int .i64 (zb1 (⟨o,m,t,g⟩:Wd) v)) []:=by
 refine Fn.enter (Tryz.func130) rfl rfl (fun w0 R=>?_)
 refine sA (xB 0 rfl (fun bk0=>(xai rfl (dA (xmi rfl (TL.callD [] [] zsb ⟨rfl,trivial⟩ trivial zrw rfl rfl rfl rfl rfl trivial (xmu rfl (xei rfl rfl (TL.ext (.bool _) rfl rfl rfl rfl ?_)))))))))
 refine xei rfl rfl (xai rfl (xab rfl (xai rfl (dB (xmi rfl (TL.neq rfl rfl rfl rfl (fun q1=>?_) (fun q1=>?_)))))))
 refine dT rfl (xai rfl (dRR ?_))
 refine FQ.ret1 (v:=(.int _ _)) (Bs:=[]) [] rfl rfl rfl trivial ?_
 first | exact ⟨iE (by unfold zb1; rw [if_neg (fun hc=>q1 ((ziQ (e:=21) (by decide)).2 hc))]),rfl⟩ | exact ⟨iE (by unfold zb1; rw [if_pos ((ziQ (e:=21) (by decide)).1 (by omega))]),rfl⟩
 refine dF rfl (xL4 0 zan rfl rfl (xmi rfl (xmb rfl (TL.callD [] [] zlM ⟨rfl,rfl,rfl,trivial⟩ trivial zrv rfl rfl rfl rfl rfl trivial (xai rfl (dR ?_))))))
 refine FQ.ret1 (v:=(.int _ _)) (Bs:=[]) [] rfl rfl rfl trivial ?_
 first | exact ⟨iE (by unfold zb1; rw [if_neg (fun hc=>q1 ((ziQ (e:=21) (by decide)).2 hc))]),rfl⟩ | exact ⟨iE (by unfold zb1; rw [if_pos ((ziQ (e:=21) (by decide)).1 (by omega))]),rfl⟩
theorem ziX {o m t g:Int}:FnD Tryz.prog 114 [.agg #[.int .i64 o,.int .i64 m,.int .i64 t,.int .i64 g]] [] (wdV (wofI m)) []:=by
 refine Fn.enter (Tryz.func114) rfl rfl (fun w0 R=>?_)
 refine sA (xB 0 rfl (fun bk0=>(TL.alloc 1 (cs:=#[.int .i64 0,.int .i64 0,.int .i64 0,.int .i64 0]) zbi rfl rfl rfl (fun _=>trivial) (fun bk1=>(dA (xf 1 zaT rfl (xli 0 zaf rfl rfl (TL.callD [] [] zr7 ⟨rfl,trivial⟩ trivial zrG rfl rfl rfl rfl rfl trivial (TL.stW 1 4 [_,_,_,_] rfl rfl rfl rfl rfl rfl zan rfl rfl trivial (dR ?_))))))))))
 refine FQ.retG (rs:=[.cell 2 175]) [(.agg _)] (Bs:=[]) [] rfl ⟨⟨_,_,_,_,_,1,rfl,rfl,.inr ⟨4,[_,_,_,_],zan,rfl,rfl⟩⟩,trivial⟩ rfl rfl trivial ?_
 exact ⟨rfl,rfl⟩
theorem zn2 {S:Type} [MemLike S] {mt:TypeId} {mv:Value} {A:S→Assn} (hM:MemI Tryz.prog mt mv A) {σ:S} {c:Int} (h:(zab (MemLike.get σ c)).2=false):FnD Tryz.prog 113 [.iface mt mv,.int .i64 c,.func (.func 114) #[] #[]] [A σ] (.tuple #[]) [A (MemLike.ld σ c)]:=by
 refine Fn.enter (Tryz.func113) rfl rfl (fun w0 R=>?_)
 refine sA (xmc rfl (xmi rfl (TL.mload 0 hM rfl rfl rfl rfl rfl trivial (TL.callD [] [] zcf ⟨rfl,trivial⟩ trivial zdS rfl rfl rfl rfl rfl trivial (xmu rfl (TL.ext (.agg _) rfl rfl rfl rfl (xei rfl rfl (TL.alloc 1 (cs:=#[.int .i64 0,.int .i64 0,.int .i64 0,.int .i64 0]) zbi rfl rfl rfl (fun _=>trivial) (fun bk1=>?_)))))))))
 refine TL.stW 1 4 [_,_,_,_] rfl rfl rfl rfl rfl rfl zan rfl rfl trivial (xai rfl (dB (xmi rfl (TL.neqT rfl rfl (by rw [h]; decide) rfl rfl (TL.done (TQ.then (TC.condT rfl (TC.ret ?_))))))))
 refine TQ.thenRet ?_
 refine FQ.ret0 (Bs:=[A (MemLike.ld σ c)]) [0] rfl rfl ⟨rfl,trivial⟩ ?_
 exact ⟨rfl,rfl⟩
theorem zn1 {S:Type} [MemLike S] {mt:TypeId} {mv:Value} {A:S→Assn} (hM:MemI Tryz.prog mt mv A) {σ:S} {c:Int} (h:(zab (MemLike.get σ c)).2=true) (h2:(wofI (zab (MemLike.get σ c)).1.new).right=false):FnD Tryz.prog 113 [.iface mt mv,.int .i64 c,.func (.func 114) #[] #[]] [A σ] (.tuple #[]) [A (MemLike.ld σ c)]:=by
 refine Fn.enter (Tryz.func113) rfl rfl (fun w0 R=>?_)
 refine sA (xmc rfl (xmi rfl (TL.mload 0 hM rfl rfl rfl rfl rfl trivial (TL.callD [] [] zcf ⟨rfl,trivial⟩ trivial zdS rfl rfl rfl rfl rfl trivial (xmu rfl (TL.ext (.agg _) rfl rfl rfl rfl (xei rfl rfl (TL.alloc 1 (cs:=#[.int .i64 0,.int .i64 0,.int .i64 0,.int .i64 0]) zbi rfl rfl rfl (fun _=>trivial) (fun bk1=>?_)))))))))
 refine TL.stW 1 4 [_,_,_,_] rfl rfl rfl rfl rfl rfl zan rfl rfl trivial (xai rfl (dB (xmi rfl (TL.neqF rfl rfl (by rw [h]; decide) rfl rfl (dF rfl (TL.mv (.func _ _ _) rfl rfl rfl (xL4 1 zan rfl rfl (TL.callC (c1:=[]) (c2:=[]) (vs:=[_]) [] [] rfl ziX ⟨rfl,trivial⟩ trivial znD rfl rfl rfl rfl rfl trivial ?_))))))))
 refine TL.callD [] [] zhN ⟨rfl,trivial⟩ trivial zh9 rfl rfl rfl rfl rfl trivial (xmu rfl (xei rfl rfl (xei rfl rfl (xai rfl (xai rfl (dA (xmi rfl (TL.eqlF rfl rfl (by rw [h2]; decide) rfl rfl ?_))))))))
 refine TL.done (TQ.then (TC.condF rfl (TC.skip ?_)))
 refine FQ.end0 (Bs:=[A (MemLike.ld σ c)]) [0] rfl rfl ⟨rfl,trivial⟩ ?_
 exact ⟨rfl,rfl⟩
theorem zn0 {S:Type} [MemLike S] {mt:TypeId} {mv:Value} {A:S→Assn} (hM:MemI Tryz.prog mt mv A) {σ:S} {c:Int} (h:(zab (MemLike.get σ c)).2=true) (h2:(wofI (zab (MemLike.get σ c)).1.new).right=true):FnD Tryz.prog 113 [.iface mt mv,.int .i64 c,.func (.func 114) #[] #[]] [A σ] (.tuple #[]) [A (MemLike.st (MemLike.ld σ c) c (wofI (zab (MemLike.get σ c)).1.new).pack)]:=by
 refine Fn.enter (Tryz.func113) rfl rfl (fun w0 R=>?_)
 refine sA (xmc rfl (xmi rfl (TL.mload 0 hM rfl rfl rfl rfl rfl trivial (TL.callD [] [] zcf ⟨rfl,trivial⟩ trivial zdS rfl rfl rfl rfl rfl trivial (xmu rfl (TL.ext (.agg _) rfl rfl rfl rfl (xei rfl rfl (TL.alloc 1 (cs:=#[.int .i64 0,.int .i64 0,.int .i64 0,.int .i64 0]) zbi rfl rfl rfl (fun _=>trivial) (fun bk1=>?_)))))))))
 refine TL.stW 1 4 [_,_,_,_] rfl rfl rfl rfl rfl rfl zan rfl rfl trivial (xai rfl (dB (xmi rfl (TL.neqF rfl rfl (by rw [h]; decide) rfl rfl (dF rfl (TL.mv (.func _ _ _) rfl rfl rfl (xL4 1 zan rfl rfl (TL.callC (c1:=[]) (c2:=[]) (vs:=[_]) [] [] rfl ziX ⟨rfl,trivial⟩ trivial znD rfl rfl rfl rfl rfl trivial ?_))))))))
 refine TL.callD [] [] zhN ⟨rfl,trivial⟩ trivial zh9 rfl rfl rfl rfl rfl trivial (xmu rfl (xei rfl rfl (xei rfl rfl (xai rfl (xai rfl (dA (xmi rfl (TL.eqlT rfl rfl (by rw [h2]; decide) rfl rfl ?_))))))))
 refine TL.done (TQ.then (TC.condT rfl (TC.region (xmc rfl (xmi rfl (xmi rfl (TL.mstore 0 hM rfl rfl rfl (by rw [h2]; exact zcH _ _) rfl rfl rfl trivial (TL.done ?_))))))))
 refine FQ.end0 (Bs:=[A _]) [0] rfl rfl ⟨rfl,trivial⟩ ?_
 exact ⟨rfl,by rw [h2]; rfl⟩
theorem zlx {S:Type} [MemLike S] {mt:TypeId} {mv:Value} {A:S→Assn} (hM:MemI Tryz.prog mt mv A) {σ:S} {c:Int}:FnD Tryz.prog 113 [.iface mt mv,.int .i64 c,.func (.func 114) #[] #[]] [A σ] (.tuple #[]) [A (zaP σ c)]:=by
 unfold zaP
 cases h:(zab (MemLike.get σ c)).2
 ·exact zn2 hM h
 ·rw [if_pos rfl]
  cases h2:(wofI (zab (MemLike.get σ c)).1.new).right
  ·exact zn1 hM h h2
  ·exact zn0 hM h h2
theorem zkR {S:Type} [MemLike S] {mt:TypeId} {mv:Value} {A:S→Assn} (hM:MemI Tryz.prog mt mv A) {σ:S} {p:Pen} {c:Int}:FnD Tryz.prog 75 [.agg #[.int .i64 p.thread,.int .i64 p.tag],.iface mt mv,.int .i64 c] [A σ] (.tuple #[]) [A (zaP σ c)]:=by
 refine Fn.enter (Tryz.func75) rfl rfl (fun w0 R=>?_)
 refine sA (xB 1 rfl (fun bk1=>(dG (xmc rfl (xmi rfl (TL.callD [0] [0] (zlx hM) ⟨rfl,rfl,rfl,trivial⟩ ⟨rfl,trivial⟩ znE rfl rfl rfl rfl rfl trivial (TL.done ?_)))))))
 refine FQ.end0 (Bs:=[A (zaP σ c)]) [0] rfl rfl ⟨rfl,trivial⟩ ?_
 exact ⟨rfl,rfl⟩
theorem zoG {S:Type} [MemLike S] {mt:TypeId} {mv:Value} {A:S→Assn} (hM:MemI Tryz.prog mt mv A) {fS:FuncId} (hfS:zfN Tryz.prog mt "Store" fS=true) {l:Lay} (hl:l.Ok) {p:Pen} {σ:S} {tag:Int} {dn:Bool} (h:0≤tag∧tag≤16777215):FnD Tryz.prog 104 [.agg #[.int .i64 p.thread,.int .i64 p.tag],.iface mt mv,layV l,.int .i64 tag,.bool dn] [A σ] (.tuple #[]) [A (MemLike.st σ (l.state p.thread) (zbo tag dn))]:=by
 refine Fn.enter (Tryz.func104) rfl rfl (fun w0 R=>?_)
 refine sA (xB 1 rfl (fun bk1=>(xB 2 rfl (fun bk2=>(dA (xmi rfl (xmb rfl (TL.callD [] [] (zqw h) ⟨rfl,rfl,trivial⟩ trivial znz rfl rfl rfl rfl rfl trivial (xmu rfl (xei rfl rfl ?_))))))))))
 refine xei rfl rfl (xai rfl (xai rfl (dA (xmi rfl (TL.eqlT rfl rfl (by decide) rfl rfl (TL.done (TQ.then (TC.condT rfl ?_))))))))
 refine TC.draw [(0,true),(1,true),(2,true),(3,true),(5,true),(6,true),(7,true),(8,true),(4,false),(9,false)] [1,2] fc_m (by kernel_rfl) (xmc rfl (xL3 2 zaa rfl rfl (xf 0 zdi rfl (xli 1 zaf rfl rfl (xmi rfl (TL.mf (xs:=[_]) (ys:=[]) [_] [] ⟨rfl,trivial⟩ trivial rfl rfl (TL.ncM hfS rfl rfl rfl (xmc rfl ?_))))))))
 refine TL.callD [] [] (ziE hl) ⟨rfl,rfl,trivial⟩ trivial zpX rfl rfl rfl rfl rfl (kL2 rfl rfl trivial) (TL.mstore 0 hM rfl rfl rfl (zc9 h _) rfl rfl rfl (kL2 rfl rfl trivial) (TL.done ?_))
 refine FQ.end0 (Bs:=[A _]) [0] rfl rfl ⟨rfl,trivial⟩ ?_
 exact ⟨rfl,rfl⟩
theorem zoF {S:Type} [MemLike S] {mt:TypeId} {mv:Value} {A:S→Assn} (hM:MemI Tryz.prog mt mv A) {fS:FuncId} (hfS:zfN Tryz.prog mt "Store" fS=true) {l:Lay} (hl:l.Ok) {p:Pen} {σ:S} {tag:Int} {dn:Bool} (h:¬(0≤tag∧tag≤16777215)):FnD Tryz.prog 104 [.agg #[.int .i64 p.thread,.int .i64 p.tag],.iface mt mv,layV l,.int .i64 tag,.bool dn] [A σ] (.tuple #[]) [A (σ)]:=by
 refine Fn.enter (Tryz.func104) rfl rfl (fun w0 R=>?_)
 refine sA (xB 1 rfl (fun bk1=>(xB 2 rfl (fun bk2=>(dA (xmi rfl (xmb rfl (TL.callD [] [] (zqv h) ⟨rfl,rfl,trivial⟩ trivial znz rfl rfl rfl rfl rfl trivial (xmu rfl (xei rfl rfl ?_))))))))))
 refine xei rfl rfl (xai rfl (xai rfl (dA (xmi rfl (TL.eqlF rfl rfl (by decide) rfl rfl (TL.done (TQ.then (TC.condF rfl ?_))))))))
 refine TC.skip ?_
 refine FQ.end0 (Bs:=[A _]) [0] rfl rfl ⟨rfl,trivial⟩ ?_
 exact ⟨rfl,rfl⟩
theorem zix {S:Type} [MemLike S] {mt:TypeId} {mv:Value} {A:S→Assn} (hM:MemI Tryz.prog mt mv A) {fS:FuncId} (hfS:zfN Tryz.prog mt "Store" fS=true) {l:Lay} (hl:l.Ok) {p:Pen} {σ:S} {tag:Int} {dn:Bool}:FnD Tryz.prog 104 [.agg #[.int .i64 p.thread,.int .i64 p.tag],.iface mt mv,layV l,.int .i64 tag,.bool dn] [A σ] (.tuple #[]) [A (zaN l p σ tag dn)]:=by
 unfold zaN
 by_cases h:0≤tag∧tag≤16777215
 ·rw [if_pos h]; exact zoG hM hfS hl h
 ·rw [if_neg h]; exact zoF hM hfS hl h
theorem zlg {S:Type} [MemLike S] {mt:TypeId} {mv:Value} {A:S→Assn} (hM:MemI Tryz.prog mt mv A) {fS:FuncId} (hfS:zfN Tryz.prog mt "Store" fS=true) {l:Lay} (hl:l.Ok) {p:Pen} {σ:S}:FnD Tryz.prog 49 [.agg #[.int .i64 p.thread,.int .i64 p.tag],.iface mt mv,layV l] [A σ] (.tuple #[]) [A (zaN l p σ p.tag true)]:=by
 refine Fn.enter (Tryz.func49) rfl rfl (fun w0 R=>?_)
 refine sA (xB 1 rfl (fun bk1=>(xB 2 rfl (fun bk2=>(dG (xL2 1 zce rfl rfl (xmc rfl (xL3 2 zaa rfl rfl (xf 1 zcC rfl (xli 1 zaf rfl rfl ?_))))))))))
 refine TL.callD [0] [0] (zix hM hfS hl) ⟨rfl,rfl,rfl,rfl,rfl,trivial⟩ ⟨rfl,trivial⟩ znF rfl rfl rfl rfl rfl trivial (TL.done ?_)
 refine FQ.end0 (Bs:=[A (zaN l p σ p.tag true)]) [0] rfl rfl ⟨rfl,trivial⟩ ?_
 exact ⟨rfl,rfl⟩
theorem zqL {S:Type} [MemLike S] {mt:TypeId} {mv:Value} {A:S→Assn} (hM:MemI Tryz.prog mt mv A) {fS:FuncId} (hfS:zfN Tryz.prog mt "Store" fS=true) {l:Lay} (hl:l.Ok) {p:Pen} {σ:S}:FnD Tryz.prog 76 [.agg #[.int .i64 p.thread,.int .i64 p.tag],.iface mt mv,layV l] [A σ] (.tuple #[]) [A (zaN l p σ (IntKind.i64.wrap (p.tag+1)) false)]:=by
 refine Fn.enter (Tryz.func76) rfl rfl (fun w0 R=>?_)
 refine sA (xB 1 rfl (fun bk1=>(xB 2 rfl (fun bk2=>(dG (xL2 1 zce rfl rfl (xmc rfl (xL3 2 zaa rfl rfl (xf 1 zcC rfl (xli 1 zaf rfl rfl ?_))))))))))
 refine TL.add _ rfl rfl (rfl) rfl rfl (TL.callD [0] [0] (zix hM hfS hl) ⟨rfl,rfl,rfl,rfl,rfl,trivial⟩ ⟨rfl,trivial⟩ znF rfl rfl rfl rfl rfl trivial (TL.done ?_))
 refine FQ.end0 (Bs:=[A (zaN l p σ (IntKind.i64.wrap (p.tag+1)) false)]) [0] rfl rfl ⟨rfl,trivial⟩ ?_
 exact ⟨rfl,rfl⟩
theorem zd1 {l:Lay} {c:Int}:Go.Eng.Fn Tryz.prog 97 [layV l,.int .i64 c] [] (fun v Bs=>∃ lb,v=.pointer (some ⟨lb,0,none⟩)∧Bs=[zjo 189 lb l (zcS c)]):=by
 refine Fn.enter (Tryz.func97) rfl rfl (fun w0 R=>?_)
 refine sA (xB 0 rfl (fun bk0=>(TL.asg (.pointer none) rfl rfl rfl (dA (xL3 0 zaa rfl rfl (xmi rfl (TL.bld [.int .i64 0,.int .i64 0,.int .i64 0,.int .i64 0,.int .i64 0,.int .i64 0,.int .i64 0,.int .i64 0,.bool false,.bool false,.int .i64 0] [(.agg _),(.int _ _)] [_,_,_,_,_,_,_,_,_,_,_] zrb zrg ⟨rfl,rfl,trivial⟩ ⟨rfl,rfl⟩ rfl rfl (xB 1 rfl (fun bk1=>(xap rfl ?_))))))))))
 refine dR ?_
 refine FQ.ret1 (v:=(.pointer (some ⟨_,_,none⟩))) (Bs:=[_]) [1] rfl rfl rfl ⟨rfl,trivial⟩ ?_
 exact ⟨_,rfl,rfl⟩
theorem zlk {l:Lay} {lb:Nat} {k:LookS}:FnD Tryz.prog 99 [.pointer (some ⟨lb,0,none⟩)] [zjo 189 lb l (k)] (.int .i64 k.value) [zjo 189 lb l (k)]:=by
 refine Fn.enter (Tryz.func99) rfl rfl (fun w0 R=>?_)
 refine sA (xai rfl (dA (xmp rfl (xN0 rfl (xf 10 zcY rfl (xli 0 zaf rfl rfl (xai rfl (dR ?_))))))))
 refine FQ.ret1 (v:=(.int _ _)) (Bs:=[_]) [0] rfl rfl rfl ⟨rfl,trivial⟩ ?_
 exact ⟨rfl,rfl⟩
theorem zmE {l:Lay} (hl:l.Ok) {lb ab mb:Nat} {k:LookS} {σ:Array UInt64} {c:Cnt}:FnD Tryz.prog 98 [.pointer (some ⟨lb,0,none⟩),.pointer (some ⟨ab,0,none⟩)] [zjo 189 lb l (k),arenaC ab mb 140 71 (σ) (c)] (.bool (k.step l σ).done) [zjo 189 lb l (k.step l σ),arenaC ab mb 140 71 (σ) (k.cnt l σ c)]:=by
 refine Fn.enter (Tryz.func98) rfl rfl (fun w0 R=>?_)
 refine sA (xaf rfl (dS (TC.block (sA (xmp rfl (xN0 rfl (xf 9 zbk rfl (xlb 0 zcN rfl rfl ?_))))))))
 refine xab rfl (TL.done (TQ.then (TC.cond rfl (fun q1=>?_) (fun q1=>?_))))
 refine TC.skip (TQ.inBlock (TQ.then (sA (xmp rfl (xN0 rfl (xf 9 zbk rfl (xlb 0 zcN rfl rfl (xab rfl ?_))))))))
 refine dR ?_
 refine FQ.ret1 (v:=(.bool _)) (Bs:=[_,_]) [0,1] rfl rfl rfl ⟨rfl,rfl,trivial⟩ ?_
 rw [LookS.step_d q1,LookS.cnt_d q1]; exact ⟨rfl,rfl⟩
 refine sA (xmp rfl (xN0 rfl (xf 8 zgD rfl (xlb 0 zcN rfl rfl (xab rfl (TL.done (TQ.then (TC.cond rfl (fun q2=>?_) (fun q2=>?_)))))))))
 refine TC.seq (TC.draw [(0,true),(1,true),(2,true),(3,true),(4,true),(5,true),(6,true),(7,true),(8,true),(9,true),(10,false),(11,false),(12,true),(13,true),(14,true),(15,true),(16,true)] [0] fc_m (by kernel_rfl) (xmp rfl (xmp rfl (xN0 rfl (xf 0 zjK rfl (xL3 0 zaa rfl rfl (xmp rfl (xN0 rfl ?_))))))))
 refine xf 4 zet rfl (xf 2 zcO rfl (xli 0 zaf rfl rfl (TL.callD [] [] (ziE hl) ⟨rfl,rfl,trivial⟩ trivial zpX rfl rfl rfl rfl rfl (kL1 rfl trivial) (TL.callD [1] [1] zgY ⟨rfl,rfl,trivial⟩ ⟨rfl,trivial⟩ zkH rfl rfl rfl rfl rfl (kL1 rfl trivial) (xmu rfl (xei rfl rfl (xei rfl rfl (xai rfl ?_))))))))
 refine xai rfl (dG (xmp rfl (xmp rfl (xmp rfl (xN0 rfl (xf 4 zet rfl (xL4 0 zan rfl rfl (xmi rfl ?_))))))))
 refine TL.callD [] [] zlf ⟨rfl,rfl,trivial⟩ trivial zrB rfl rfl rfl rfl rfl trivial (xN0 rfl (xf 10 zcY rfl (TL.st 0 #[_,_,_,_,_,_,_,_,_,_,_] (.int _ _) rfl rfl rfl rfl rfl rfl zaf rfl rfl trivial (xN0 rfl (xf 9 zbk rfl (TL.st 0 #[_,_,_,_,_,_,_,_,_,_,_] (.bool true) rfl rfl rfl rfl rfl rfl zcN rfl rfl trivial (TL.done (TQ.inBlock ?_))))))))
 refine TQ.then (sA (xmp rfl (xN0 rfl (xf 9 zbk rfl (xlt 0 zcN rfl rfl (xat rfl (dR ?_)))))))
 refine FQ.ret1 (v:=(.bool true)) (Bs:=[_,_]) [0,1] rfl rfl rfl ⟨rfl,rfl,trivial⟩ ?_
 rw [LookS.step_h q1 q2,LookS.cnt_h q1 q2]; exact ⟨rfl,rfl⟩
 refine sA (xmp rfl (xmp rfl (xN0 rfl (xf 3 zjJ rfl (xli 0 zaf rfl rfl (TL.callD [1] [1] zgY ⟨rfl,rfl,trivial⟩ ⟨rfl,trivial⟩ zkH rfl rfl rfl rfl rfl trivial (xmu rfl (xei rfl rfl ?_))))))))
 refine xei rfl rfl (xai rfl (xai rfl (dA (xmi rfl (TL.callD [] [] zcf ⟨rfl,trivial⟩ trivial zdS rfl rfl rfl rfl rfl trivial (xmu rfl (TL.ext (.agg _) rfl rfl rfl rfl (xei rfl rfl ?_))))))))
 refine TL.alloc 2 (cs:=#[.int .i64 0,.int .i64 0,.int .i64 0,.int .i64 0]) zbi rfl rfl rfl (fun _=>trivial) (fun bk2=>(TL.stW 2 4 [_,_,_,_] rfl rfl rfl rfl rfl rfl zan rfl rfl trivial (xai rfl (dA (xmp rfl (xmp rfl (xL4 2 zan rfl rfl (xN0 rfl (xf 4 zet rfl ?_)))))))))
 refine TL.stA 0 4 #[_,_,_,_,_,_,_,_,_,_,_] [_,_,_,_] rfl rfl rfl rfl rfl rfl rfl zan rfl rfl trivial (xN0 rfl (xf 8 zgD rfl (TL.st 0 #[_,_,_,_,_,_,_,_,_,_,_] (.bool true) rfl rfl rfl rfl rfl rfl zcN rfl rfl trivial (dA (xmi rfl (TL.neq rfl rfl rfl rfl (fun q3=>?_) (fun q3=>?_)))))))
 refine xmt rfl (xo rfl (xo rfl (xpT rfl (TL.done (TQ.then (TC.condT rfl (TC.region (xmp rfl ?_))))))))
 refine xmp rfl (xf 1 zaT rfl (xli 2 zaf rfl rfl (xN0 rfl (xf 10 zcY rfl (TL.st 0 #[_,_,_,_,_,_,_,_,_,_,_] (.int _ _) rfl rfl rfl rfl rfl rfl zaf rfl rfl trivial (xN0 rfl (xf 9 zbk rfl (TL.st 0 #[_,_,_,_,_,_,_,_,_,_,_] (.bool true) rfl rfl rfl rfl rfl rfl zcN rfl rfl trivial ?_))))))))
 refine TL.done (TQ.inBlock (TQ.then (sA (xmp rfl (xN0 rfl (xf 9 zbk rfl (xlt 0 zcN rfl rfl (xat rfl ?_))))))))
 refine dR ?_
 refine FQ.ret1 (v:=(.bool true)) (Bs:=[_,_]) [0,1] rfl rfl rfl ⟨rfl,rfl,trivial⟩ ?_
 rw [LookS.step_0 q1 q2 (.inl (zs9 q3)),LookS.cnt_0 q1 q2]; exact ⟨rfl,rfl⟩
 refine xmf rfl (xL4 2 zan rfl rfl (TL.callD [] [] zgk ⟨rfl,trivial⟩ trivial zjT rfl rfl rfl rfl rfl trivial (TL.casesP rfl (fun q4=>?_) (fun q4=>?_))))
 refine xpH rfl (TL.done (TQ.then (TC.condT rfl (TC.region (xmp rfl (xmp rfl (xf 1 zaT rfl (xli 2 zaf rfl rfl ?_))))))))
 refine xN0 rfl (xf 10 zcY rfl (TL.st 0 #[_,_,_,_,_,_,_,_,_,_,_] (.int _ _) rfl rfl rfl rfl rfl rfl zaf rfl rfl trivial (xN0 rfl (xf 9 zbk rfl (TL.st 0 #[_,_,_,_,_,_,_,_,_,_,_] (.bool true) rfl rfl rfl rfl rfl rfl zcN rfl rfl trivial (TL.done (TQ.inBlock (TQ.then ?_))))))))
 refine sA (xmp rfl (xN0 rfl (xf 9 zbk rfl (xlt 0 zcN rfl rfl (xat rfl (dR ?_))))))
 refine FQ.ret1 (v:=(.bool true)) (Bs:=[_,_]) [0,1] rfl rfl rfl ⟨rfl,rfl,trivial⟩ ?_
 rw [LookS.step_0 q1 q2 (.inr q4),LookS.cnt_0 q1 q2]; exact ⟨rfl,rfl⟩
 refine xpF rfl (TL.done (TQ.then (TC.condF rfl (TC.skip (TQ.inBlock (TQ.then (sA (xmp rfl ?_))))))))
 refine xN0 rfl (xf 9 zbk rfl (xlb 0 zcN rfl rfl (xab rfl (dR ?_))))
 refine FQ.ret1 (v:=(.bool _)) (Bs:=[_,_]) [0,1] rfl rfl rfl ⟨rfl,rfl,trivial⟩ ?_
 rw [LookS.step_n q1 q2 (zs8 (by decide) q3) q4,LookS.cnt_0 q1 q2]; exact ⟨rfl,rfl⟩
theorem zmA {l:Lay} (hl:l.Ok)  : FnD Tryz.prog 91 [layV l] [] (.bool true) []:=by
 have hb:=zaW hl
 refine Fn.enter (Tryz.func91) rfl rfl (fun w0 R=>?_)
 refine sA (xB 0 rfl (fun bk0=>(xaf rfl (dA (xf 0 zaw rfl (xli 0 zaf rfl rfl (TL.sub _ rfl rfl (wr64 (by omega)) rfl rfl (TL.callD [] [] zaX ⟨rfl,rfl,trivial⟩ trivial zbl rfl rfl rfl rfl rfl trivial (TL.casesP rfl (fun q1=>?_) (fun q1=>?_))))))))))
 refine xmt rfl (xf 1 zbc rfl (xli 0 zaf rfl rfl (TL.callD [] [] zaX ⟨rfl,rfl,trivial⟩ trivial zbl rfl rfl rfl rfl rfl trivial (TL.casesP rfl (fun q2=>?_) (fun q2=>?_)))))
 refine xpT rfl (xmt rfl (xf 2 zdj rfl (xli 0 zaf rfl rfl (TL.sub _ rfl rfl (wr64 (by omega)) rfl rfl (TL.callD [] [] zaX ⟨rfl,rfl,trivial⟩ trivial zbl rfl rfl rfl rfl rfl trivial (TL.pickT (.bool _) rfl rfl rfl rfl (xab rfl (dR ?_))))))))
 refine FQ.ret1 (v:=(.bool _)) (Bs:=[]) [] rfl rfl rfl trivial ?_
 first | exact ⟨congrArg Value.bool (decide_eq_true (by omega)),rfl⟩ | (exfalso; omega)
 refine xpG rfl (xmf rfl (xo rfl (xo rfl (xo rfl (xo rfl (xpF rfl (xaf rfl (dR ?_))))))))
 refine FQ.ret1 (v:=(.bool false)) (Bs:=[]) [] rfl rfl rfl trivial ?_
 first | exact ⟨congrArg Value.bool (decide_eq_true (by omega)),rfl⟩ | (exfalso; omega)
 refine xmf rfl (xo rfl (xo rfl (xo rfl (xpF rfl (xmf rfl (xo rfl (xo rfl (xo rfl ?_))))))))
 refine xo rfl (xpF rfl (xaf rfl (dR ?_)))
 refine FQ.ret1 (v:=(.bool false)) (Bs:=[]) [] rfl rfl rfl trivial ?_
 first | exact ⟨congrArg Value.bool (decide_eq_true (by omega)),rfl⟩ | (exfalso; omega)
end Go.Proofs.YtjnpjkfliochbaaGreat
