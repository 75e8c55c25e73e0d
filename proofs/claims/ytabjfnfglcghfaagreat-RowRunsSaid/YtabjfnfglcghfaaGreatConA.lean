import Derived.Test.YtabjfnfglcghfaaGreatEngF
import Derived.Test.YtabjfnfglcghfaaGreatProg
import Derived.KernelRfl
import Derived.Tactics2
import Derived.StillTactics
import Derived.Laws.Tables
import Derived.Shelf.Sort.Plain
import Derived.Shelf.Slices.In.SortNone
set_option linter.unusedVariables false
set_option linter.unusedSimpArgs false
set_option maxRecDepth 20000
namespace Go.Proofs.YtabjfnfglcghfaaGreat
open Go.Eng Go.Tm
open Go.Eng Go.Tm
abbrev layV (l:Lay):Value:=.agg #[.int .i64 l.V,.int .i64 l.S,.int .i64 l.T]
abbrev zuG (t:Thing):Value:=.agg #[.bool t.arc,.int .i64 t.level,.int .i64 t.vertex,.int .i64 t.slot,.int .i64 t.side]
abbrev wdV (w:Wd):Value:=.agg #[.int .i64 w.old,.int .i64 w.new,.int .i64 w.thread,.int .i64 w.tag]
theorem zs9 {x:Int} (_h0:0≤x) (_h1:x≤16):0≤levI x∧levI x≤5:=by
 unfold levI
 repeat' split
 all_goals omega
theorem zuY {s:ByteArray} {x:Int} (h0:0≤x) (h1:x≤16) (hs:(List.range 17).map (fun i=>(s[i]?).map (·.toNat))=[0,1,2,2,3,3,3,3,4,4,4,4,4,4,4,4,5].map some):(s[x.toNat]?).map (fun b=>(b.toNat:Int))=some (levI x):=by
 have hx:x.toNat<17:=by omega
 have h2:=congrArg (fun l=>l[x.toNat]?) hs
 simp only [List.getElem?_map,List.getElem?_range hx,Option.map_some] at h2
 have h3:x=(x.toNat:Int):=by omega
 rw [h3,Int.toNat_natCast]
 generalize x.toNat=i at *
 have:i=0∨i=1∨i=2∨i=3∨i=4∨i=5∨i=6∨i=7∨i=8∨i=9∨i=10∨i=11∨i=12∨i=13∨i=14∨i=15∨i=16:=by omega
 cases hb:s[i]? with
 | none=>rw [hb] at h2; rcases this with rfl | rfl | rfl | rfl | rfl | rfl | rfl | rfl | rfl | rfl | rfl | rfl | rfl | rfl | rfl | rfl | rfl<;>simp at h2
 | some b=>rw [hb] at h2; rcases this with rfl | rfl | rfl | rfl | rfl | rfl | rfl | rfl | rfl | rfl | rfl | rfl | rfl | rfl | rfl | rfl | rfl<;>simp at h2<;>simp [h2,levI]
theorem zk6 {l:Lay} (h:l.Ok):1≤(l.V:Int)∧(l.V:Int)≤16∧(l.S:Int)≤48∧1≤(l.T:Int)∧(l.T:Int)≤8:=by
 obtain ⟨h1,h2,h3,h4,h5⟩:=h; omega
theorem zuV {l:Lay} (h:l.Ok):1≤l.lev∧l.lev≤5:=by
 have:=zk6 h
 unfold Lay.lev levI
 repeat' split
 all_goals omega
theorem zbb {l:Lay} (h:l.Ok):(1≤(l.V:Int)∧(l.V:Int)≤16∧(l.S:Int)≤48∧1≤(l.T:Int)∧(l.T:Int)≤8)∧(1≤l.lev∧l.lev≤5)∧l.arcs=2 * l.lev∧l.free=l.T∧(0≤l.lev * l.V∧l.lev * l.V≤5 * 16)∧(0≤(l.V:Int) * l.lev∧(l.V:Int) * l.lev≤16 * 5) ∧
  (0≤(l.S:Int) * l.arcs∧(l.S:Int) * l.arcs≤48 * 10)∧l.nodes=l.lev * l.V+l.S * l.arcs∧l.heads=l.T+1+l.S * 7∧l.edges=l.heads+l.V * l.lev∧(0≤(l.V:Int) * (l.V - 1)∧(l.V:Int) * (l.V - 1)≤16 * 15) ∧
  l.base=l.edges+(l.V:Int) * (l.V - 1) / 2∧l.cells=l.base+l.nodes * 7:=by
 have h1:=zk6 h
 have h2:=zuV h
 have h3:l.arcs=2 * l.lev:=rfl
 exact ⟨h1,h2,h3,rfl,zc8 (by omega) (by omega) (by omega) (by omega),zc8 (by omega) (by omega) (by omega) (by omega),zc8 (by omega) (by omega) (by omega) (by omega),rfl,rfl,rfl,zc8 (by omega) (by omega) (by omega) (by omega),rfl,rfl⟩
theorem zn1 {a b:Int} (h0:0≤a) (hb:0<b) (ha:a<9223372036854775808):IntKind.i64.wrap (a.tdiv b)=a / b:=by
 rw [Int.tdiv_eq_ediv_of_nonneg h0]
 exact wr64 ⟨by have:=Int.ediv_nonneg h0 (Int.le_of_lt hb); omega,by have:=Int.ediv_le_self b h0; omega⟩
theorem zkU {a b:Int} (h0:0≤a):a.tmod b=a % b:=Int.tmod_eq_emod_of_nonneg h0
theorem ze5 {x V:Int} (h0:0≤x) (h1:x<V) (h2:V≤16):0≤x * (2 * V - x - 1)∧x * (2 * V - x - 1)≤16 * 32:=zc8 h0 (by omega) (by omega) (by omega)
abbrev zbg (l:Lay) (mt:TypeId) (mv:Value) (p:Pen):Value:=.agg #[.int .i64 l.V,.int .i64 l.S,.int .i64 l.T,.iface mt mv,.int .i64 p.thread,.int .i64 p.tag]
abbrev zkf (l:Lay) (mt:TypeId) (mv:Value):Value:=.agg #[.int .i64 l.V,.int .i64 l.S,.int .i64 l.T,.iface mt mv]
abbrev adjV (l:Lay) (mt:TypeId) (mv:Value) (p:Pen):Value:=.agg #[.int .i64 l.V,.int .i64 l.S,.int .i64 l.T,.iface mt mv,.int .i64 p.thread,.int .i64 p.tag,.int .i64 l.V,.int .i64 l.S,.int .i64 l.T,.iface mt mv]
theorem zmi (l:Lay) (x m:Int):0≤zeK l x m∧zeK l x m<18446744073709551616:=by
 unfold zeK; split<;>exact zdt _ _
theorem zm3 {S:Type} [MemLike S] (l:Lay) (σ:S) (x m:Int) (i:Nat):0≤(zdk l σ x m i).1∧(zdk l σ x m i).1<18446744073709551616:=by
 cases i with
 | zero=>exact zmi _ _ _
 | succ i=>exact zdt _ _
abbrev edgV (e:Edg):Value:=.agg #[.int .i64 e.u,.int .i64 e.v,.int .i64 e.level,.bool e.tree]
theorem quo2 (z:Int):IntKind.i64.wrap ((IntKind.i64.wrap z).tdiv 2)=(IntKind.i64.wrap z).tdiv 2:=by
 have h:-9223372036854775808≤IntKind.i64.wrap z∧IntKind.i64.wrap z<9223372036854775808:=by
  rw [IntKind.wrap_i64]; omega
 generalize IntKind.i64.wrap z=y at *
 refine wr64 ?_
 have h1:=Int.mul_tdiv_add_tmod y 2
 have h2:=Int.tmod_lt_of_pos y (show (0:Int)<2 by omega)
 have h3:=Int.lt_tmod_of_pos y (show (0:Int)<2 by omega)
 omega
theorem zdc:(Tryz.prog.underlying 29).isSome=true:=by kernel_rfl
theorem zrl:intB Tryz.prog 5 .u8=true:=by kernel_rfl
theorem zu5:Tryz.prog.underlying 9=some .string:=by kernel_rfl
theorem fc_u5:(Tryz.prog.underlying 5).isSome=true:=by kernel_rfl
theorem zaC:intB Tryz.prog 3 .i64=true:=by kernel_rfl
theorem ztY:zak Tryz.prog 165=true:=by kernel_rfl
theorem zaO:fldB Tryz.prog 41 0 0=true:=by kernel_rfl
theorem zah:zcA Tryz.prog 3=true:=by kernel_rfl
theorem ze0:(Tryz.prog.underlying 3).isSome=true:=by kernel_rfl
theorem zhv:intB Tryz.prog 203 .u64=true:=by kernel_rfl
theorem zud:zak Tryz.prog 121=true:=by kernel_rfl
theorem zaa:aggB Tryz.prog 41 3=true:=by kernel_rfl
theorem zfB:zak Tryz.prog 87=true:=by kernel_rfl
theorem fc_m:Tryz.prog.follows .mixedOrders=true:=by kernel_rfl
theorem zbY:fldB Tryz.prog 41 1 1=true:=by kernel_rfl
theorem zmr:zak Tryz.prog 88=true:=by kernel_rfl
theorem zca:zak Tryz.prog 89=true:=by kernel_rfl
theorem zeC:fldB Tryz.prog 41 2 2=true:=by kernel_rfl
theorem zjg:zak Tryz.prog 137=true:=by kernel_rfl
theorem zhI:zak Tryz.prog 177=true:=by kernel_rfl
theorem zpE:zak Tryz.prog 166=true:=by kernel_rfl
theorem zpL:zak Tryz.prog 122=true:=by kernel_rfl
theorem zhD:zak Tryz.prog 31=true:=by kernel_rfl
theorem zr5:zak Tryz.prog 90=true:=by kernel_rfl
theorem zge:zby Tryz.prog 59=some (.agg #[.bool false,.int .i64 0,.int .i64 0,.int .i64 0,.int .i64 0]):=by kernel_rfl
theorem zpc:za2 Tryz.prog 59 [(0,1),(1,1),(2,1),(3,1),(4,1)]=true:=by kernel_rfl
theorem zcx:aggB Tryz.prog 59 5=true:=by kernel_rfl
theorem zdX:fldB Tryz.prog 260 2 2=true:=by kernel_rfl
theorem zbq:fldB Tryz.prog 260 0 0=true:=by kernel_rfl
theorem zfZ:zak Tryz.prog 253=true:=by kernel_rfl
theorem zbD:fldB Tryz.prog 260 1 1=true:=by kernel_rfl
theorem zdW:fldB Tryz.prog 260 3 3=true:=by kernel_rfl
theorem zat:aggB Tryz.prog 260 4=true:=by kernel_rfl
theorem ztF:zak Tryz.prog 254=true:=by kernel_rfl
theorem zpo:zak Tryz.prog 228=true:=by kernel_rfl
theorem za7:intB Tryz.prog 29 .u64=true:=by kernel_rfl
theorem zbo:zby Tryz.prog 260=some (.agg #[.int .i64 0,.int .i64 0,.int .i64 0,.int .i64 0]):=by kernel_rfl
theorem zls:zak Tryz.prog 227=true:=by kernel_rfl
theorem zfU:za2 Tryz.prog 260 [(0,1),(1,1),(2,1),(3,1)]=true:=by kernel_rfl
theorem zcq:fldB Tryz.prog 137 0 0=true:=by kernel_rfl
theorem zcp:fldB Tryz.prog 137 1 1=true:=by kernel_rfl
theorem zer:zak Tryz.prog 195=true:=by kernel_rfl
theorem zpn:zak Tryz.prog 229=true:=by kernel_rfl
theorem zjd:zak Tryz.prog 222=true:=by kernel_rfl
theorem zpz:zak Tryz.prog 187=true:=by kernel_rfl
theorem zaM:fldB Tryz.prog 182 1 3=true:=by kernel_rfl
theorem zba:zcA Tryz.prog 180=true:=by kernel_rfl
theorem zav:fldB Tryz.prog 182 0 0=true:=by kernel_rfl
theorem zbF:zak Tryz.prog 35=true:=by kernel_rfl
theorem zmu:zak Tryz.prog 32=true:=by kernel_rfl
theorem zfX:fldB Tryz.prog 59 1 1=true:=by kernel_rfl
theorem zab:aggB Tryz.prog 182 6=true:=by kernel_rfl
theorem zpp:zak Tryz.prog 221=true:=by kernel_rfl
theorem zlt:zak Tryz.prog 198=true:=by kernel_rfl
theorem zd0:zak Tryz.prog 250=true:=by kernel_rfl
theorem zhy:fldB Tryz.prog 182 2 4=true:=by kernel_rfl
theorem zbk:aggB Tryz.prog 137 2=true:=by kernel_rfl
theorem zlu:zak Tryz.prog 197=true:=by kernel_rfl
theorem zje:zak Tryz.prog 184=true:=by kernel_rfl
theorem zic:fldB Tryz.prog 59 0 0=true:=by kernel_rfl
theorem zcG:zcA Tryz.prog 4=true:=by kernel_rfl
theorem zpA:zak Tryz.prog 186=true:=by kernel_rfl
theorem zpb:zby Tryz.prog 122=some (.agg #[.int .i64 0,.int .i64 0]):=by kernel_rfl
theorem zcS:zkn Tryz.prog 122 2 3 1=true:=by kernel_rfl
theorem zlo:zak Tryz.prog 276=true:=by kernel_rfl
theorem ztA:zak Tryz.prog 277=true:=by kernel_rfl
theorem zhH:zak Tryz.prog 185=true:=by kernel_rfl
theorem zf0:zak Tryz.prog 223=true:=by kernel_rfl
theorem zjb:zak Tryz.prog 261=true:=by kernel_rfl
theorem zfY:zak Tryz.prog 259=true:=by kernel_rfl
theorem zhE:zak Tryz.prog 260=true:=by kernel_rfl
theorem zlp:zak Tryz.prog 262=true:=by kernel_rfl
theorem zja:zak Tryz.prog 275=true:=by kernel_rfl
theorem ztB:zak Tryz.prog 274=true:=by kernel_rfl
theorem zlq:zak Tryz.prog 258=true:=by kernel_rfl
theorem ztC:zak Tryz.prog 257=true:=by kernel_rfl
theorem zaA:fldB Tryz.prog 188 0 0=true:=by kernel_rfl
theorem ze3:zak Tryz.prog 103=true:=by kernel_rfl
theorem zhG:zak Tryz.prog 190=true:=by kernel_rfl
theorem ztI:zak Tryz.prog 243=true:=by kernel_rfl
theorem ztH:zak Tryz.prog 244=true:=by kernel_rfl
theorem zjc:zak Tryz.prog 239=true:=by kernel_rfl
theorem zlr:zak Tryz.prog 242=true:=by kernel_rfl
theorem zdf:aggB Tryz.prog 188 6=true:=by kernel_rfl
theorem ztJ:zak Tryz.prog 238=true:=by kernel_rfl
theorem zph:zak Tryz.prog 240=true:=by kernel_rfl
theorem zub:zak Tryz.prog 147=true:=by kernel_rfl
theorem zbr:fldB Tryz.prog 190 1 3=true:=by kernel_rfl
theorem zaV:fldB Tryz.prog 190 0 0=true:=by kernel_rfl
theorem zjf:zak Tryz.prog 140=true:=by kernel_rfl
theorem zpt:zak Tryz.prog 203=true:=by kernel_rfl
theorem zpC:zak Tryz.prog 172=true:=by kernel_rfl
theorem zps:zak Tryz.prog 204=true:=by kernel_rfl
theorem zi7:zby Tryz.prog 217=some (.agg #[.int .i64 0,.int .i64 0,.int .i64 0,.bool false]):=by kernel_rfl
theorem zde:aggB Tryz.prog 190 4=true:=by kernel_rfl
theorem zpD:zak Tryz.prog 170=true:=by kernel_rfl
theorem ztX:zak Tryz.prog 171=true:=by kernel_rfl
theorem ztr:za2 Tryz.prog 217 [(0,1),(1,1),(2,1),(3,1)]=true:=by kernel_rfl
theorem zfC:aggB Tryz.prog 217 4=true:=by kernel_rfl
theorem za3:fldB Tryz.prog 192 1 6=true:=by kernel_rfl
theorem ztE:zak Tryz.prog 255=true:=by kernel_rfl
theorem ztD:zak Tryz.prog 256=true:=by kernel_rfl
theorem zaW:aggB Tryz.prog 192 10=true:=by kernel_rfl
theorem zpl:zak Tryz.prog 232=true:=by kernel_rfl
theorem zpk:zak Tryz.prog 233=true:=by kernel_rfl
theorem zbS:fldB Tryz.prog 192 0 0=true:=by kernel_rfl
theorem zdF:zqd Tryz.prog 4=true:=by kernel_rfl
theorem zpg:zak Tryz.prog 241=true:=by kernel_rfl
theorem ztK:zak Tryz.prog 235=true:=by kernel_rfl
theorem zhF:zak Tryz.prog 234=true:=by kernel_rfl
theorem zpj:zak Tryz.prog 236=true:=by kernel_rfl
theorem zpi:zak Tryz.prog 237=true:=by kernel_rfl
theorem zpK:zak Tryz.prog 134=true:=by kernel_rfl
theorem zhx:fldB Tryz.prog 217 0 0=true:=by kernel_rfl
theorem zdY:fldB Tryz.prog 217 2 2=true:=by kernel_rfl
theorem zpq:zak Tryz.prog 206=true:=by kernel_rfl
theorem zpr:zak Tryz.prog 205=true:=by kernel_rfl
theorem zhw:fldB Tryz.prog 217 1 1=true:=by kernel_rfl
theorem zbf:fldB Tryz.prog 194 0 0=true:=by kernel_rfl
theorem ztR:zak Tryz.prog 207=true:=by kernel_rfl
theorem ztQ:zak Tryz.prog 208=true:=by kernel_rfl
theorem zig:aggB Tryz.prog 194 10=true:=by kernel_rfl
theorem ztP:zak Tryz.prog 209=true:=by kernel_rfl
theorem zt0:zak Tryz.prog 162=true:=by kernel_rfl
theorem ztS:zak Tryz.prog 202=true:=by kernel_rfl
theorem zo6:zby Tryz.prog 196=some (.agg #[.int .i64 0,.int .i64 0,.int .i64 0,.nilIface,.int .i64 0,.int .i64 0,.int .i64 0,.int .i64 0,.int .i64 0,.nilIface]):=by kernel_rfl
theorem zln:za2 Tryz.prog 182 [(0,3),(3,1),(4,2)]=true:=by kernel_rfl
theorem zht:zby Tryz.prog 182=some (.agg #[.int .i64 0,.int .i64 0,.int .i64 0,.nilIface,.int .i64 0,.int .i64 0]):=by kernel_rfl
theorem ztx:za2 Tryz.prog 188 [(0,6)]=true:=by kernel_rfl
theorem zo7:zby Tryz.prog 188=some (.agg #[.int .i64 0,.int .i64 0,.int .i64 0,.nilIface,.int .i64 0,.int .i64 0]):=by kernel_rfl
theorem ztw:za2 Tryz.prog 190 [(0,3),(3,1)]=true:=by kernel_rfl
theorem ztn:zby Tryz.prog 190=some (.agg #[.int .i64 0,.int .i64 0,.int .i64 0,.nilIface]):=by kernel_rfl
theorem ztv:za2 Tryz.prog 192 [(0,6),(6,4)]=true:=by kernel_rfl
theorem ztm:zby Tryz.prog 192=some (.agg #[.int .i64 0,.int .i64 0,.int .i64 0,.nilIface,.int .i64 0,.int .i64 0,.int .i64 0,.int .i64 0,.int .i64 0,.nilIface]):=by kernel_rfl
theorem ztu:za2 Tryz.prog 194 [(0,10)]=true:=by kernel_rfl
theorem ztl:zby Tryz.prog 194=some (.agg #[.int .i64 0,.int .i64 0,.int .i64 0,.nilIface,.int .i64 0,.int .i64 0,.int .i64 0,.int .i64 0,.int .i64 0,.nilIface]):=by kernel_rfl
theorem ztt:za2 Tryz.prog 196 [(0,10)]=true:=by kernel_rfl
theorem zeE:aggB Tryz.prog 196 10=true:=by kernel_rfl
theorem zcn:fldB Tryz.prog 196 0 0=true:=by kernel_rfl
theorem zt2:zak Tryz.prog 160=true:=by kernel_rfl
theorem zt1:zak Tryz.prog 161=true:=by kernel_rfl
theorem ztZ:zak Tryz.prog 163=true:=by kernel_rfl
theorem zco:fldB Tryz.prog 139 0 0=true:=by kernel_rfl
theorem zhu:zcA Tryz.prog 22=true:=by kernel_rfl
theorem zap:zcf Tryz.prog 22 29 1=true:=by kernel_rfl
theorem zdd:fldB Tryz.prog 139 1 1=true:=by kernel_rfl
theorem zhC:fldB Tryz.prog 126 0 0=true:=by kernel_rfl
theorem zmt:zak Tryz.prog 82=true:=by kernel_rfl
theorem zi8:ptrB Tryz.prog 140=true:=by kernel_rfl
theorem zdn:zcA Tryz.prog 29=true:=by kernel_rfl
theorem zhB:fldB Tryz.prog 126 1 1=true:=by kernel_rfl
theorem zhz:fldB Tryz.prog 149 0 0=true:=by kernel_rfl
theorem zd8:zcA Tryz.prog 25=true:=by kernel_rfl
theorem zj9:zak Tryz.prog 23=true:=by kernel_rfl
theorem zif:zak Tryz.prog 17=true:=by kernel_rfl
theorem ze1:appB Tryz.prog 22 29 1=true:=by kernel_rfl
theorem zu4:zby Tryz.prog 29=some (.int .u64 0):=by kernel_rfl
theorem zpd:za2 Tryz.prog 139 [(0,1),(1,5)]=true:=by kernel_rfl
theorem zo9:zby Tryz.prog 139=some (.agg #[.slice none 0 0,.int .i64 0,.int .i64 0,.int .i64 0,.int .i64 0,.int .i64 0]):=by kernel_rfl
theorem zo8:zby Tryz.prog 149=some (.agg #[.pointer none]):=by kernel_rfl
theorem zty:za2 Tryz.prog 149 [(0,1)]=true:=by kernel_rfl
theorem zka:aggB Tryz.prog 149 1=true:=by kernel_rfl
theorem ztW:zak Tryz.prog 189=true:=by kernel_rfl
theorem zpy:zak Tryz.prog 188=true:=by kernel_rfl
theorem zpm:zak Tryz.prog 231=true:=by kernel_rfl
theorem zr8:zak Tryz.prog 70=true:=by kernel_rfl
theorem zpu:zak Tryz.prog 201=true:=by kernel_rfl
theorem zpJ:zak Tryz.prog 138=true:=by kernel_rfl
theorem zpI:zak Tryz.prog 148=true:=by kernel_rfl
theorem zf1:zfn Tryz.prog 149 "Store" 302=true:=by kernel_rfl
theorem zui:zak Tryz.prog 114=true:=by kernel_rfl
theorem zvb:zak Tryz.prog 91=true:=by kernel_rfl
theorem zsb:zak Tryz.prog 16=true:=by kernel_rfl
theorem zms:zak Tryz.prog 85=true:=by kernel_rfl
theorem zi9:zgC Tryz.prog 149=true:=by kernel_rfl
theorem zuh:zak Tryz.prog 115=true:=by kernel_rfl
theorem zpe:za2 Tryz.prog 137 [(0,1),(1,1)]=true:=by kernel_rfl
theorem zpa:zby Tryz.prog 137=some (.agg #[.int .i64 0,.int .i64 0]):=by kernel_rfl
theorem zjh:zak Tryz.prog 116=true:=by kernel_rfl
theorem zai:zcf Tryz.prog 48 3 1=true:=by kernel_rfl
theorem zeB:appB Tryz.prog 48 3 1=true:=by kernel_rfl
theorem zpM:aggB Tryz.prog 126 5=true:=by kernel_rfl
theorem zuj:zak Tryz.prog 106=true:=by kernel_rfl
theorem zhs:zby Tryz.prog 3=some (.int .i64 0):=by kernel_rfl
theorem zpx:zak Tryz.prog 191=true:=by kernel_rfl
theorem zgf:zcA Tryz.prog 48=true:=by kernel_rfl
theorem zt9:zak Tryz.prog 150=true:=by kernel_rfl
theorem zdV:fldB Tryz.prog 264 0 0=true:=by kernel_rfl
theorem zcl:fldB Tryz.prog 264 1 1=true:=by kernel_rfl
theorem zbM:zcA Tryz.prog 23=true:=by kernel_rfl
theorem zr3:za2 Tryz.prog 34 [(0,1),(1,1),(2,1)]=true:=by kernel_rfl
theorem zdb:zby Tryz.prog 34=some (.agg #[.bool false,.int .i64 0,.int .u64 0]):=by kernel_rfl
theorem zae:zcf Tryz.prog 23 34 3=true:=by kernel_rfl
theorem zbp:appB Tryz.prog 23 34 3=true:=by kernel_rfl
theorem zr6:zak Tryz.prog 83=true:=by kernel_rfl
theorem zvf:zak Tryz.prog 58=true:=by kernel_rfl
theorem ztq:za2 Tryz.prog 264 [(0,1),(1,1)]=true:=by kernel_rfl
theorem ztj:zby Tryz.prog 264=some (.agg #[.pointer none,.slice none 0 0]):=by kernel_rfl
theorem ztL:zak Tryz.prog 230=true:=by kernel_rfl
theorem ztG:zak Tryz.prog 252=true:=by kernel_rfl
theorem ztp:(Tryz.prog.underlying 203).isSome=true:=by kernel_rfl
theorem ztN:zak Tryz.prog 225=true:=by kernel_rfl
theorem ztM:zak Tryz.prog 226=true:=by kernel_rfl
theorem zbh:aggB Tryz.prog 34 3=true:=by kernel_rfl
theorem zaI:fldB Tryz.prog 34 0 0=true:=by kernel_rfl
theorem zaT:fldB Tryz.prog 34 1 1=true:=by kernel_rfl
theorem ztO:zak Tryz.prog 224=true:=by kernel_rfl
theorem zaU:fldB Tryz.prog 198 1 1=true:=by kernel_rfl
theorem ztU:zak Tryz.prog 199=true:=by kernel_rfl
theorem zaL:fldB Tryz.prog 198 0 0=true:=by kernel_rfl
theorem zb9:zcA Tryz.prog 186=true:=by kernel_rfl
theorem ztT:zak Tryz.prog 200=true:=by kernel_rfl
theorem zpw:zak Tryz.prog 192=true:=by kernel_rfl
theorem zlv:zak Tryz.prog 193=true:=by kernel_rfl
theorem zpv:zak Tryz.prog 194=true:=by kernel_rfl
theorem zcm:fldB Tryz.prog 198 2 4=true:=by kernel_rfl
theorem zen:zgC Tryz.prog 186=true:=by kernel_rfl
theorem ztV:zak Tryz.prog 196=true:=by kernel_rfl
theorem ze2:fldB Tryz.prog 198 3 6=true:=by kernel_rfl
theorem zep:fldB Tryz.prog 198 5 17=true:=by kernel_rfl
theorem zeo:fldB Tryz.prog 198 6 18=true:=by kernel_rfl
theorem zbE:fldB Tryz.prog 145 1 1=true:=by kernel_rfl
theorem zhA:fldB Tryz.prog 145 0 0=true:=by kernel_rfl
theorem zdZ:fldB Tryz.prog 145 2 2=true:=by kernel_rfl
theorem ztz:za2 Tryz.prog 145 [(0,1),(1,1),(2,1)]=true:=by kernel_rfl
theorem zto:zby Tryz.prog 145=some (.agg #[.slice none 0 0,.int .i64 0,.bool false]):=by kernel_rfl
theorem zcW:fldB Tryz.prog 34 2 2=true:=by kernel_rfl
theorem zgi:zak Tryz.prog 19=true:=by kernel_rfl
theorem zvc:zak Tryz.prog 84=true:=by kernel_rfl
theorem zbG:zjU Tryz.prog 152 3 3=true:=by kernel_rfl
theorem zfA:zby Tryz.prog 50=some (.agg #[.slice none 0 0,.int .i64 0,.bool false,.slice none 0 0]):=by kernel_rfl
theorem zpG:zak Tryz.prog 151=true:=by kernel_rfl
theorem zr2:za2 Tryz.prog 50 [(0,1),(1,1),(2,1),(3,1)]=true:=by kernel_rfl
theorem zbP:aggB Tryz.prog 50 4=true:=by kernel_rfl
theorem zlw:zak Tryz.prog 152=true:=by kernel_rfl
theorem za8:fldB Tryz.prog 50 0 0=true:=by kernel_rfl
theorem zt8:zak Tryz.prog 153=true:=by kernel_rfl
theorem zbu:fldB Tryz.prog 50 1 1=true:=by kernel_rfl
theorem zt7:zak Tryz.prog 154=true:=by kernel_rfl
theorem zcV:fldB Tryz.prog 50 3 3=true:=by kernel_rfl
theorem zgg:fldB Tryz.prog 198 4 16=true:=by kernel_rfl
theorem zpF:zak Tryz.prog 155=true:=by kernel_rfl
theorem zt6:zak Tryz.prog 156=true:=by kernel_rfl
theorem zt5:zak Tryz.prog 157=true:=by kernel_rfl
theorem zt4:zak Tryz.prog 158=true:=by kernel_rfl
theorem zt3:zak Tryz.prog 159=true:=by kernel_rfl
theorem zua:zak Tryz.prog 149=true:=by kernel_rfl
theorem zuc:zak Tryz.prog 133=true:=by kernel_rfl
theorem zts:za2 Tryz.prog 198 [(0,1),(1,3),(4,2),(6,10),(16,1),(17,1),(18,1)]=true:=by kernel_rfl
theorem ztk:zby Tryz.prog 198=some (.agg #[.pointer none,.int .i64 0,.int .i64 0,.int .i64 0,.int .i64 0,.int .i64 0,.int .i64 0,.int .i64 0,.int .i64 0,.nilIface,.int .i64 0,.int .i64 0,.int .i64 0,.int .i64 0,.int .i64 0,.nilIface,.slice none 0 0,.int .i64 0,.int .i64 0]):=by kernel_rfl
theorem zug:zak Tryz.prog 118=true:=by kernel_rfl
theorem zue:zak Tryz.prog 120=true:=by kernel_rfl
theorem zuf:zak Tryz.prog 119=true:=by kernel_rfl
theorem zj8:zby Tryz.prog 63=some (.agg #[.int .i64 0,.int .i64 0,.int .i64 0,.int .i64 0]):=by kernel_rfl
theorem zu6:za2 Tryz.prog 63 [(0,1),(1,1),(2,1),(3,1)]=true:=by kernel_rfl
theorem zeD:aggB Tryz.prog 63 4=true:=by kernel_rfl
theorem zfW:fldB Tryz.prog 63 0 0=true:=by kernel_rfl
theorem zdD:fldB Tryz.prog 63 2 2=true:=by kernel_rfl
theorem zfV:fldB Tryz.prog 63 3 3=true:=by kernel_rfl
theorem zsa:zak Tryz.prog 33=true:=by kernel_rfl
theorem zdE:fldB Tryz.prog 63 1 1=true:=by kernel_rfl
theorem zcU:fldB Tryz.prog 57 1 3=true:=by kernel_rfl
theorem zbX:fldB Tryz.prog 57 0 0=true:=by kernel_rfl
theorem zr9:zak Tryz.prog 34=true:=by kernel_rfl
theorem zuk:zak Tryz.prog 102=true:=by kernel_rfl
theorem zvg:zak Tryz.prog 42=true:=by kernel_rfl
theorem zgh:zak Tryz.prog 45=true:=by kernel_rfl
theorem zie:fldB Tryz.prog 44 0 0=true:=by kernel_rfl
theorem znj:fldB Tryz.prog 44 1 3=true:=by kernel_rfl
theorem zve:zak Tryz.prog 76=true:=by kernel_rfl
theorem zr4:ptrB Tryz.prog 25=true:=by kernel_rfl
theorem zu7:za2 Tryz.prog 57 [(0,3),(3,1),(4,1),(5,1)]=true:=by kernel_rfl
theorem zu1:zby Tryz.prog 57=some (.agg #[.int .i64 0,.int .i64 0,.int .i64 0,.pointer none,.int .i64 0,.slice none 0 0]):=by kernel_rfl
theorem zu9:za2 Tryz.prog 41 [(0,1),(1,1),(2,1)]=true:=by kernel_rfl
theorem zu3:zby Tryz.prog 41=some (.agg #[.int .i64 0,.int .i64 0,.int .i64 0]):=by kernel_rfl
theorem zu8:za2 Tryz.prog 44 [(0,3),(3,1),(4,1)]=true:=by kernel_rfl
theorem zu2:zby Tryz.prog 44=some (.agg #[.int .i64 0,.int .i64 0,.int .i64 0,.slice none 0 0,.slice none 0 0]):=by kernel_rfl
theorem zvh:zak Tryz.prog 25=true:=by kernel_rfl
theorem zva:ptrB Tryz.prog 46=true:=by kernel_rfl
theorem zvd:zak Tryz.prog 80=true:=by kernel_rfl
theorem zr7:zak Tryz.prog 81=true:=by kernel_rfl
theorem zid:fldB Tryz.prog 50 2 2=true:=by kernel_rfl
theorem zpB:zak Tryz.prog 18=true:=by kernel_rfl
theorem zpf:ptrB Tryz.prog 31=true:=by kernel_rfl
theorem zea:zak Tryz.prog 20=true:=by kernel_rfl
theorem zeq:zak Tryz.prog 22=true:=by kernel_rfl
theorem zd9:zak Tryz.prog 21=true:=by kernel_rfl
theorem zpH:zak Tryz.prog 15=true:=by kernel_rfl
theorem za5 {n m:Int}:FnD Tryz.prog 89 [.int .i64 n,.int .i64 m] [] (.bool (decide (0≤n∧n<m))) []:=by
 refine Fn.enter (Tryz.func89) rfl rfl (fun w0 R=>?_)
 refine sA (xaf rfl (dA (xmi rfl (TL.geq rfl rfl rfl rfl (fun q1=>?_) (fun q1=>?_)))))
 refine xmt rfl (xmi rfl (xmi rfl (TL.lssV rfl rfl rfl rfl (TL.pickT (.bool _) rfl rfl rfl rfl (xab rfl (dR ?_))))))
 refine FQ.ret1 (v:=(.bool _)) (Bs:=[]) [] rfl rfl rfl trivial ?_
 first | exact ⟨bT (by omega),rfl⟩ | exact ⟨bF (by omega),rfl⟩ | exact ⟨congrArg Value.bool (decide_eq_decide.2 (by omega)),rfl⟩
 refine xmf rfl (xo rfl (xo rfl (xo rfl (xpF rfl (xaf rfl (dR ?_))))))
 refine FQ.ret1 (v:=(.bool false)) (Bs:=[]) [] rfl rfl rfl trivial ?_
 first | exact ⟨bT (by omega),rfl⟩ | exact ⟨bF (by omega),rfl⟩ | exact ⟨congrArg Value.bool (decide_eq_decide.2 (by omega)),rfl⟩
theorem zrb {x:Int} (h0:0≤x) (h1:x≤16):FnD Tryz.prog 165 [.int .u64 x] [] (.int .i64 (levI x)) []:=by
 have hl:=zs9 h0 h1
 refine Fn.enter (Tryz.func165) rfl rfl (fun w0 R=>?_)
 refine sA (xai rfl (dB (xmi rfl (TL.geqF rfl rfl (by omega) rfl rfl (TL.done (TQ.then (TC.condF rfl (TC.skip ?_))))))))
 refine TQ.then (sB (xmi rfl (TL.geqF rfl rfl (by omega) rfl rfl (TL.done (TQ.then (TC.condF rfl (TC.skip (TQ.then ?_))))))))
 refine sB (xmi rfl (TL.geqF rfl rfl (by omega) rfl rfl (dF rfl (xmi rfl (xmi rfl (TL.conv _ rfl zdc zrl (wru8 (by omega)) rfl rfl (TL.ixS (levI x) rfl rfl zu5 (by omega) (zuY h0 h1 (by kernel_rfl)) rfl rfl (TL.conv _ rfl fc_u5 zaC (wr64 (by omega)) rfl rfl ?_))))))))
 refine TL.add _ rfl rfl (wr64 (by omega)) rfl rfl (xai rfl (dR ?_))
 refine FQ.ret1 (v:=(.int _ _)) (Bs:=[]) [] rfl rfl rfl trivial ?_
 exact ⟨iE (by omega),rfl⟩
theorem zuW {x:Int} (h0:0≤x) (h1:x≤16):FnD Tryz.prog 121 [.int .u64 x] [] (.int .i64 (levI x)) []:=by
 refine Fn.enter (Tryz.func121) rfl rfl (fun w0 R=>?_)
 refine sA (xai rfl (dS (TC.condF rfl (TC.skip (TQ.then (sA (xmi rfl (TL.callD [] [] (zrb (by omega) (by omega)) ⟨rfl,trivial⟩ trivial ztY rfl rfl rfl rfl rfl trivial ?_))))))))
 refine xai rfl (dR ?_)
 refine FQ.ret1 (v:=(.int _ _)) (Bs:=[]) [] rfl rfl rfl trivial ?_
 exact ⟨rfl,rfl⟩
theorem zb7 {l:Lay} (hl:l.Ok)  : FnD Tryz.prog 87 [layV l] [] (.int .i64 l.lev) []:=by
 have hb:=zk6 hl
 refine Fn.enter (Tryz.func87) rfl rfl (fun w0 R=>?_)
 refine sA (xB 0 rfl (fun bk0=>(xai rfl (dA (xf 0 zaO rfl (xli 0 zah rfl rfl (TL.conv _ rfl ze0 zhv (zqz (by omega)) rfl rfl (TL.callD [] [] (zuW (by omega) (by omega)) ⟨rfl,trivial⟩ trivial zud rfl rfl rfl rfl rfl trivial (xai rfl ?_)))))))))
 refine dR ?_
 refine FQ.ret1 (v:=(.int _ _)) (Bs:=[]) [] rfl rfl rfl trivial ?_
 exact ⟨rfl,rfl⟩
theorem zjn {l:Lay} (hl:l.Ok)  : FnD Tryz.prog 88 [layV l] [] (.int .i64 l.arcs) []:=by
 have hb:=zbb hl
 refine Fn.enter (Tryz.func88) rfl rfl (fun w0 R=>?_)
 refine sA (xB 0 rfl (fun bk0=>(xai rfl (dA (xL3 0 zaa rfl rfl (TL.callD [] [] (zb7 hl) ⟨rfl,trivial⟩ trivial zfB rfl rfl rfl rfl rfl trivial (TL.mul _ rfl rfl (wr64 (by omega)) rfl rfl (xai rfl (dR ?_)))))))))
 refine FQ.ret1 (v:=(.int _ _)) (Bs:=[]) [] rfl rfl rfl trivial ?_
 exact ⟨rfl,rfl⟩
theorem zdQ {l:Lay} (hl:l.Ok)  : FnD Tryz.prog 31 [layV l] [] (.int .i64 l.nodes) []:=by
 have hb:=zbb hl
 refine Fn.enter (Tryz.func31) rfl rfl (fun w0 R=>?_)
 refine sA (xB 0 rfl (fun bk0=>(xai rfl (dS (TC.draw [(0,true),(2,true),(3,true),(5,true),(6,true),(7,true),(1,false),(4,true),(8,false),(9,true),(10,true),(11,true)] [0] fc_m (by kernel_rfl) (xL3 0 zaa rfl rfl (xf 0 zaO rfl (xli 0 zah rfl rfl (xf 1 zbY rfl ?_)))))))))
 refine xli 0 zah rfl rfl (xL3 0 zaa rfl rfl (TL.callD [] [] (zb7 hl) ⟨rfl,trivial⟩ trivial zfB rfl rfl rfl rfl rfl (kL1 rfl trivial) (TL.mul _ rfl rfl (wr64 (by omega)) rfl rfl (TL.callD [] [] (zjn hl) ⟨rfl,trivial⟩ trivial zmr rfl rfl rfl rfl rfl (kL1 rfl trivial) (TL.mul _ rfl rfl (wr64 (by omega)) rfl rfl (TL.add _ rfl rfl (wr64 (by omega)) rfl rfl (xai rfl (dR ?_))))))))
 refine FQ.ret1 (v:=(.int _ _)) (Bs:=[]) [] rfl rfl rfl trivial ?_
 exact ⟨rfl,rfl⟩
theorem zcX {l:Lay} (hl:l.Ok) {i v:Int}:FnD Tryz.prog 103 [layV l,.int .i64 i,.int .i64 v] [] (.int .i64 (l.vertex i v)) []:=by
 have hb:=zbb hl
 refine Fn.enter (Tryz.func103) rfl rfl (fun w0 R=>?_)
 refine sA (xB 0 rfl (fun bk0=>(xai rfl (dB (xmi rfl (xL3 0 zaa rfl rfl (TL.callD [] [] (zb7 hl) ⟨rfl,trivial⟩ trivial zfB rfl rfl rfl rfl rfl trivial (TL.callD [] [] za5 ⟨rfl,rfl,trivial⟩ trivial zca rfl rfl rfl rfl rfl trivial (TL.casesP rfl (fun q1=>?_) (fun q1=>?_))))))))))
 refine xnt rfl (xmf rfl (xmi rfl (xf 0 zaO rfl (xli 0 zah rfl rfl (TL.callD [] [] za5 ⟨rfl,rfl,trivial⟩ trivial zca rfl rfl rfl rfl rfl trivial (TL.casesP rfl (fun q2=>?_) (fun q2=>?_)))))))
 refine xnt rfl (xpF rfl (dF rfl (xmi rfl (xf 0 zaO rfl (xli 0 zah rfl rfl (TL.mul _ rfl rfl (wr64 (by have:=zc8 (a:=i) (A:=5) (b:=(l.V:Int)) (B:=16) (by omega) (by omega) (by omega) (by omega); omega)) rfl rfl (TL.add _ rfl rfl (wr64 (by have:=zc8 (a:=i) (A:=5) (b:=(l.V:Int)) (B:=16) (by omega) (by omega) (by omega) (by omega); omega)) rfl rfl (xmi rfl ?_))))))))
 refine TL.add _ rfl rfl (wr64 (by have:=zc8 (a:=i) (A:=5) (b:=(l.V:Int)) (B:=16) (by omega) (by omega) (by omega) (by omega); omega)) rfl rfl (xai rfl (dR ?_))
 refine FQ.ret1 (v:=(.int _ _)) (Bs:=[]) [] rfl rfl rfl trivial ?_
 first | exact ⟨iE (by unfold Lay.vertex; rw [if_pos (by omega)]),rfl⟩ | exact ⟨iE (by unfold Lay.vertex; rw [if_neg (by omega)]),rfl⟩
 refine xnf rfl (xpH rfl (dT rfl (xai rfl (dRR ?_))))
 refine FQ.ret1 (v:=(.int _ _)) (Bs:=[]) [] rfl rfl rfl trivial ?_
 first | exact ⟨iE (by unfold Lay.vertex; rw [if_pos (by omega)]),rfl⟩ | exact ⟨iE (by unfold Lay.vertex; rw [if_neg (by omega)]),rfl⟩
 refine xnf rfl (xmt rfl (xo rfl (xo rfl (xo rfl (xo rfl (xo rfl (xpT rfl (dT rfl ?_))))))))
 refine xai rfl (dRR ?_)
 refine FQ.ret1 (v:=(.int _ _)) (Bs:=[]) [] rfl rfl rfl trivial ?_
 first | exact ⟨iE (by unfold Lay.vertex; rw [if_pos (by omega)]),rfl⟩ | exact ⟨iE (by unfold Lay.vertex; rw [if_neg (by omega)]),rfl⟩
theorem zqi {l:Lay} (hl:l.Ok) {s i d:Int}:FnD Tryz.prog 242 [layV l,.int .i64 s,.int .i64 i,.int .i64 d] [] (.int .i64 (l.arc s i d)) []:=by
 have hb:=zbb hl
 refine Fn.enter (Tryz.func242) rfl rfl (fun w0 R=>?_)
 refine sA (xB 0 rfl (fun bk0=>(xai rfl (dB (xmi rfl (xf 1 zbY rfl (xli 0 zah rfl rfl (TL.callD [] [] za5 ⟨rfl,rfl,trivial⟩ trivial zca rfl rfl rfl rfl rfl trivial (TL.casesP rfl (fun q1=>?_) (fun q1=>?_))))))))))
 refine xnt rfl (xmf rfl (xmi rfl (xL3 0 zaa rfl rfl (TL.callD [] [] (zb7 hl) ⟨rfl,trivial⟩ trivial zfB rfl rfl rfl rfl rfl trivial (TL.callD [] [] za5 ⟨rfl,rfl,trivial⟩ trivial zca rfl rfl rfl rfl rfl trivial (TL.casesP rfl (fun q2=>?_) (fun q2=>?_)))))))
 refine xnt rfl (xpF rfl (xmf rfl (xmi rfl (TL.callD [] [] za5 ⟨rfl,rfl,trivial⟩ trivial zca rfl rfl rfl rfl rfl trivial (TL.casesP rfl (fun q3=>?_) (fun q3=>?_))))))
 refine xnt rfl (xpF rfl (TL.done (TQ.then (TC.condF rfl (TC.skip (TQ.then (TC.seq (TC.draw [(0,true),(2,true),(3,true),(6,true),(7,true),(11,true),(12,true),(14,true),(1,false),(4,true),(5,true),(8,false),(9,true),(10,true),(13,true),(15,true),(16,true)] [0] fc_m (by kernel_rfl) ?_))))))))
 refine xL3 0 zaa rfl rfl (xf 0 zaO rfl (xli 0 zah rfl rfl (xmi rfl (xL3 0 zaa rfl rfl (xmi rfl (TL.mul _ rfl rfl (wr64 (by omega)) rfl rfl (xmi rfl (TL.callD [] [] (zb7 hl) ⟨rfl,trivial⟩ trivial zfB rfl rfl rfl rfl rfl (kL1 rfl trivial) ?_))))))))
 refine TL.mul _ rfl rfl (wr64 (by omega)) rfl rfl (TL.add _ rfl rfl (wr64 (by omega)) rfl rfl (TL.callD [] [] (zjn hl) ⟨rfl,trivial⟩ trivial zmr rfl rfl rfl rfl rfl (kL1 rfl trivial) (TL.mul _ rfl rfl (wr64 (by have:=zc8 (a:=s) (A:=48) (b:=l.arcs) (B:=10) (by omega) (by omega) (by omega) (by omega); omega)) rfl rfl (TL.add _ rfl rfl (wr64 (by have:=zc8 (a:=s) (A:=48) (b:=l.arcs) (B:=10) (by omega) (by omega) (by omega) (by omega); omega)) rfl rfl (TL.add _ rfl rfl (wr64 (by have:=zc8 (a:=s) (A:=48) (b:=l.arcs) (B:=10) (by omega) (by omega) (by omega) (by omega); omega)) rfl rfl ?_)))))
 refine TL.add _ rfl rfl (wr64 (by have:=zc8 (a:=s) (A:=48) (b:=l.arcs) (B:=10) (by omega) (by omega) (by omega) (by omega); omega)) rfl rfl (xai rfl (dR ?_))
 refine FQ.ret1 (v:=(.int _ _)) (Bs:=[]) [] rfl rfl rfl trivial ?_
 first | exact ⟨iE (by unfold Lay.arc; rw [if_pos (by omega)]),rfl⟩ | exact ⟨iE (by unfold Lay.arc; rw [if_neg (by omega)]),rfl⟩
 refine xnf rfl (xpH rfl (dT rfl (xai rfl (dRR ?_))))
 refine FQ.ret1 (v:=(.int _ _)) (Bs:=[]) [] rfl rfl rfl trivial ?_
 first | exact ⟨iE (by unfold Lay.arc; rw [if_pos (by omega)]),rfl⟩ | exact ⟨iE (by unfold Lay.arc; rw [if_neg (by omega)]),rfl⟩
 refine xnf rfl (xpH rfl (xmt rfl (xo rfl (xo rfl (xo rfl (xpT rfl (dT rfl (xai rfl ?_))))))))
 refine dRR ?_
 refine FQ.ret1 (v:=(.int _ _)) (Bs:=[]) [] rfl rfl rfl trivial ?_
 first | exact ⟨iE (by unfold Lay.arc; rw [if_pos (by omega)]),rfl⟩ | exact ⟨iE (by unfold Lay.arc; rw [if_neg (by omega)]),rfl⟩
 refine xnf rfl (xmt rfl (xo rfl (xo rfl (xo rfl (xo rfl (xo rfl (xpT rfl (xmt rfl ?_))))))))
 refine xo rfl (xo rfl (xo rfl (xpT rfl (dT rfl (xai rfl (dRR ?_))))))
 refine FQ.ret1 (v:=(.int _ _)) (Bs:=[]) [] rfl rfl rfl trivial ?_
 first | exact ⟨iE (by unfold Lay.arc; rw [if_pos (by omega)]),rfl⟩ | exact ⟨iE (by unfold Lay.arc; rw [if_neg (by omega)]),rfl⟩
theorem zi4 {l:Lay} (hl:l.Ok)  : FnD Tryz.prog 137 [layV l] [] (.int .i64 l.free) []:=by
 have hb:=zbb hl
 refine Fn.enter (Tryz.func137) rfl rfl (fun w0 R=>?_)
 refine sA (xB 0 rfl (fun bk0=>(xai rfl (dA (xf 2 zeC rfl (xli 0 zah rfl rfl (xai rfl (dR ?_))))))))
 refine FQ.ret1 (v:=(.int _ _)) (Bs:=[]) [] rfl rfl rfl trivial ?_
 exact ⟨rfl,rfl⟩
theorem zoo {l:Lay} (hl:l.Ok) {s f:Int} (hf:0≤f∧f≤8):FnD Tryz.prog 177 [layV l,.int .i64 s,.int .i64 f] [] (.int .i64 (l.of s f)) []:=by
 have hb:=zbb hl
 refine Fn.enter (Tryz.func177) rfl rfl (fun w0 R=>?_)
 refine sA (xB 0 rfl (fun bk0=>(xai rfl (dB (xmi rfl (xf 1 zbY rfl (xli 0 zah rfl rfl (TL.callD [] [] za5 ⟨rfl,rfl,trivial⟩ trivial zca rfl rfl rfl rfl rfl trivial (TL.casesP rfl (fun q1=>?_) (fun q1=>?_))))))))))
 refine xnt rfl (dF rfl (xL3 0 zaa rfl rfl (TL.callD [] [] (zi4 hl) ⟨rfl,trivial⟩ trivial zjg rfl rfl rfl rfl rfl trivial (TL.add _ rfl rfl (wr64 (by omega)) rfl rfl (xmi rfl (TL.mul _ rfl rfl (wr64 (by omega)) rfl rfl (TL.add _ rfl rfl (wr64 (by omega)) rfl rfl (xmi rfl ?_))))))))
 refine TL.add _ rfl rfl (wr64 (by omega)) rfl rfl (xai rfl (dR ?_))
 refine FQ.ret1 (v:=(.int _ _)) (Bs:=[]) [] rfl rfl rfl trivial ?_
 first | exact ⟨iE (by unfold Lay.of Lay.free at *; rw [if_pos (by omega)]),rfl⟩ | exact ⟨iE (by unfold Lay.of Lay.free at *; rw [if_neg (by omega)]),rfl⟩
 refine xnf rfl (dT rfl (xai rfl (dRR ?_)))
 refine FQ.ret1 (v:=(.int _ _)) (Bs:=[]) [] rfl rfl rfl trivial ?_
 first | exact ⟨iE (by unfold Lay.of Lay.free at *; rw [if_pos (by omega)]),rfl⟩ | exact ⟨iE (by unfold Lay.of Lay.free at *; rw [if_neg (by omega)]),rfl⟩
theorem zpR {l:Lay} (hl:l.Ok) {s:Int}:FnD Tryz.prog 203 [layV l,.int .i64 s] [] (.int .i64 (l.ends s)) []:=by
 have hb:=zbb hl
 refine Fn.enter (Tryz.func203) rfl rfl (fun w0 R=>?_)
 refine sA (xB 0 rfl (fun bk0=>(xai rfl (dA (xL3 0 zaa rfl rfl (xmi rfl (TL.callD [] [] (zoo hl (by omega)) ⟨rfl,rfl,rfl,trivial⟩ trivial zhI rfl rfl rfl rfl rfl trivial (xai rfl (dR ?_)))))))))
 refine FQ.ret1 (v:=(.int _ _)) (Bs:=[]) [] rfl rfl rfl trivial ?_
 exact ⟨rfl,rfl⟩
theorem zml {l:Lay} (hl:l.Ok) {s:Int}:FnD Tryz.prog 172 [layV l,.int .i64 s] [] (.int .i64 (l.level s)) []:=by
 have hb:=zbb hl
 refine Fn.enter (Tryz.func172) rfl rfl (fun w0 R=>?_)
 refine sA (xB 0 rfl (fun bk0=>(xai rfl (dA (xL3 0 zaa rfl rfl (xmi rfl (TL.callD [] [] (zoo hl (by omega)) ⟨rfl,rfl,rfl,trivial⟩ trivial zhI rfl rfl rfl rfl rfl trivial (xai rfl (dR ?_)))))))))
 refine FQ.ret1 (v:=(.int _ _)) (Bs:=[]) [] rfl rfl rfl trivial ?_
 exact ⟨rfl,rfl⟩
theorem zs3 {l:Lay} (hl:l.Ok) {s d:Int}:FnD Tryz.prog 255 [layV l,.int .i64 s,.int .i64 d] [] (.int .i64 (l.next s d)) []:=by
 have hb:=zbb hl
 refine Fn.enter (Tryz.func255) rfl rfl (fun w0 R=>?_)
 refine sA (xB 0 rfl (fun bk0=>(xai rfl (dB (xmi rfl (TL.callD [] [] za5 ⟨rfl,rfl,trivial⟩ trivial zca rfl rfl rfl rfl rfl trivial (TL.casesP rfl (fun q1=>?_) (fun q1=>?_))))))))
 refine xnt rfl (dF rfl (xL3 0 zaa rfl rfl (xmi rfl (xmi rfl (TL.add _ rfl rfl (wr64 (by omega)) rfl rfl (TL.callD [] [] (zoo hl (by omega)) ⟨rfl,rfl,rfl,trivial⟩ trivial zhI rfl rfl rfl rfl rfl trivial (xai rfl (dR ?_))))))))
 refine FQ.ret1 (v:=(.int _ _)) (Bs:=[]) [] rfl rfl rfl trivial ?_
 first | exact ⟨iE (by unfold Lay.next; rw [if_pos (by omega)]),rfl⟩ | exact ⟨iE (by unfold Lay.next; rw [if_neg (by omega)]),rfl⟩
 refine xnf rfl (dT rfl (xai rfl (dRR ?_)))
 refine FQ.ret1 (v:=(.int _ _)) (Bs:=[]) [] rfl rfl rfl trivial ?_
 first | exact ⟨iE (by unfold Lay.next; rw [if_pos (by omega)]),rfl⟩ | exact ⟨iE (by unfold Lay.next; rw [if_neg (by omega)]),rfl⟩
theorem zsO {l:Lay} (hl:l.Ok) {s d:Int}:FnD Tryz.prog 256 [layV l,.int .i64 s,.int .i64 d] [] (.int .i64 (l.prev s d)) []:=by
 have hb:=zbb hl
 refine Fn.enter (Tryz.func256) rfl rfl (fun w0 R=>?_)
 refine sA (xB 0 rfl (fun bk0=>(xai rfl (dB (xmi rfl (TL.callD [] [] za5 ⟨rfl,rfl,trivial⟩ trivial zca rfl rfl rfl rfl rfl trivial (TL.casesP rfl (fun q1=>?_) (fun q1=>?_))))))))
 refine xnt rfl (dF rfl (xL3 0 zaa rfl rfl (xmi rfl (xmi rfl (TL.add _ rfl rfl (wr64 (by omega)) rfl rfl (TL.callD [] [] (zoo hl (by omega)) ⟨rfl,rfl,rfl,trivial⟩ trivial zhI rfl rfl rfl rfl rfl trivial (xai rfl (dR ?_))))))))
 refine FQ.ret1 (v:=(.int _ _)) (Bs:=[]) [] rfl rfl rfl trivial ?_
 first | exact ⟨iE (by unfold Lay.prev; rw [if_pos (by omega)]),rfl⟩ | exact ⟨iE (by unfold Lay.prev; rw [if_neg (by omega)]),rfl⟩
 refine xnf rfl (dT rfl (xai rfl (dRR ?_)))
 refine FQ.ret1 (v:=(.int _ _)) (Bs:=[]) [] rfl rfl rfl trivial ?_
 first | exact ⟨iE (by unfold Lay.prev; rw [if_pos (by omega)]),rfl⟩ | exact ⟨iE (by unfold Lay.prev; rw [if_neg (by omega)]),rfl⟩
theorem zmp {l:Lay} (hl:l.Ok)  : FnD Tryz.prog 166 [layV l] [] (.int .i64 l.heads) []:=by
 have hb:=zbb hl
 refine Fn.enter (Tryz.func166) rfl rfl (fun w0 R=>?_)
 refine sA (xB 0 rfl (fun bk0=>(xai rfl (dS (TC.draw [(0,true),(3,true),(4,true),(5,true),(1,false),(2,true),(6,true),(7,true)] [0] fc_m (by kernel_rfl) (xL3 0 zaa rfl rfl (xf 1 zbY rfl (xli 0 zah rfl rfl (TL.mul _ rfl rfl (wr64 (by omega)) rfl rfl ?_)))))))))
 refine TL.callD [] [] (zi4 hl) ⟨rfl,trivial⟩ trivial zjg rfl rfl rfl rfl rfl (kL1 rfl trivial) (TL.add _ rfl rfl (wr64 (by omega)) rfl rfl (TL.add _ rfl rfl (wr64 (by omega)) rfl rfl (xai rfl (dR ?_))))
 refine FQ.ret1 (v:=(.int _ _)) (Bs:=[]) [] rfl rfl rfl trivial ?_
 exact ⟨rfl,rfl⟩
theorem zoR {l:Lay} (hl:l.Ok) {v i:Int}:FnD Tryz.prog 232 [layV l,.int .i64 v,.int .i64 i] [] (.int .i64 (l.head v i)) []:=by
 have hb:=zbb hl
 refine Fn.enter (Tryz.func232) rfl rfl (fun w0 R=>?_)
 refine sA (xB 0 rfl (fun bk0=>(xai rfl (dB (xmi rfl (xf 0 zaO rfl (xli 0 zah rfl rfl (TL.callD [] [] za5 ⟨rfl,rfl,trivial⟩ trivial zca rfl rfl rfl rfl rfl trivial (TL.casesP rfl (fun q1=>?_) (fun q1=>?_))))))))))
 refine xnt rfl (xmf rfl (xmi rfl (xL3 0 zaa rfl rfl (TL.callD [] [] (zb7 hl) ⟨rfl,trivial⟩ trivial zfB rfl rfl rfl rfl rfl trivial (TL.callD [] [] za5 ⟨rfl,rfl,trivial⟩ trivial zca rfl rfl rfl rfl rfl trivial (TL.casesP rfl (fun q2=>?_) (fun q2=>?_)))))))
 refine xnt rfl (xpF rfl (TL.done (TQ.then (TC.condF rfl (TC.skip (TQ.then (TC.seq (TC.draw [(0,true),(2,true),(3,true),(7,true),(1,false),(4,false),(5,true),(6,true),(8,true),(9,true)] [0] fc_m (by kernel_rfl) ?_))))))))
 refine xL3 0 zaa rfl rfl (xmi rfl (xL3 0 zaa rfl rfl (xmi rfl (TL.callD [] [] (zmp hl) ⟨rfl,trivial⟩ trivial zpE rfl rfl rfl rfl rfl (kL1 rfl trivial) (TL.callD [] [] (zb7 hl) ⟨rfl,trivial⟩ trivial zfB rfl rfl rfl rfl rfl (kL1 rfl trivial) (TL.mul _ rfl rfl (wr64 (by have:=zc8 (a:=v) (A:=16) (b:=l.lev) (B:=5) (by omega) (by omega) (by omega) (by omega); omega)) rfl rfl (TL.add _ rfl rfl (wr64 (by have:=zc8 (a:=v) (A:=16) (b:=l.lev) (B:=5) (by omega) (by omega) (by omega) (by omega); omega)) rfl rfl (TL.add _ rfl rfl (wr64 (by have:=zc8 (a:=v) (A:=16) (b:=l.lev) (B:=5) (by omega) (by omega) (by omega) (by omega); omega)) rfl rfl ?_))))))))
 refine xai rfl (dR ?_)
 refine FQ.ret1 (v:=(.int _ _)) (Bs:=[]) [] rfl rfl rfl trivial ?_
 first | exact ⟨iE (by unfold Lay.head; rw [if_pos (by omega)]),rfl⟩ | exact ⟨iE (by unfold Lay.head; rw [if_neg (by omega)]),rfl⟩
 refine xnf rfl (xpH rfl (dT rfl (xai rfl (dRR ?_))))
 refine FQ.ret1 (v:=(.int _ _)) (Bs:=[]) [] rfl rfl rfl trivial ?_
 first | exact ⟨iE (by unfold Lay.head; rw [if_pos (by omega)]),rfl⟩ | exact ⟨iE (by unfold Lay.head; rw [if_neg (by omega)]),rfl⟩
 refine xnf rfl (xmt rfl (xo rfl (xo rfl (xo rfl (xo rfl (xo rfl (xpT rfl (dT rfl ?_))))))))
 refine xai rfl (dRR ?_)
 refine FQ.ret1 (v:=(.int _ _)) (Bs:=[]) [] rfl rfl rfl trivial ?_
 first | exact ⟨iE (by unfold Lay.head; rw [if_pos (by omega)]),rfl⟩ | exact ⟨iE (by unfold Lay.head; rw [if_neg (by omega)]),rfl⟩
theorem zmy {l:Lay} (hl:l.Ok)  : FnD Tryz.prog 122 [layV l] [] (.int .i64 l.edges) []:=by
 have hb:=zbb hl
 refine Fn.enter (Tryz.func122) rfl rfl (fun w0 R=>?_)
 refine sA (xB 0 rfl (fun bk0=>(xai rfl (dS (TC.draw [(0,true),(2,true),(3,true),(4,true),(1,false),(5,false),(6,true),(7,true),(8,true)] [0] fc_m (by kernel_rfl) (xL3 0 zaa rfl rfl (xf 0 zaO rfl (xli 0 zah rfl rfl (xL3 0 zaa rfl rfl ?_)))))))))
 refine TL.callD [] [] (zmp hl) ⟨rfl,trivial⟩ trivial zpE rfl rfl rfl rfl rfl (kL1 rfl trivial) (TL.callD [] [] (zb7 hl) ⟨rfl,trivial⟩ trivial zfB rfl rfl rfl rfl rfl (kL1 rfl trivial) (TL.mul _ rfl rfl (wr64 (by omega)) rfl rfl (TL.add _ rfl rfl (wr64 (by omega)) rfl rfl (xai rfl (dR ?_)))))
 refine FQ.ret1 (v:=(.int _ _)) (Bs:=[]) [] rfl rfl rfl trivial ?_
 exact ⟨rfl,rfl⟩
theorem zjk {l:Lay} (hl:l.Ok) {a b:Int}:FnD Tryz.prog 140 [layV l,.int .i64 a,.int .i64 b] [] (.int .i64 (l.edge a b)) []:=by
 have hb:=zbb hl
 refine Fn.enter (Tryz.func140) rfl rfl (fun w0 R=>?_)
 refine sA (xB 0 rfl (fun bk0=>(xai rfl (dA (xmi rfl (xmi rfl (TL.min2 rfl rfl rfl rfl (xmi rfl (xmi rfl ?_)))))))))
 refine TL.max2 rfl rfl rfl rfl (xai rfl (xai rfl (dB (xmi rfl (xmi rfl (TL.eql rfl rfl rfl rfl (fun q1=>?_) (fun q1=>?_)))))))
 refine xmt rfl (xo rfl (xo rfl (xo rfl (xo rfl (xo rfl (xpT rfl (xmt rfl (xo rfl ?_))))))))
 refine xo rfl (xo rfl (xo rfl (xo rfl (xpT rfl (dT rfl (xai rfl (dRR ?_)))))))
 refine FQ.ret1 (v:=(.int _ _)) (Bs:=[]) [] rfl rfl rfl trivial ?_
 first | exact ⟨iE (by unfold Lay.edge; rw [if_neg (by omega)]),rfl⟩ | exact ⟨iE (by unfold Lay.edge; rw [if_pos (by omega)]),rfl⟩
 refine xmf rfl (xmi rfl (xf 0 zaO rfl (xli 0 zah rfl rfl (TL.callD [] [] za5 ⟨rfl,rfl,trivial⟩ trivial zca rfl rfl rfl rfl rfl trivial (TL.casesP rfl (fun q2=>?_) (fun q2=>?_))))))
 refine xnt rfl (xpF rfl (xmf rfl (xmi rfl (xf 0 zaO rfl (xli 0 zah rfl rfl (TL.callD [] [] za5 ⟨rfl,rfl,trivial⟩ trivial zca rfl rfl rfl rfl rfl trivial (TL.casesP rfl (fun q3=>?_) (fun q3=>?_))))))))
 refine xnt rfl (xpF rfl (TL.done (TQ.then (TC.condF rfl (TC.skip (TQ.then (TC.seq (TC.draw [(0,true),(2,true),(3,true),(4,true),(5,true),(6,true),(7,true),(8,true),(9,true),(10,true),(12,true),(14,true),(1,false),(11,true),(13,true),(15,true),(16,true),(17,true)] [0] fc_m (by kernel_rfl) ?_))))))))
 refine xL3 0 zaa rfl rfl (xmi rfl (xf 0 zaO rfl (xli 0 zah rfl rfl (TL.mul _ rfl rfl (wr64 (by omega)) rfl rfl (xmi rfl (TL.sub _ rfl rfl (wr64 (by omega)) rfl rfl (TL.sub _ rfl rfl (wr64 (by omega)) rfl rfl (TL.mul _ rfl rfl (wr64 (by have h9:=ze5 (x:=min a b) (V:=(l.V:Int)) (by omega) (by omega) (by omega); omega)) rfl rfl ?_))))))))
 refine TL.quo _ rfl rfl (by omega) (zn1 (by have h9:=ze5 (x:=min a b) (V:=(l.V:Int)) (by omega) (by omega) (by omega); omega) (by omega) (by have h9:=ze5 (x:=min a b) (V:=(l.V:Int)) (by omega) (by omega) (by omega); omega)) rfl rfl (xmi rfl (xmi rfl (TL.callD [] [] (zmy hl) ⟨rfl,trivial⟩ trivial zpL rfl rfl rfl rfl rfl (kL1 rfl trivial) (TL.add _ rfl rfl (wr64 (by have h9:=ze5 (x:=min a b) (V:=(l.V:Int)) (by omega) (by omega) (by omega); omega)) rfl rfl (TL.add _ rfl rfl (wr64 (by have h9:=ze5 (x:=min a b) (V:=(l.V:Int)) (by omega) (by omega) (by omega); omega)) rfl rfl ?_)))))
 refine TL.sub _ rfl rfl (wr64 (by have h9:=ze5 (x:=min a b) (V:=(l.V:Int)) (by omega) (by omega) (by omega); omega)) rfl rfl (TL.sub _ rfl rfl (wr64 (by have h9:=ze5 (x:=min a b) (V:=(l.V:Int)) (by omega) (by omega) (by omega); omega)) rfl rfl (xai rfl (dR ?_)))
 refine FQ.ret1 (v:=(.int _ _)) (Bs:=[]) [] rfl rfl rfl trivial ?_
 first | exact ⟨iE (by unfold Lay.edge; rw [if_neg (by omega)]),rfl⟩ | exact ⟨iE (by unfold Lay.edge; rw [if_pos (by omega)]),rfl⟩
 refine xnf rfl (xpH rfl (dT rfl (xai rfl (dRR ?_))))
 refine FQ.ret1 (v:=(.int _ _)) (Bs:=[]) [] rfl rfl rfl trivial ?_
 first | exact ⟨iE (by unfold Lay.edge; rw [if_neg (by omega)]),rfl⟩ | exact ⟨iE (by unfold Lay.edge; rw [if_pos (by omega)]),rfl⟩
 refine xnf rfl (xpH rfl (xmt rfl (xo rfl (xo rfl (xo rfl (xo rfl (xo rfl (xpT rfl ?_))))))))
 refine dT rfl (xai rfl (dRR ?_))
 refine FQ.ret1 (v:=(.int _ _)) (Bs:=[]) [] rfl rfl rfl trivial ?_
 first | exact ⟨iE (by unfold Lay.edge; rw [if_neg (by omega)]),rfl⟩ | exact ⟨iE (by unfold Lay.edge; rw [if_pos (by omega)]),rfl⟩
theorem zqg {l:Lay} (hl:l.Ok)  : FnD Tryz.prog 90 [layV l] [] (.int .i64 l.base) []:=by
 have hb:=zbb hl
 refine Fn.enter (Tryz.func90) rfl rfl (fun w0 R=>?_)
 refine sA (xB 0 rfl (fun bk0=>(xai rfl (dS (TC.draw [(0,true),(2,true),(3,true),(4,true),(5,true),(6,true),(7,true),(8,true),(1,false),(9,true),(10,true)] [0] fc_m (by kernel_rfl) (xL3 0 zaa rfl rfl (xf 0 zaO rfl (xli 0 zah rfl rfl (xf 0 zaO rfl ?_)))))))))
 refine xli 0 zah rfl rfl (TL.sub _ rfl rfl (wr64 (by omega)) rfl rfl (TL.mul _ rfl rfl (wr64 (by omega)) rfl rfl (TL.quo _ rfl rfl (by omega) (zn1 (by omega) (by omega) (by omega)) rfl rfl (TL.callD [] [] (zmy hl) ⟨rfl,trivial⟩ trivial zpL rfl rfl rfl rfl rfl (kL1 rfl trivial) (TL.add _ rfl rfl (wr64 (by omega)) rfl rfl (xai rfl (dR ?_)))))))
 refine FQ.ret1 (v:=(.int _ _)) (Bs:=[]) [] rfl rfl rfl trivial ?_
 exact ⟨rfl,rfl⟩
theorem zaK {l:Lay} (hl:l.Ok) {x f:Int}:FnD Tryz.prog 35 [layV l,.int .i64 x,.int .i64 f] [] (.int .i64 (l.field x f)) []:=by
 have hb:=zbb hl
 refine Fn.enter (Tryz.func35) rfl rfl (fun w0 R=>?_)
 refine sA (xB 0 rfl (fun bk0=>(xai rfl (dB (xmi rfl (TL.sub _ rfl rfl (rfl) rfl rfl (xL3 0 zaa rfl rfl (TL.callD [] [] (zdQ hl) ⟨rfl,trivial⟩ trivial zhD rfl rfl rfl rfl rfl trivial (TL.callD [] [] za5 ⟨rfl,rfl,trivial⟩ trivial zca rfl rfl rfl rfl rfl trivial ?_)))))))))
 refine TL.casesP rfl (fun q1=>?_) (fun q1=>?_)
 refine xnt rfl (xmf rfl (xmi rfl (TL.callD [] [] za5 ⟨rfl,rfl,trivial⟩ trivial zca rfl rfl rfl rfl rfl trivial (TL.casesP rfl (fun q2=>?_) (fun q2=>?_)))))
 refine xnt rfl (xpF rfl (dF rfl (xL3 0 zaa rfl rfl (TL.callD [] [] (zqg hl) ⟨rfl,trivial⟩ trivial zr5 rfl rfl rfl rfl rfl trivial (xmi rfl (TL.sub _ rfl rfl (rfl) rfl rfl (TL.mul _ rfl rfl (wr64 (by omega)) rfl rfl (TL.add _ rfl rfl (wr64 (by omega)) rfl rfl ?_))))))))
 refine xmi rfl (TL.add _ rfl rfl (wr64 (by omega)) rfl rfl (xai rfl (dR ?_)))
 refine FQ.ret1 (v:=(.int _ _)) (Bs:=[]) [] rfl rfl rfl trivial ?_
 first | exact ⟨iE (by unfold Lay.field; rw [if_pos (by omega)]),rfl⟩ | exact ⟨iE (by unfold Lay.field; rw [if_neg (by omega)]),rfl⟩
 refine xnf rfl (xpH rfl (dT rfl (xai rfl (dRR ?_))))
 refine FQ.ret1 (v:=(.int _ _)) (Bs:=[]) [] rfl rfl rfl trivial ?_
 first | exact ⟨iE (by unfold Lay.field; rw [if_pos (by omega)]),rfl⟩ | exact ⟨iE (by unfold Lay.field; rw [if_neg (by omega)]),rfl⟩
 refine xnf rfl (xmt rfl (xo rfl (xo rfl (xo rfl (xpT rfl (dT rfl (xai rfl (dRR ?_))))))))
 refine FQ.ret1 (v:=(.int _ _)) (Bs:=[]) [] rfl rfl rfl trivial ?_
 first | exact ⟨iE (by unfold Lay.field; rw [if_pos (by omega)]),rfl⟩ | exact ⟨iE (by unfold Lay.field; rw [if_neg (by omega)]),rfl⟩
theorem zrt {l:Lay} (hl:l.Ok)  : FnD Tryz.prog 91 [layV l] [] (.int .i64 l.cells) []:=by
 have hb:=zbb hl
 refine Fn.enter (Tryz.func91) rfl rfl (fun w0 R=>?_)
 refine sA (xB 0 rfl (fun bk0=>(xai rfl (dS (TC.draw [(0,true),(2,true),(1,false),(3,false),(4,true),(5,true),(6,true)] [0] fc_m (by kernel_rfl) (xL3 0 zaa rfl rfl (xL3 0 zaa rfl rfl (TL.callD [] [] (zqg hl) ⟨rfl,trivial⟩ trivial zr5 rfl rfl rfl rfl rfl (kL1 rfl trivial) (TL.callD [] [] (zdQ hl) ⟨rfl,trivial⟩ trivial zhD rfl rfl rfl rfl rfl (kL1 rfl trivial) ?_)))))))))
 refine TL.mul _ rfl rfl (wr64 (by omega)) rfl rfl (TL.add _ rfl rfl (wr64 (by omega)) rfl rfl (xai rfl (dR ?_)))
 refine FQ.ret1 (v:=(.int _ _)) (Bs:=[]) [] rfl rfl rfl trivial ?_
 exact ⟨rfl,rfl⟩
theorem ziP {l:Lay} (hl:l.Ok) {x:Int}:FnD Tryz.prog 32 [layV l,.int .i64 x] [] (.tuple #[zuG (l.node x).1,.bool (l.node x).2]) []:=by
 have hb:=zbb hl
 refine Fn.enter (Tryz.func32) rfl rfl (fun w0 R=>?_)
 refine sA (xB 0 rfl (fun bk0=>(TL.alloc 1 (cs:=#[.bool false,.int .i64 0,.int .i64 0,.int .i64 0,.int .i64 0]) zge rfl rfl rfl (fun _=>trivial) (fun bk1=>(xaf rfl (dB (xmi rfl (TL.sub _ rfl rfl (rfl) rfl rfl (xL3 0 zaa rfl rfl (TL.callD [] [] (zdQ hl) ⟨rfl,trivial⟩ trivial zhD rfl rfl rfl rfl rfl trivial ?_))))))))))
 refine TL.callD [] [] za5 ⟨rfl,rfl,trivial⟩ trivial zca rfl rfl rfl rfl rfl trivial (TL.casesP rfl (fun q1=>?_) (fun q1=>?_))
 refine xnt rfl (dF rfl (xmi rfl (TL.sub _ rfl rfl (rfl) rfl rfl (xai rfl (dS (TC.draw [(0,true),(2,true),(3,true),(1,false),(4,true),(5,true)] [0] fc_m (by kernel_rfl) (xL3 0 zaa rfl rfl (xf 0 zaO rfl ?_))))))))
 refine xli 0 zah rfl rfl (TL.callD [] [] (zb7 hl) ⟨rfl,trivial⟩ trivial zfB rfl rfl rfl rfl rfl (kL1 rfl trivial) (TL.mul _ rfl rfl (wr64 (by omega)) rfl rfl (xai rfl (dB (xmi rfl (xmi rfl (TL.lss rfl rfl rfl rfl (fun q2=>?_) (fun q2=>?_))))))))
 refine TL.done (TQ.then (TC.condT rfl (TC.seq (TC.draw [(0,true),(1,true),(2,true),(3,true),(4,true),(5,true),(6,true),(7,true),(8,true),(9,false),(10,true)] [0] fc_m (by kernel_rfl) (xmi rfl (xf 0 zaO rfl (xli 0 zah rfl rfl (TL.quo _ rfl rfl (by omega) (zn1 (by omega) (by omega) (by omega)) rfl rfl ?_))))))))
 refine xmi rfl (xf 0 zaO rfl (xli 0 zah rfl rfl (TL.rem _ rfl rfl (by omega) (zkU (by omega)) rfl rfl (TL.bld [.bool false,.int .i64 0,.int .i64 0,.int .i64 0,.int .i64 0] [(.int _ _),(.int _ _)] [_,_,_,_,_] zge zpc ⟨rfl,rfl,trivial⟩ ⟨rfl,rfl⟩ rfl rfl (TL.stW 1 5 [_,_,_,_,_] rfl rfl rfl rfl rfl rfl zcx rfl rfl (kL1 rfl trivial) (xat rfl (dRR ?_)))))))
 refine FQ.retG (rs:=[.cell 4 59,.tmp 5]) [(.agg _),(.bool true)] (Bs:=[]) [] rfl ⟨⟨_,_,_,_,_,1,rfl,rfl,.inr ⟨5,[_,_,_,_,_],zcx,rfl,rfl⟩⟩,rfl,trivial⟩ rfl rfl trivial ?_
 first | exact ⟨by unfold Lay.node; simp only []; rw [if_neg (by omega)]; rfl,rfl⟩ | exact ⟨by unfold Lay.node; simp only []; rw [if_pos (by omega),if_pos (by omega)]; rfl,rfl⟩ | exact ⟨by unfold Lay.node; simp only []; rw [if_pos (by omega),if_neg (by omega)]; rfl,rfl⟩
 refine dF rfl (xmi rfl (xmi rfl (TL.sub _ rfl rfl (wr64 (by omega)) rfl rfl (xai rfl (dS (TC.draw [(0,true),(1,true),(4,true),(5,true),(9,true),(10,true),(2,false),(3,true),(6,false),(7,true),(8,true),(11,true),(12,false),(13,true)] [0] fc_m (by kernel_rfl) (xmi rfl (xL3 0 zaa rfl rfl ?_))))))))
 refine xmi rfl (xL3 0 zaa rfl rfl (xmi rfl (TL.rem _ rfl rfl (by omega) (zkU (by omega)) rfl rfl (TL.callD [] [] (zjn hl) ⟨rfl,trivial⟩ trivial zmr rfl rfl rfl rfl rfl (kL1 rfl trivial) (TL.quo _ rfl rfl (by omega) (zn1 (by omega) (by omega) (by omega)) rfl rfl (TL.callD [] [] (zjn hl) ⟨rfl,trivial⟩ trivial zmr rfl rfl rfl rfl rfl (kL1 rfl trivial) (TL.rem _ rfl rfl (by omega) (zkU (by omega)) rfl rfl (TL.quo _ rfl rfl (by omega) (zn1 (Int.emod_nonneg _ (by omega)) (by omega) (by have:=Int.emod_lt_of_pos (IntKind.i64.wrap (x - 1) - l.lev * l.V) (b:=l.arcs) (by omega); omega)) rfl rfl ?_))))))))
 refine TL.bld [.bool false,.int .i64 0,.int .i64 0,.int .i64 0,.int .i64 0] [(.bool true),(.int _ _),(.int _ _),(.int _ _)] [_,_,_,_,_] zge zpc ⟨rfl,rfl,rfl,rfl,trivial⟩ ⟨rfl,rfl⟩ rfl rfl (TL.stW 1 5 [_,_,_,_,_] rfl rfl rfl rfl rfl rfl zcx rfl rfl (kL1 rfl trivial) (xat rfl (dR ?_)))
 refine FQ.retG (rs:=[.cell 4 59,.tmp 5]) [(.agg _),(.bool true)] (Bs:=[]) [] rfl ⟨⟨_,_,_,_,_,1,rfl,rfl,.inr ⟨5,[_,_,_,_,_],zcx,rfl,rfl⟩⟩,rfl,trivial⟩ rfl rfl trivial ?_
 first | exact ⟨by unfold Lay.node; simp only []; rw [if_neg (by omega)]; rfl,rfl⟩ | exact ⟨by unfold Lay.node; simp only []; rw [if_pos (by omega),if_pos (by omega)]; rfl,rfl⟩ | exact ⟨by unfold Lay.node; simp only []; rw [if_pos (by omega),if_neg (by omega)]; rfl,rfl⟩
 refine xnf rfl (dT rfl (TL.bld [.bool false,.int .i64 0,.int .i64 0,.int .i64 0,.int .i64 0] [] [_,_,_,_,_] zge zpc trivial ⟨rfl,rfl⟩ rfl rfl (TL.stW 1 5 [_,_,_,_,_] rfl rfl rfl rfl rfl rfl zcx rfl rfl trivial (xaf rfl (dRR ?_)))))
 refine FQ.retG (rs:=[.cell 4 59,.tmp 5]) [(.agg _),(.bool false)] (Bs:=[]) [] rfl ⟨⟨_,_,_,_,_,1,rfl,rfl,.inr ⟨5,[_,_,_,_,_],zcx,rfl,rfl⟩⟩,rfl,trivial⟩ rfl rfl trivial ?_
 first | exact ⟨by unfold Lay.node; simp only []; rw [if_neg (by omega)]; rfl,rfl⟩ | exact ⟨by unfold Lay.node; simp only []; rw [if_pos (by omega),if_pos (by omega)]; rfl,rfl⟩ | exact ⟨by unfold Lay.node; simp only []; rw [if_pos (by omega),if_neg (by omega)]; rfl,rfl⟩
theorem zdw {n m:Int}:FnD Tryz.prog 253 [.int .i64 n,.int .i64 m] [] (.bool (decide (0≤n∧n≤m))) []:=by
 refine Fn.enter (Tryz.func253) rfl rfl (fun w0 R=>?_)
 refine sA (xaf rfl (dA (xmi rfl (TL.geq rfl rfl rfl rfl (fun q1=>?_) (fun q1=>?_)))))
 refine xmt rfl (xmi rfl (xmi rfl (TL.leqV rfl rfl rfl rfl (TL.pickT (.bool _) rfl rfl rfl rfl (xab rfl (dR ?_))))))
 refine FQ.ret1 (v:=(.bool _)) (Bs:=[]) [] rfl rfl rfl trivial ?_
 first | exact ⟨bT (by omega),rfl⟩ | exact ⟨bF (by omega),rfl⟩ | exact ⟨congrArg Value.bool (decide_eq_decide.2 (by omega)),rfl⟩
 refine xmf rfl (xo rfl (xo rfl (xo rfl (xpF rfl (xaf rfl (dR ?_))))))
 refine FQ.ret1 (v:=(.bool false)) (Bs:=[]) [] rfl rfl rfl trivial ?_
 first | exact ⟨bT (by omega),rfl⟩ | exact ⟨bF (by omega),rfl⟩ | exact ⟨congrArg Value.bool (decide_eq_decide.2 (by omega)),rfl⟩
theorem zoi {o m t g:Int}:FnD Tryz.prog 254 [.agg #[.int .i64 o,.int .i64 m,.int .i64 t,.int .i64 g]] [] (.bool (decide (t=0))) []:=by
 refine Fn.enter (Tryz.func254) rfl rfl (fun w0 R=>?_)
 refine sA (xB 0 rfl (fun bk0=>(xaf rfl (dA (xf 2 zdX rfl (xli 0 zah rfl rfl (TL.eqlV rfl rfl rfl rfl (xab rfl (dR ?_)))))))))
 refine FQ.ret1 (v:=(.bool _)) (Bs:=[]) [] rfl rfl rfl trivial ?_
 exact ⟨rfl,rfl⟩
theorem zjs {o m t g:Int}:FnD Tryz.prog 228 [.agg #[.int .i64 o,.int .i64 m,.int .i64 t,.int .i64 g]] [] (.bool (⟨o,m,t,g⟩:Wd).right) []:=by
 refine Fn.enter (Tryz.func228) rfl rfl (fun w0 R=>?_)
 refine sA (xB 0 rfl (fun bk0=>(xaf rfl (dB (xf 0 zbq rfl (xli 0 zah rfl rfl (TL.callD [] [] zdw ⟨rfl,rfl,trivial⟩ trivial zfZ rfl rfl rfl rfl rfl trivial (TL.casesP rfl (fun q1=>?_) (fun q1=>?_)))))))))
 refine xnt rfl (xmf rfl (xf 1 zbD rfl (xli 0 zah rfl rfl (TL.callD [] [] zdw ⟨rfl,rfl,trivial⟩ trivial zfZ rfl rfl rfl rfl rfl trivial (TL.casesP rfl (fun q2=>?_) (fun q2=>?_))))))
 refine xnt rfl (xpF rfl (xmf rfl (xf 2 zdX rfl (xli 0 zah rfl rfl (TL.callD [] [] zdw ⟨rfl,rfl,trivial⟩ trivial zfZ rfl rfl rfl rfl rfl trivial (TL.casesP rfl (fun q3=>?_) (fun q3=>?_)))))))
 refine xnt rfl (xpF rfl (xmf rfl (xf 3 zdW rfl (xli 0 zah rfl rfl (TL.callD [] [] zdw ⟨rfl,rfl,trivial⟩ trivial zfZ rfl rfl rfl rfl rfl trivial (TL.casesP rfl (fun q4=>?_) (fun q4=>?_)))))))
 refine xnt rfl (xpF rfl (dF rfl (xL4 0 zat rfl rfl (TL.callD [] [] zoi ⟨rfl,trivial⟩ trivial ztF rfl rfl rfl rfl rfl trivial (TL.casesP rfl (fun q5=>?_) (fun q5=>?_))))))
 refine xnt rfl (xmf rfl (xf 0 zbq rfl (xli 0 zah rfl rfl (xf 1 zbD rfl (xli 0 zah rfl rfl (TL.eql rfl rfl rfl rfl (fun q6=>?_) (fun q6=>?_)))))))
 refine xmt rfl (xf 3 zdW rfl (xli 0 zah rfl rfl (TL.eqlV rfl rfl rfl rfl (TL.pickT (.bool _) rfl rfl rfl rfl (TL.pickF (.bool _) rfl rfl rfl rfl (xab rfl (dR ?_)))))))
 refine FQ.ret1 (v:=(.bool _)) (Bs:=[]) [] rfl rfl rfl trivial ?_
 exact ⟨congrArg Value.bool (by simp [Wd.right, *]),rfl⟩
 refine xmf rfl (xo rfl (xo rfl (xo rfl (xpF rfl (xpF rfl (xaf rfl (dR ?_)))))))
 refine FQ.ret1 (v:=(.bool false)) (Bs:=[]) [] rfl rfl rfl trivial ?_
 exact ⟨congrArg Value.bool (by simp [Wd.right, *]),rfl⟩
 refine xnf rfl (xmt rfl (xo rfl (xo rfl (xo rfl (xo rfl (xo rfl (xo rfl (xo rfl ?_))))))))
 refine xo rfl (xo rfl (xo rfl (xpT rfl (xat rfl (dR ?_)))))
 refine FQ.ret1 (v:=(.bool true)) (Bs:=[]) [] rfl rfl rfl trivial ?_
 exact ⟨congrArg Value.bool (by simp [Wd.right, *]),rfl⟩
 refine xnf rfl (xpH rfl (dT rfl (xaf rfl (dRR ?_))))
 refine FQ.ret1 (v:=(.bool false)) (Bs:=[]) [] rfl rfl rfl trivial ?_
 exact ⟨congrArg Value.bool (by simp [Wd.right, *]),rfl⟩
 refine xnf rfl (xpH rfl (xmt rfl (xo rfl (xo rfl (xo rfl (xo rfl (xpT rfl (dT rfl ?_))))))))
 refine xaf rfl (dRR ?_)
 refine FQ.ret1 (v:=(.bool false)) (Bs:=[]) [] rfl rfl rfl trivial ?_
 exact ⟨congrArg Value.bool (by simp [Wd.right, *]),rfl⟩
 refine xnf rfl (xpH rfl (xmt rfl (xo rfl (xo rfl (xo rfl (xo rfl (xpT rfl (xmt rfl ?_))))))))
 refine xo rfl (xo rfl (xo rfl (xo rfl (xpT rfl (dT rfl (xaf rfl (dRR ?_)))))))
 refine FQ.ret1 (v:=(.bool false)) (Bs:=[]) [] rfl rfl rfl trivial ?_
 exact ⟨congrArg Value.bool (by simp [Wd.right, *]),rfl⟩
 refine xnf rfl (xmt rfl (xo rfl (xo rfl (xo rfl (xo rfl (xpT rfl (xmt rfl (xo rfl ?_))))))))
 refine xo rfl (xo rfl (xo rfl (xpT rfl (xmt rfl (xo rfl (xo rfl (xo rfl (xo rfl ?_))))))))
 refine xpT rfl (dT rfl (xaf rfl (dRR ?_)))
 refine FQ.ret1 (v:=(.bool false)) (Bs:=[]) [] rfl rfl rfl trivial ?_
 exact ⟨congrArg Value.bool (by simp [Wd.right, *]),rfl⟩
theorem ziK {o m t g:Int}:FnD Tryz.prog 222 [.agg #[.int .i64 o,.int .i64 m,.int .i64 t,.int .i64 g]] [] (.tuple #[.int .u64 (if (⟨o,m,t,g⟩:Wd).right then (⟨o,m,t,g⟩:Wd).pack else 0),.int .i64 (if (⟨o,m,t,g⟩:Wd).right then 0 else 11)]) []:=by
 refine Fn.enter (Tryz.func222) rfl rfl (fun w0 R=>?_)
 refine sA (xB 0 rfl (fun bk0=>(xai rfl (xai rfl (dB (xL4 0 zat rfl rfl (TL.callD [] [] zjs ⟨rfl,trivial⟩ trivial zpo rfl rfl rfl rfl rfl trivial (TL.cases rfl (fun q1=>?_) (fun q1=>?_)))))))))
 refine xnt rfl (dF rfl (xf 1 zbD rfl (xli 0 zah rfl rfl (TL.conv _ rfl ze0 za7 (rfl) rfl rfl (xf 0 zbq rfl (xli 0 zah rfl rfl (TL.conv _ rfl ze0 za7 (rfl) rfl rfl (TL.shl _ rfl rfl (by decide) rfl rfl rfl ?_))))))))
 refine TL.or _ rfl rfl rfl rfl rfl (xf 2 zdX rfl (xli 0 zah rfl rfl (TL.conv _ rfl ze0 za7 (rfl) rfl rfl (TL.shl _ rfl rfl (by decide) rfl rfl rfl (TL.or _ rfl rfl rfl rfl rfl (xf 3 zdW rfl (xli 0 zah rfl rfl (TL.conv _ rfl ze0 za7 (rfl) rfl rfl ?_))))))))
 refine TL.shl _ rfl rfl (by decide) rfl rfl rfl (TL.or _ rfl rfl rfl rfl rfl (xai rfl (xai rfl (dR ?_))))
 refine FQ.ret2 (v:=(.int _ _)) (x:=(.int _ _)) (Bs:=[]) [] rfl rfl rfl rfl trivial ?_
 exact ⟨by simp only [*,if_true,Bool.false_eq_true,if_false]<;>rfl,rfl⟩
 refine xnf rfl (dT rfl (xai rfl (xai rfl (dRR ?_))))
 refine FQ.ret2 (v:=(.int _ _)) (x:=(.int _ _)) (Bs:=[]) [] rfl rfl rfl rfl trivial ?_
 exact ⟨by simp only [*,if_true,Bool.false_eq_true,if_false]<;>rfl,rfl⟩
theorem zlE {v a n:Int} (ha:0≤a) (hn:0≤n):FnD Tryz.prog 227 [.int .u64 v,.int .i64 a,.int .i64 n] [] (.int .i64 (zhW v a n)) []:=by
 refine Fn.enter (Tryz.func227) rfl rfl (fun w0 R=>?_)
 refine sA (xai rfl (dS (TC.draw [(0,true),(1,true),(2,true),(3,true),(4,true),(5,true),(6,true),(7,true),(8,true)] [] fc_m (by kernel_rfl) (xmi rfl (xmi rfl (TL.shr _ rfl rfl (by omega) rfl rfl rfl (xmi rfl (TL.shl _ rfl rfl (by omega) rfl rfl rfl ?_))))))))
 refine TL.sub _ rfl rfl (rfl) rfl rfl (TL.and _ rfl rfl rfl rfl rfl (TL.conv _ rfl zdc zaC (rfl) rfl rfl (xai rfl (dR ?_))))
 refine FQ.ret1 (v:=(.int _ _)) (Bs:=[]) [] rfl rfl rfl trivial ?_
 exact ⟨iE (by unfold zhW andU shrU shlU; rw [Int.one_mul]),rfl⟩
theorem zcy {v:Int}:FnD Tryz.prog 195 [.int .u64 v] [] (.tuple #[wdV (zaf v).1,.int .i64 (if (zaf v).2 then 0 else 21)]) []:=by
 refine Fn.enter (Tryz.func195) rfl rfl (fun w0 R=>?_)
 refine sA (TL.alloc 0 (cs:=#[.int .i64 0,.int .i64 0,.int .i64 0,.int .i64 0]) zbo rfl rfl rfl (fun _=>trivial) (fun bk0=>(xai rfl (dA (xmi rfl (TL.callD [] [] (zlE (by decide) (by decide)) ⟨rfl,rfl,rfl,trivial⟩ trivial zls rfl rfl rfl rfl rfl trivial (xmi rfl (TL.callD [] [] (zlE (by decide) (by decide)) ⟨rfl,rfl,rfl,trivial⟩ trivial zls rfl rfl rfl rfl rfl trivial (xmi rfl ?_)))))))))
 refine TL.callD [] [] (zlE (by decide) (by decide)) ⟨rfl,rfl,rfl,trivial⟩ trivial zls rfl rfl rfl rfl rfl trivial (xmi rfl (TL.shr _ rfl rfl (by decide) rfl rfl rfl (TL.conv _ rfl zdc zaC (rfl) rfl rfl (TL.bld [.int .i64 0,.int .i64 0,.int .i64 0,.int .i64 0] [(.int _ _),(.int _ _),(.int _ _),(.int _ _)] [_,_,_,_] zbo zfU ⟨rfl,rfl,rfl,rfl,trivial⟩ ⟨rfl,rfl⟩ rfl rfl (TL.alloc 1 (cs:=#[.int .i64 0,.int .i64 0,.int .i64 0,.int .i64 0]) zbo rfl rfl rfl (fun _=>trivial) (fun bk1=>(TL.stW 1 4 [_,_,_,_] rfl rfl rfl rfl rfl rfl zat rfl rfl trivial (dB (xL4 1 zat rfl rfl ?_)))))))))
 refine TL.callD [] [] zjs ⟨rfl,trivial⟩ trivial zpo rfl rfl rfl rfl rfl trivial (TL.cases rfl (fun q1=>?_) (fun q1=>?_))
 refine xnt rfl (dF rfl (xL4 1 zat rfl rfl (TL.stW 0 4 [_,_,_,_] rfl rfl rfl rfl rfl rfl zat rfl rfl trivial (xai rfl (dR ?_)))))
 refine FQ.retG (rs:=[.cell 2 260,.tmp 3]) [(.agg _),(.int _ _)] (Bs:=[]) [] rfl ⟨⟨_,_,_,_,_,0,rfl,rfl,.inr ⟨4,[_,_,_,_],zat,rfl,rfl⟩⟩,rfl,trivial⟩ rfl rfl trivial ?_
 first | exact ⟨(by have q:(zb0 v).right=true:=‹(zb0 v).right=true›; simp only [zaf,q,if_true]; rfl),rfl⟩ | exact ⟨(by have q:(zb0 v).right=false:=‹(zb0 v).right=false›; simp only [zaf,q,Bool.false_eq_true,if_false]; rfl),rfl⟩
 refine xnf rfl (dT rfl (TL.bld [.int .i64 0,.int .i64 0,.int .i64 0,.int .i64 0] [] [_,_,_,_] zbo zfU trivial ⟨rfl,rfl⟩ rfl rfl (TL.stW 0 4 [_,_,_,_] rfl rfl rfl rfl rfl rfl zat rfl rfl trivial (xai rfl (dRR ?_)))))
 refine FQ.retG (rs:=[.cell 2 260,.tmp 3]) [(.agg _),(.int _ _)] (Bs:=[]) [] rfl ⟨⟨_,_,_,_,_,0,rfl,rfl,.inr ⟨4,[_,_,_,_],zat,rfl,rfl⟩⟩,rfl,trivial⟩ rfl rfl trivial ?_
 first | exact ⟨(by have q:(zb0 v).right=true:=‹(zb0 v).right=true›; simp only [zaf,q,if_true]; rfl),rfl⟩ | exact ⟨(by have q:(zb0 v).right=false:=‹(zb0 v).right=false›; simp only [zaf,q,Bool.false_eq_true,if_false]; rfl),rfl⟩
theorem zjr {p:Pen} {x o m t g:Int} {b1 b2:Nat}:FnD Tryz.prog 229 [.agg #[.int .i64 o,.int .i64 m,.int .i64 t,.int .i64 g],.pointer (some ⟨b1,0,none⟩),.pointer (some ⟨b2,0,none⟩)] [pt b1 (.cells #[.int .i64 p.thread,.int .i64 p.tag] 137),pt b2 (.cells #[.int .i64 x] 3)] (wdV (p.to x (⟨o,m,t,g⟩:Wd))) [pt b1 (.cells #[.int .i64 p.thread,.int .i64 p.tag] 137),pt b2 (.cells #[.int .i64 x] 3)]:=by
 refine Fn.enter (Tryz.func229) rfl rfl (fun w0 R=>?_)
 refine sA (xB 2 rfl (fun bk2=>(TL.alloc 3 (cs:=#[.int .i64 0,.int .i64 0,.int .i64 0,.int .i64 0]) zbo rfl rfl rfl (fun _=>trivial) (fun bk3=>(dB (xf 2 zdX rfl (xli 2 zah rfl rfl (xf 0 zcq rfl (xli 0 zah rfl rfl (TL.neq rfl rfl rfl rfl (fun q1=>?_) (fun q1=>?_)))))))))))
 refine xmt rfl (xo rfl (xo rfl (xo rfl (xo rfl (xo rfl (xpT rfl (TL.done (TQ.then ?_))))))))
 refine TC.condT rfl (TC.region (xf 1 zbD rfl (xli 2 zah rfl rfl (xf 0 zbq rfl (TL.st 2 #[_,_,_,_] (.int _ _) rfl rfl rfl rfl rfl rfl zah rfl rfl trivial (dA (xf 0 zbq rfl (xli 2 zah rfl rfl ?_))))))))
 refine xli 1 zah rfl rfl (xf 0 zcq rfl (xli 0 zah rfl rfl (xf 1 zcp rfl (xli 0 zah rfl rfl (TL.bld [.int .i64 0,.int .i64 0,.int .i64 0,.int .i64 0] [(.int _ _),(.int _ _),(.int _ _),(.int _ _)] [_,_,_,_] zbo zfU ⟨rfl,rfl,rfl,rfl,trivial⟩ ⟨rfl,rfl⟩ rfl rfl (TL.stW 3 4 [_,_,_,_] rfl rfl rfl rfl rfl rfl zat rfl rfl trivial (dR ?_)))))))
 refine FQ.retG (rs:=[.cell 4 260]) [(.agg _)] (Bs:=[pt b1 (.cells #[.int .i64 p.thread,.int .i64 p.tag] 137),pt b2 (.cells #[.int .i64 x] 3)]) [0,1] rfl ⟨⟨_,_,_,_,_,3,rfl,rfl,.inr ⟨4,[_,_,_,_],zat,rfl,rfl⟩⟩,trivial⟩ rfl rfl ⟨rfl,rfl,trivial⟩ ?_
 first | exact ⟨(by unfold Pen.to; dsimp only; rw [if_pos (by omega)]; rfl),rfl⟩ | exact ⟨(by unfold Pen.to; dsimp only; rw [if_neg (by omega)]; rfl),rfl⟩
 refine xmf rfl (xf 3 zdW rfl (xli 2 zah rfl rfl (xf 1 zcp rfl (xli 0 zah rfl rfl (TL.neq rfl rfl rfl rfl (fun q2=>?_) (fun q2=>?_))))))
 refine xpH rfl (TL.done (TQ.then (TC.condT rfl (TC.region (xf 1 zbD rfl (xli 2 zah rfl rfl (xf 0 zbq rfl (TL.st 2 #[_,_,_,_] (.int _ _) rfl rfl rfl rfl rfl rfl zah rfl rfl trivial ?_))))))))
 refine dA (xf 0 zbq rfl (xli 2 zah rfl rfl (xli 1 zah rfl rfl (xf 0 zcq rfl (xli 0 zah rfl rfl (xf 1 zcp rfl (xli 0 zah rfl rfl (TL.bld [.int .i64 0,.int .i64 0,.int .i64 0,.int .i64 0] [(.int _ _),(.int _ _),(.int _ _),(.int _ _)] [_,_,_,_] zbo zfU ⟨rfl,rfl,rfl,rfl,trivial⟩ ⟨rfl,rfl⟩ rfl rfl ?_))))))))
 refine TL.stW 3 4 [_,_,_,_] rfl rfl rfl rfl rfl rfl zat rfl rfl trivial (dR ?_)
 refine FQ.retG (rs:=[.cell 4 260]) [(.agg _)] (Bs:=[pt b1 (.cells #[.int .i64 p.thread,.int .i64 p.tag] 137),pt b2 (.cells #[.int .i64 x] 3)]) [0,1] rfl ⟨⟨_,_,_,_,_,3,rfl,rfl,.inr ⟨4,[_,_,_,_],zat,rfl,rfl⟩⟩,trivial⟩ rfl rfl ⟨rfl,rfl,trivial⟩ ?_
 first | exact ⟨(by unfold Pen.to; dsimp only; rw [if_pos (by omega)]; rfl),rfl⟩ | exact ⟨(by unfold Pen.to; dsimp only; rw [if_neg (by omega)]; rfl),rfl⟩
 refine xpF rfl (dF rfl (xf 0 zbq rfl (xli 2 zah rfl rfl (xli 1 zah rfl rfl (xf 0 zcq rfl (xli 0 zah rfl rfl (xf 1 zcp rfl (xli 0 zah rfl rfl ?_))))))))
 refine TL.bld [.int .i64 0,.int .i64 0,.int .i64 0,.int .i64 0] [(.int _ _),(.int _ _),(.int _ _),(.int _ _)] [_,_,_,_] zbo zfU ⟨rfl,rfl,rfl,rfl,trivial⟩ ⟨rfl,rfl⟩ rfl rfl (TL.stW 3 4 [_,_,_,_] rfl rfl rfl rfl rfl rfl zat rfl rfl trivial (dR ?_))
 refine FQ.retG (rs:=[.cell 4 260]) [(.agg _)] (Bs:=[pt b1 (.cells #[.int .i64 p.thread,.int .i64 p.tag] 137),pt b2 (.cells #[.int .i64 x] 3)]) [0,1] rfl ⟨⟨_,_,_,_,_,3,rfl,rfl,.inr ⟨4,[_,_,_,_],zat,rfl,rfl⟩⟩,trivial⟩ rfl rfl ⟨rfl,rfl,trivial⟩ ?_
 first | exact ⟨(by unfold Pen.to; dsimp only; rw [if_pos (by omega)]; rfl),rfl⟩ | exact ⟨(by unfold Pen.to; dsimp only; rw [if_neg (by omega)]; rfl),rfl⟩
theorem zp7 {S:Type} [MemLike S] {mt:TypeId} {mv:Value} {A:S→Assn} (hM:MemI Tryz.prog mt mv A) {σ:S} {p:Pen} {c x:Int} {b1 b2:Nat} (h:(zaf (MemLike.get σ c)).2=false) (hz:Room (2) σ:=by exact zaE):FnD Tryz.prog 187 [.iface mt mv,.int .i64 c,.func (.func 229) #[] #[.pointer (some ⟨b1,0,none⟩),.pointer (some ⟨b2,0,none⟩)]] [A σ,pt b1 (.cells #[.int .i64 p.thread,.int .i64 p.tag] 137),pt b2 (.cells #[.int .i64 x] 3)] (.tuple #[]) [A (MemLike.ld σ c),pt b1 (.cells #[.int .i64 p.thread,.int .i64 p.tag] 137),pt b2 (.cells #[.int .i64 x] 3)]:=by
 refine Fn.enter (Tryz.func187) rfl rfl (fun w0 R=>?_)
 refine sA (xmc rfl (xmi rfl (TL.mload 0 hM rfl rfl rfl rfl rfl trivial (TL.callD [] [] zcy ⟨rfl,trivial⟩ trivial zer rfl rfl rfl rfl rfl trivial (xmu rfl (TL.ext (.agg _) rfl rfl rfl rfl (xei rfl rfl (TL.alloc 3 (cs:=#[.int .i64 0,.int .i64 0,.int .i64 0,.int .i64 0]) zbo rfl rfl rfl (fun _=>trivial) (fun bk3=>?_)))))))))
 refine TL.stW 3 4 [_,_,_,_] rfl rfl rfl rfl rfl rfl zat rfl rfl trivial (xai rfl (dB (xmi rfl (TL.neqT rfl rfl (by rw [h]; decide) rfl rfl (TL.done (TQ.then (TC.condT rfl (TC.ret ?_))))))))
 refine TQ.thenRet ?_
 refine FQ.ret0 (Bs:=[A (MemLike.ld σ c),pt b1 (.cells #[.int .i64 p.thread,.int .i64 p.tag] 137),pt b2 (.cells #[.int .i64 x] 3)]) [0,1,2] rfl rfl ⟨rfl,rfl,rfl,trivial⟩ ?_
 exact ⟨rfl,rfl⟩
theorem zp6 {S:Type} [MemLike S] {mt:TypeId} {mv:Value} {A:S→Assn} (hM:MemI Tryz.prog mt mv A) {σ:S} {p:Pen} {c x:Int} {b1 b2:Nat} (h:(zaf (MemLike.get σ c)).2=true) (h2:(p.to x (zaf (MemLike.get σ c)).1).right=false) (hz:Room (2) σ:=by exact zaE):FnD Tryz.prog 187 [.iface mt mv,.int .i64 c,.func (.func 229) #[] #[.pointer (some ⟨b1,0,none⟩),.pointer (some ⟨b2,0,none⟩)]] [A σ,pt b1 (.cells #[.int .i64 p.thread,.int .i64 p.tag] 137),pt b2 (.cells #[.int .i64 x] 3)] (.tuple #[]) [A (MemLike.ld σ c),pt b1 (.cells #[.int .i64 p.thread,.int .i64 p.tag] 137),pt b2 (.cells #[.int .i64 x] 3)]:=by
 refine Fn.enter (Tryz.func187) rfl rfl (fun w0 R=>?_)
 refine sA (xmc rfl (xmi rfl (TL.mload 0 hM rfl rfl rfl rfl rfl trivial (TL.callD [] [] zcy ⟨rfl,trivial⟩ trivial zer rfl rfl rfl rfl rfl trivial (xmu rfl (TL.ext (.agg _) rfl rfl rfl rfl (xei rfl rfl (TL.alloc 3 (cs:=#[.int .i64 0,.int .i64 0,.int .i64 0,.int .i64 0]) zbo rfl rfl rfl (fun _=>trivial) (fun bk3=>?_)))))))))
 refine TL.stW 3 4 [_,_,_,_] rfl rfl rfl rfl rfl rfl zat rfl rfl trivial (xai rfl (dB (xmi rfl (TL.neqF rfl rfl (by rw [h]; decide) rfl rfl (dF rfl (TL.mv (.func _ _ _) rfl rfl rfl (xL4 3 zat rfl rfl (TL.callC (c1:=[]) (c2:=[_,_]) (vs:=[_]) [1,2] [1,2] rfl zjr ⟨rfl,trivial⟩ ⟨rfl,rfl,trivial⟩ zpn rfl rfl rfl rfl rfl trivial ?_))))))))
 refine TL.callD [] [] ziK ⟨rfl,trivial⟩ trivial zjd rfl rfl rfl rfl rfl trivial (xmu rfl (xei rfl rfl (xei rfl rfl (xai rfl (xai rfl (dA (xmi rfl (TL.eqlF rfl rfl (by rw [h2]; decide) rfl rfl ?_))))))))
 refine TL.done (TQ.then (TC.condF rfl (TC.skip ?_)))
 refine FQ.end0 (Bs:=[A (MemLike.ld σ c),pt b1 (.cells #[.int .i64 p.thread,.int .i64 p.tag] 137),pt b2 (.cells #[.int .i64 x] 3)]) [0,1,2] rfl rfl ⟨rfl,rfl,rfl,trivial⟩ ?_
 exact ⟨rfl,rfl⟩
theorem zp5 {S:Type} [MemLike S] {mt:TypeId} {mv:Value} {A:S→Assn} (hM:MemI Tryz.prog mt mv A) {σ:S} {p:Pen} {c x:Int} {b1 b2:Nat} (h:(zaf (MemLike.get σ c)).2=true) (h2:(p.to x (zaf (MemLike.get σ c)).1).right=true) (hz:Room (2) σ:=by exact zaE):FnD Tryz.prog 187 [.iface mt mv,.int .i64 c,.func (.func 229) #[] #[.pointer (some ⟨b1,0,none⟩),.pointer (some ⟨b2,0,none⟩)]] [A σ,pt b1 (.cells #[.int .i64 p.thread,.int .i64 p.tag] 137),pt b2 (.cells #[.int .i64 x] 3)] (.tuple #[]) [A (MemLike.st (MemLike.ld σ c) c (p.to x (zaf (MemLike.get σ c)).1).pack),pt b1 (.cells #[.int .i64 p.thread,.int .i64 p.tag] 137),pt b2 (.cells #[.int .i64 x] 3)]:=by
 refine Fn.enter (Tryz.func187) rfl rfl (fun w0 R=>?_)
 refine sA (xmc rfl (xmi rfl (TL.mload 0 hM rfl rfl rfl rfl rfl trivial (TL.callD [] [] zcy ⟨rfl,trivial⟩ trivial zer rfl rfl rfl rfl rfl trivial (xmu rfl (TL.ext (.agg _) rfl rfl rfl rfl (xei rfl rfl (TL.alloc 3 (cs:=#[.int .i64 0,.int .i64 0,.int .i64 0,.int .i64 0]) zbo rfl rfl rfl (fun _=>trivial) (fun bk3=>?_)))))))))
 refine TL.stW 3 4 [_,_,_,_] rfl rfl rfl rfl rfl rfl zat rfl rfl trivial (xai rfl (dB (xmi rfl (TL.neqF rfl rfl (by rw [h]; decide) rfl rfl (dF rfl (TL.mv (.func _ _ _) rfl rfl rfl (xL4 3 zat rfl rfl (TL.callC (c1:=[]) (c2:=[_,_]) (vs:=[_]) [1,2] [1,2] rfl zjr ⟨rfl,trivial⟩ ⟨rfl,rfl,trivial⟩ zpn rfl rfl rfl rfl rfl trivial ?_))))))))
 refine TL.callD [] [] ziK ⟨rfl,trivial⟩ trivial zjd rfl rfl rfl rfl rfl trivial (xmu rfl (xei rfl rfl (xei rfl rfl (xai rfl (xai rfl (dA (xmi rfl (TL.eqlT rfl rfl (by rw [h2]; decide) rfl rfl ?_))))))))
 refine TL.done (TQ.then (TC.condT rfl (TC.region (xmc rfl (xmi rfl (xmi rfl (TL.mstore 0 hM rfl rfl rfl (by rw [h2]; exact zdt _ _) rfl rfl rfl trivial (TL.done ?_))))))))
 refine FQ.end0 (Bs:=[A _,pt b1 (.cells #[.int .i64 p.thread,.int .i64 p.tag] 137),pt b2 (.cells #[.int .i64 x] 3)]) [0,1,2] rfl rfl ⟨rfl,rfl,rfl,trivial⟩ ?_
 exact ⟨rfl,by rw [h2]; rfl⟩
theorem zp8 {S:Type} [MemLike S] {mt:TypeId} {mv:Value} {A:S→Assn} (hM:MemI Tryz.prog mt mv A) {σ:S} {p:Pen} {c x:Int} {b1 b2:Nat} (hz:Room 2 σ:=by exact zaE):FnD Tryz.prog 187 [.iface mt mv,.int .i64 c,.func (.func 229) #[] #[.pointer (some ⟨b1,0,none⟩),.pointer (some ⟨b2,0,none⟩)]] [A σ,pt b1 (.cells #[.int .i64 p.thread,.int .i64 p.tag] 137),pt b2 (.cells #[.int .i64 x] 3)] (.tuple #[]) [A (p.write σ c x),pt b1 (.cells #[.int .i64 p.thread,.int .i64 p.tag] 137),pt b2 (.cells #[.int .i64 x] 3)]:=by
 unfold Pen.write
 cases h:(zaf (MemLike.get σ c)).2
 ·exact zp7 hM h
 ·rw [if_pos rfl]
  cases h2:(p.to x (zaf (MemLike.get σ c)).1).right
  ·exact zp6 hM h h2
  ·exact zp5 hM h h2
theorem ziq {S:Type} [MemLike S] {mt:TypeId} {mv:Value} {A:S→Assn} (hM:MemI Tryz.prog mt mv A) {σ:S} {p:Pen} {c x:Int} (hz:Room (2) σ:=by exact zaE):FnD Tryz.prog 197 [.agg #[.int .i64 p.thread,.int .i64 p.tag],.iface mt mv,.int .i64 c,.int .i64 x] [A σ] (.tuple #[]) [A (p.write σ c x)]:=by
 refine Fn.enter (Tryz.func197) rfl rfl (fun w0 R=>?_)
 refine sA (xB 1 rfl (fun bk1=>(TL.box1 2 (.int _ _) rfl rfl rfl rfl (fun _=>trivial) (fun bk2=>(dG (xmc rfl (xmi rfl (TL.mf (xs:=[]) (ys:=[_,_]) [] [_,_] trivial ⟨rfl,rfl,trivial⟩ rfl rfl (TL.callD [0,1,2] [0,1,2] (zp8 hM) ⟨rfl,rfl,rfl,trivial⟩ ⟨rfl,rfl,rfl,trivial⟩ zpz rfl rfl rfl rfl rfl trivial (TL.done ?_))))))))))
 refine FQ.end0 (Bs:=[A (p.write σ c x)]) [0] rfl rfl ⟨rfl,trivial⟩ ?_
 exact ⟨rfl,rfl⟩
theorem zor {S:Type} [MemLike S] {mt:TypeId} {mv:Value} {A:S→Assn} (hM:MemI Tryz.prog mt mv A) {σ:S} {c:Int} (hz:Room (1) σ:=by exact zaE):FnD Tryz.prog 198 [.iface mt mv,.int .i64 c] [A σ] (.int .i64 (pnew σ c)) [A (MemLike.ld σ c)]:=by
 refine Fn.enter (Tryz.func198) rfl rfl (fun w0 R=>?_)
 refine sA (xai rfl (dA (xmc rfl (xmi rfl (TL.mload 0 hM rfl rfl rfl rfl rfl trivial (TL.callD [] [] zcy ⟨rfl,trivial⟩ trivial zer rfl rfl rfl rfl rfl trivial (xmu rfl (TL.ext (.agg _) rfl rfl rfl rfl ?_))))))))
 refine xei rfl rfl (TL.alloc 1 (cs:=#[.int .i64 0,.int .i64 0,.int .i64 0,.int .i64 0]) zbo rfl rfl rfl (fun _=>trivial) (fun bk1=>(TL.stW 1 4 [_,_,_,_] rfl rfl rfl rfl rfl rfl zat rfl rfl trivial (xai rfl (dA (xf 1 zbD rfl (xli 1 zah rfl rfl (xai rfl (dR ?_)))))))))
 refine FQ.ret1 (v:=(.int _ _)) (Bs:=[A (MemLike.ld σ c)]) [0] rfl rfl rfl ⟨rfl,trivial⟩ ?_
 exact ⟨rfl,rfl⟩
theorem zdL {S:Type} [MemLike S] {mt:TypeId} {mv:Value} {A:S→Assn} (hM:MemI Tryz.prog mt mv A) {l:Lay} (hl:l.Ok) {p:Pen} {σ:S} {x f:Int} (hz:Room (1) σ:=by exact zaE):FnD Tryz.prog 250 [zbg l mt mv p,.int .i64 x,.int .i64 f] [A σ] (.int .i64 (tget l σ x f)) [A (zdM l σ x f)]:=by
 refine Fn.enter (Tryz.func250) rfl rfl (fun w0 R=>?_)
 refine sA (xB 1 rfl (fun bk1=>(xai rfl (dS (TC.draw [(0,true),(1,true),(2,true),(3,true),(4,true),(5,true),(7,true),(8,true),(6,false),(9,false),(10,true),(11,true)] [1] fc_m (by kernel_rfl) (xf 3 zaM rfl (xlc 1 zba rfl rfl (xf 0 zav rfl (xL3 1 zaa rfl rfl ?_)))))))))
 refine xmi rfl (xmi rfl (TL.ncI rfl rfl rfl (xmc rfl (TL.callD [] [] (zaK hl) ⟨rfl,rfl,rfl,trivial⟩ trivial zbF rfl rfl rfl rfl rfl (kL1 rfl trivial) (TL.mload 0 hM rfl rfl rfl rfl rfl (kL1 rfl trivial) (TL.conv _ rfl zdc zaC (rfl) rfl rfl (xai rfl (dR ?_))))))))
 refine FQ.ret1 (v:=(.int _ _)) (Bs:=[A _]) [0] rfl rfl rfl ⟨rfl,trivial⟩ ?_
 exact ⟨rfl,rfl⟩
theorem ziv {S:Type} [MemLike S] {mt:TypeId} {mv:Value} {A:S→Assn} (hM:MemI Tryz.prog mt mv A) {l:Lay} (hl:l.Ok) {p:Pen} {σ:S} {x f v:Int} (hz:Room (1) σ:=by exact zaE):FnD Tryz.prog 184 [zbg l mt mv p,.int .i64 x,.int .i64 f,.int .i64 v] [A σ] (.tuple #[]) [A (tput l σ x f v)]:=by
 refine Fn.enter (Tryz.func184) rfl rfl (fun w0 R=>?_)
 refine sA (xB 1 rfl (fun bk1=>(TL.done (TQ.then (TC.draw [(0,true),(1,true),(2,true),(3,true),(4,true),(5,true),(7,true),(8,true),(9,true),(10,true),(6,false),(11,false)] [1] fc_m (by kernel_rfl) (xf 3 zaM rfl (xlc 1 zba rfl rfl (xf 0 zav rfl (xL3 1 zaa rfl rfl ?_)))))))))
 refine xmi rfl (xmi rfl (xmi rfl (TL.conv _ rfl ze0 za7 (rfl) rfl rfl (TL.ncI rfl rfl rfl (xmc rfl (TL.callD [] [] (zaK hl) ⟨rfl,rfl,rfl,trivial⟩ trivial zbF rfl rfl rfl rfl rfl (kL1 rfl trivial) (TL.mstore 0 hM rfl rfl rfl (by first | exact zf9 _ | exact zdt _ _ | exact MemLike.rng _ _ | decide | assumption) rfl rfl rfl (kL1 rfl trivial) (TL.done ?_))))))))
 refine FQ.end0 (Bs:=[A _]) [0] rfl rfl ⟨rfl,trivial⟩ ?_
 exact ⟨rfl,rfl⟩
theorem zlX {mt:TypeId} {mv:Value} {l:Lay} (hl:l.Ok) {p:Pen} {x:Int}:FnD Tryz.prog 221 [zbg l mt mv p,.int .i64 x] [] (.bool (zcz l x)) []:=by
 refine Fn.enter (Tryz.func221) rfl rfl (fun w0 R=>?_)
 refine sA (xB 0 rfl (fun bk0=>(xaf rfl (dA (xf 0 zav rfl (xL3 0 zaa rfl rfl (xmi rfl (TL.callD [] [] (ziP hl) ⟨rfl,rfl,trivial⟩ trivial zmu rfl rfl rfl rfl rfl trivial (xmu rfl ?_)))))))))
 refine TL.ext (.agg _) rfl rfl rfl rfl (TL.ext (.bool _) rfl rfl rfl rfl (TL.alloc 1 (cs:=#[.bool false,.int .i64 0,.int .i64 0,.int .i64 0,.int .i64 0]) zge rfl rfl rfl (fun _=>trivial) (fun bk1=>(TL.stW 1 5 [_,_,_,_,_] rfl rfl rfl rfl rfl rfl zcx rfl rfl trivial (xab rfl (dA (xf 1 zfX rfl (xli 1 zah rfl rfl (TL.eqlV rfl rfl rfl rfl ?_)))))))))
 refine xab rfl (dR ?_)
 refine FQ.ret1 (v:=(.bool _)) (Bs:=[]) [] rfl rfl rfl trivial ?_
 exact ⟨rfl,rfl⟩
theorem zdA {S:Type} [MemLike S] {mt:TypeId} {mv:Value} {A:S→Assn} (hM:MemI Tryz.prog mt mv A) {l:Lay} (hl:l.Ok) {p:Pen} {σ:S} {x:Int} (hz:Room (1) σ:=by exact zaE):FnD Tryz.prog 223 [zbg l mt mv p,.int .i64 x] [A σ] (.int .i64 (parent l σ x)) [A (zb5 l σ x)]:=by
 refine Fn.enter (Tryz.func223) rfl rfl (fun w0 R=>?_)
 refine sA (xB 1 rfl (fun bk1=>(xai rfl (dB (xL6 1 zab rfl rfl (xmi rfl (TL.callD [] [] (zlX hl) ⟨rfl,rfl,trivial⟩ trivial zpp rfl rfl rfl rfl rfl trivial (TL.cases rfl (fun q1=>?_) (fun q1=>?_)))))))))
 refine TL.done (TQ.then (TC.condT rfl (TC.seq (TC.draw [(0,true),(1,true),(2,true),(3,true),(4,true),(5,false),(6,false),(7,true)] [1] fc_m (by kernel_rfl) (xf 3 zaM rfl (xlc 1 zba rfl rfl (xf 0 zav rfl (xL3 1 zaa rfl rfl ?_))))))))
 refine xmi rfl (TL.callD [] [] (zaK hl) ⟨rfl,rfl,rfl,trivial⟩ trivial zbF rfl rfl rfl rfl rfl (kL1 rfl trivial) (TL.callD [0] [0] (zor hM) ⟨rfl,rfl,trivial⟩ ⟨rfl,trivial⟩ zlt rfl rfl rfl rfl rfl (kL1 rfl trivial) (xai rfl (dRR ?_))))
 refine FQ.ret1 (v:=(.int _ _)) (Bs:=[A _]) [0] rfl rfl rfl ⟨rfl,trivial⟩ ?_
 exact ⟨(by simp only [parent, *,if_true,Bool.false_eq_true,if_false]),rfl⟩
 refine dF rfl (xL6 1 zab rfl rfl (xmi rfl (TL.callD [0] [0] (zdL hM hl) ⟨rfl,rfl,rfl,trivial⟩ ⟨rfl,trivial⟩ zd0 rfl rfl rfl rfl rfl trivial (xai rfl (dR ?_)))))
 refine FQ.ret1 (v:=(.int _ _)) (Bs:=[A _]) [0] rfl rfl rfl ⟨rfl,trivial⟩ ?_
 exact ⟨(by simp only [parent, *,if_true,Bool.false_eq_true,if_false]),rfl⟩
theorem zho {S:Type} [MemLike S] {mt:TypeId} {mv:Value} {A:S→Assn} (hM:MemI Tryz.prog mt mv A) {l:Lay} (hl:l.Ok) {p:Pen} {σ:S} {x q:Int} (hz:Room (2) σ:=by exact zaE):FnD Tryz.prog 185 [zbg l mt mv p,.int .i64 x,.int .i64 q] [A σ] (.tuple #[]) [A (hang l p σ x q)]:=by
 refine Fn.enter (Tryz.func185) rfl rfl (fun w0 R=>?_)
 refine sA (xB 1 rfl (fun bk1=>(dK (sA (xmi rfl (TL.eql rfl rfl rfl rfl (fun q1=>?_) (fun q1=>?_)))))))
 refine xat rfl (TL.done (TQ.then (TC.condT rfl (TC.skip (TQ.inBlock ?_)))))
 refine FQ.end0 (Bs:=[A _]) [0] rfl rfl ⟨rfl,trivial⟩ ?_
 first | exact ⟨rfl,(by simp only [hang, *,if_true,Bool.false_eq_true,if_false])⟩ | exact ⟨rfl,(by simp only [hang]; rw [if_pos (by assumption)])⟩
 refine xaf rfl (TL.done (TQ.then (TC.condF rfl (sA (xL6 1 zab rfl rfl (xmi rfl (TL.callD [] [] (zlX hl) ⟨rfl,rfl,trivial⟩ trivial zpp rfl rfl rfl rfl rfl trivial (TL.cases rfl (fun q2=>?_) (fun q2=>?_)))))))))
 refine xat rfl (TL.done (TQ.then (TC.condT rfl (TC.draw [(0,true),(1,true),(2,true),(3,true),(4,true),(5,true),(6,true),(8,true),(7,false),(9,false)] [1] fc_m (by kernel_rfl) (xf 4 zhy rfl (xL2 1 zbk rfl rfl (xf 3 zaM rfl (xlc 1 zba rfl rfl ?_))))))))
 refine xf 0 zav rfl (xL3 1 zaa rfl rfl (xmi rfl (xmi rfl (TL.callD [] [] (zaK hl) ⟨rfl,rfl,rfl,trivial⟩ trivial zbF rfl rfl rfl rfl rfl (kL1 rfl trivial) (TL.callD [0] [0] (ziq hM) ⟨rfl,rfl,rfl,rfl,trivial⟩ ⟨rfl,trivial⟩ zlu rfl rfl rfl rfl rfl (kL1 rfl trivial) (TL.done (TQ.inBlock ?_)))))))
 refine FQ.end0 (Bs:=[A _]) [0] rfl rfl ⟨rfl,trivial⟩ ?_
 first | exact ⟨rfl,(by simp only [hang, *,if_true,Bool.false_eq_true,if_false])⟩ | exact ⟨rfl,(by simp only [hang]; rw [if_pos (by assumption)])⟩
 refine xaf rfl (TL.done (TQ.then (TC.condF rfl (TC.region (xL6 1 zab rfl rfl (xmi rfl (xmi rfl (TL.callD [0] [0] (ziv hM hl) ⟨rfl,rfl,rfl,rfl,trivial⟩ ⟨rfl,trivial⟩ zje rfl rfl rfl rfl rfl trivial ?_))))))))
 refine TL.done (TQ.inBlock ?_)
 refine FQ.end0 (Bs:=[A _]) [0] rfl rfl ⟨rfl,trivial⟩ ?_
 first | exact ⟨rfl,(by simp only [hang, *,if_true,Bool.false_eq_true,if_false])⟩ | exact ⟨rfl,(by simp only [hang]; rw [if_pos (by assumption)])⟩
theorem zkv {S:Type} [MemLike S] {mt:TypeId} {mv:Value} {A:S→Assn} (hM:MemI Tryz.prog mt mv A) {l:Lay} (hl:l.Ok) {p:Pen} {σ:S} {x:Int} (hz:Room (1) σ:=by exact zaE):FnD Tryz.prog 276 [zbg l mt mv p,.int .i64 x] [A σ] (.int .u64 (tsum l σ x)) [A (zb1 l σ x)]:=by
 refine Fn.enter (Tryz.func276) rfl rfl (fun w0 R=>?_)
 refine sA (xB 1 rfl (fun bk1=>(xai rfl (dB (xmi rfl (TL.eql rfl rfl rfl rfl (fun q1=>?_) (fun q1=>?_)))))))
 refine dT rfl (xai rfl (dRR ?_))
 refine FQ.ret1 (v:=(.int _ _)) (Bs:=[A _]) [0] rfl rfl rfl ⟨rfl,trivial⟩ ?_
 first | exact ⟨(by simp only [tsum]; rw [if_pos (by assumption)]),(by simp only [zb1]; rw [if_pos (by assumption)])⟩ | exact ⟨(by simp only [tsum]; rw [if_neg (by assumption)]),(by simp only [zb1]; rw [if_neg (by assumption)])⟩
 refine TL.done (TQ.then (TC.condF rfl (TC.skip (TQ.then (TC.seq (TC.draw [(0,true),(1,true),(2,true),(3,true),(4,true),(6,true),(7,true),(5,false),(8,false),(9,true)] [1] fc_m (by kernel_rfl) (xf 3 zaM rfl (xlc 1 zba rfl rfl ?_))))))))
 refine xf 0 zav rfl (xL3 1 zaa rfl rfl (xmi rfl (TL.ncI rfl rfl rfl (xmc rfl (TL.callD [] [] (zaK hl) ⟨rfl,rfl,rfl,trivial⟩ trivial zbF rfl rfl rfl rfl rfl (kL1 rfl trivial) (TL.mload 0 hM rfl rfl rfl rfl rfl (kL1 rfl trivial) (xai rfl (dR ?_))))))))
 refine FQ.ret1 (v:=(.int _ _)) (Bs:=[A _]) [0] rfl rfl rfl ⟨rfl,trivial⟩ ?_
 first | exact ⟨(by simp only [tsum]; rw [if_pos (by assumption)]),(by simp only [zb1]; rw [if_pos (by assumption)])⟩ | exact ⟨(by simp only [tsum]; rw [if_neg (by assumption)]),(by simp only [zb1]; rw [if_neg (by assumption)])⟩
theorem zpX {v:Int}:FnD Tryz.prog 277 [.int .u64 v] [] (.int .u64 (zmB v)) []:=by
 refine Fn.enter (Tryz.func277) rfl rfl (fun w0 R=>?_)
 refine sA (xai rfl (dA (xmi rfl (TL.and _ rfl rfl rfl rfl rfl (xai rfl (dR ?_))))))
 refine FQ.ret1 (v:=(.int _ _)) (Bs:=[]) [] rfl rfl rfl trivial ?_
 exact ⟨rfl,rfl⟩
theorem zoz {mt:TypeId} {mv:Value} {l:Lay} (hl:l.Ok) {p:Pen} {x m:Int}:FnD Tryz.prog 186 [zbg l mt mv p,.int .i64 x,.int .u64 m] [] (.int .u64 (zeK l x m)) []:=by
 refine Fn.enter (Tryz.func186) rfl rfl (fun w0 R=>?_)
 refine sA (xB 0 rfl (fun bk0=>(xai rfl (dA (xmi rfl (TL.shl _ rfl rfl (by decide) rfl rfl rfl (TL.or _ rfl rfl rfl rfl rfl (xmi rfl (TL.shl _ rfl rfl (by decide) rfl rfl rfl ?_)))))))))
 refine TL.or _ rfl rfl rfl rfl rfl (xai rfl (dB (xf 0 zav rfl (xL3 0 zaa rfl rfl (xmi rfl (TL.callD [] [] (ziP hl) ⟨rfl,rfl,trivial⟩ trivial zmu rfl rfl rfl rfl rfl trivial (xmu rfl (TL.ext (.agg _) rfl rfl rfl rfl ?_))))))))
 refine TL.ext (.bool _) rfl rfl rfl rfl (TL.alloc 1 (cs:=#[.bool false,.int .i64 0,.int .i64 0,.int .i64 0,.int .i64 0]) zge rfl rfl rfl (fun _=>trivial) (fun bk1=>(TL.stW 1 5 [_,_,_,_,_] rfl rfl rfl rfl rfl rfl zcx rfl rfl trivial (xab rfl (dA (xf 0 zic rfl (xlb 1 zcG rfl rfl (TL.not _ _ rfl rfl rfl rfl (TL.done ?_)))))))))
 refine TQ.then (TC.cond rfl (fun q1=>?_) (fun q1=>?_))
 refine TC.region (xmi rfl (TL.or _ rfl rfl rfl rfl rfl (xai rfl (dA (xmi rfl (xai rfl (dR ?_)))))))
 refine FQ.ret1 (v:=(.int _ _)) (Bs:=[]) [] rfl rfl rfl trivial ?_
 first | exact ⟨(by have q:(l.node x).1.arc=false:=(by simpa using ‹(!(l.node x).1.arc)=true›); simp only [zeK,q,Bool.false_eq_true,if_false]; rfl),rfl⟩ | exact ⟨(by have q:(l.node x).1.arc=true:=(by simpa using ‹(!(l.node x).1.arc)=false›); simp only [zeK,q,if_true]; rfl),rfl⟩
 refine TC.skip (TQ.then (sA (xmi rfl (xai rfl (dR ?_)))))
 refine FQ.ret1 (v:=(.int _ _)) (Bs:=[]) [] rfl rfl rfl trivial ?_
 first | exact ⟨(by have q:(l.node x).1.arc=false:=(by simpa using ‹(!(l.node x).1.arc)=true›); simp only [zeK,q,Bool.false_eq_true,if_false]; rfl),rfl⟩ | exact ⟨(by have q:(l.node x).1.arc=true:=(by simpa using ‹(!(l.node x).1.arc)=false›); simp only [zeK,q,if_true]; rfl),rfl⟩
theorem zff {S:Type} [MemLike S] {mt:TypeId} {mv:Value} {A:S→Assn} (hM:MemI Tryz.prog mt mv A) {l:Lay} (hl:l.Ok) {p:Pen} {σ:S} {x m:Int} (hz:Room (5) σ:=by exact zaE):FnD Tryz.prog 260 [zbg l mt mv p,.int .i64 x,.int .u64 m] [A σ] (.tuple #[]) [A (zgo l σ x m)]:=by
 refine Fn.enter (Tryz.func260) rfl rfl (fun w0 R=>?_)
 refine sA (xB 1 rfl (fun bk1=>(dA (xL6 1 zab rfl rfl (xmi rfl (xmi rfl (TL.callD [] [] (zoz hl) ⟨rfl,rfl,rfl,trivial⟩ trivial zpA rfl rfl rfl rfl rfl trivial (xai rfl (dB ?_)))))))))
 refine TL.bldA [.int .i64 0,.int .i64 0] [(.int _ _),(.int _ _)] [_,_] zpb zcS ⟨rfl,rfl,trivial⟩ ⟨rfl,rfl⟩ rfl rfl (xmi rfl (dK (TC.loopK (X:=Nat) [1,3,14] [1] (fun i=>[(6,.int .u64 (zdk l σ x m i).1),(15,.int .i64 (i:Int))]) (fun i=>[(0,A (zdk l σ x m i).2)]) (fun i=>i≤2) (fun i=>2 - i) (0) (by decide) ⟨rfl,rfl,trivial⟩ ⟨rfl,trivial⟩ (fun i hI=>(TC.sub (env':=[(6,_),(15,_),(1,_),(3,_),(14,_)]) (L':=[(0,_),(1,_)]) ⟨rfl,rfl,rfl,rfl,rfl,trivial⟩ ⟨rfl,rfl,trivial⟩ (sA (TL.lss rfl rfl rfl rfl (fun q1=>?_) (fun q1=>?_))))))))
 refine dS (TC.condT rfl (TC.skip (TQ.then (TC.seq (TC.block (sA (TL.ixA (.int .i64 (3+(i:Int))) rfl rfl zcS zah (by omega) (by omega) (by have:i=0∨i=1:=(by omega); rcases this with rfl | rfl<;>rfl) rfl rfl (xai rfl ?_))))))))
 refine dS (TC.draw [(0,true),(1,true),(2,true),(3,true),(4,false),(5,false),(6,true)] [1] fc_m (by kernel_rfl) (xL6 1 zab rfl rfl (xL6 1 zab rfl rfl (xmi rfl (xmi rfl (TL.callD [0] [0] (zdL hM hl) ⟨rfl,rfl,rfl,trivial⟩ ⟨rfl,trivial⟩ zd0 rfl rfl rfl rfl rfl (kL1 rfl trivial) (TL.callD [0] [0] (zkv hM hl) ⟨rfl,rfl,trivial⟩ ⟨rfl,trivial⟩ zlo rfl rfl rfl rfl rfl (kL1 rfl trivial) (xai rfl ?_))))))))
 refine dG (xmi rfl (xmi rfl (TL.callD [] [] zpX ⟨rfl,trivial⟩ trivial ztA rfl rfl rfl rfl rfl trivial (TL.add _ rfl rfl (rfl) rfl rfl (xmi rfl (TL.shr _ rfl rfl (by decide) rfl rfl rfl (TL.and _ rfl rfl rfl rfl rfl (TL.shl _ rfl rfl (by decide) rfl rfl rfl ?_))))))))
 refine TL.or _ rfl rfl rfl rfl rfl (xai rfl (dI (TL.add _ rfl rfl (wr64 (by omega)) rfl rfl (xmi rfl (TL.done (TQ.roundK (i+1) ⟨by omega,by omega⟩ ⟨rfl,rfl,trivial⟩ ⟨rfl,trivial⟩ (kE3 rfl rfl rfl trivial) (kL1 rfl trivial)))))))
 refine dS (TC.condF rfl (TC.exit (TQ.thenExit (TQ.thenExit (TQ.blockHere (TQ.then (TC.draw [(0,true),(1,true),(2,true),(3,true),(4,true),(6,true),(7,true),(8,true),(5,false),(9,false)] [1] fc_m (by kernel_rfl) (xf 3 zaM rfl ?_))))))))
 refine xlc 1 zba rfl rfl (xf 0 zav rfl (xL3 1 zaa rfl rfl (xmi rfl (xmi rfl (TL.ncI rfl rfl rfl (xmc rfl (TL.callD [] [] (zaK hl) ⟨rfl,rfl,rfl,trivial⟩ trivial zbF rfl rfl rfl rfl rfl (kL1 rfl trivial) (TL.mstore 0 hM rfl rfl rfl (zm3 _ _ _ _ _) rfl rfl rfl (kL1 rfl trivial) ?_))))))))
 refine TL.done ?_
 refine FQ.end0 (Bs:=[A _]) [0] rfl rfl ⟨rfl,trivial⟩ ?_
 obtain rfl:i=2:=by omega
 refine ⟨rfl,?_⟩
 unfold zgo
 rfl
theorem zeA {S:Type} [MemLike S] {mt:TypeId} {mv:Value} {A:S→Assn} (hM:MemI Tryz.prog mt mv A) {l:Lay} (hl:l.Ok) {p:Pen} {σ:S} {x:Int} (hz:Room (1) σ:=by exact zaE):FnD Tryz.prog 259 [zbg l mt mv p,.int .i64 x] [A σ] (.int .u64 (marks l σ x)) [A (zft l σ x)]:=by
 refine Fn.enter (Tryz.func259) rfl rfl (fun w0 R=>?_)
 refine sA (xB 1 rfl (fun bk1=>(xai rfl (dA (xL6 1 zab rfl rfl (xmi rfl (TL.callD [0] [0] (zkv hM hl) ⟨rfl,rfl,trivial⟩ ⟨rfl,trivial⟩ zlo rfl rfl rfl rfl rfl trivial (TL.shr _ rfl rfl (by decide) rfl rfl rfl (TL.and _ rfl rfl rfl rfl rfl ?_)))))))))
 refine xai rfl (dR ?_)
 refine FQ.ret1 (v:=(.int _ _)) (Bs:=[A _]) [0] rfl rfl rfl ⟨rfl,trivial⟩ ?_
 exact ⟨rfl,rfl⟩
theorem zrD {S:Type} [MemLike S] {mt:TypeId} {mv:Value} {A:S→Assn} (hM:MemI Tryz.prog mt mv A) {l:Lay} (hl:l.Ok) {p:Pen} {σ:S} {x:Int} (hz:Room (5) σ:=by exact zaE):FnD Tryz.prog 147 [zbg l mt mv p,.int .i64 x] [A σ] (.tuple #[]) [A (alone l p σ x)]:=by
 refine Fn.enter (Tryz.func147) rfl rfl (fun w0 R=>?_)
 refine sA (xB 1 rfl (fun bk1=>(dA (xL6 1 zab rfl rfl (xmi rfl (TL.callD [0] [0] (ziv hM hl) ⟨rfl,rfl,rfl,rfl,trivial⟩ ⟨rfl,trivial⟩ zje rfl rfl rfl rfl rfl trivial (dA (xL6 1 zab rfl rfl (xmi rfl ?_)))))))))
 refine TL.callD [0] [0] (ziv hM hl) ⟨rfl,rfl,rfl,rfl,trivial⟩ ⟨rfl,trivial⟩ zje rfl rfl rfl rfl rfl trivial (dA (xL6 1 zab rfl rfl (xmi rfl (TL.callD [0] [0] (zho hM hl) ⟨rfl,rfl,rfl,trivial⟩ ⟨rfl,trivial⟩ zhH rfl rfl rfl rfl rfl trivial (TL.done (TQ.then (TC.draw [(0,true),(1,true),(2,true),(3,true),(4,true),(6,true),(7,true),(9,true),(10,true),(5,false),(8,false),(11,false)] [1] fc_m (by kernel_rfl) (xf 3 zaM rfl ?_))))))))
 refine xlc 1 zba rfl rfl (xf 0 zav rfl (xL3 1 zaa rfl rfl (xmi rfl (xL6 1 zab rfl rfl (xmi rfl (TL.ncI rfl rfl rfl (xmc rfl (TL.callD [] [] (zaK hl) ⟨rfl,rfl,rfl,trivial⟩ trivial zbF rfl rfl rfl rfl rfl (kL1 rfl trivial) ?_))))))))
 refine TL.callD [] [] (zoz hl) ⟨rfl,rfl,rfl,trivial⟩ trivial zpA rfl rfl rfl rfl rfl (kL1 rfl trivial) (TL.mstore 0 hM rfl rfl rfl (by first | exact zmi _ _ _) rfl rfl rfl (kL1 rfl trivial) (TL.done ?_))
 refine FQ.end0 (Bs:=[A _]) [0] rfl rfl ⟨rfl,trivial⟩ ?_
 exact ⟨rfl,rfl⟩
theorem ziz {S:Type} [MemLike S] {mt:TypeId} {mv:Value} {A:S→Assn} (hM:MemI Tryz.prog mt mv A) {l:Lay} (hl:l.Ok) {p:Pen} {σ:S} {x:Int} (hz:Room (1) σ:=by exact zaE):FnD Tryz.prog 261 [zbg l mt mv p,.int .i64 x] [A σ] (.int .i64 (size l σ x)) [A (zb1 l σ x)]:=by
 refine Fn.enter (Tryz.func261) rfl rfl (fun w0 R=>?_)
 refine sA (xB 1 rfl (fun bk1=>(xai rfl (dA (xL6 1 zab rfl rfl (xmi rfl (TL.callD [0] [0] (zkv hM hl) ⟨rfl,rfl,trivial⟩ ⟨rfl,trivial⟩ zlo rfl rfl rfl rfl rfl trivial (TL.and _ rfl rfl rfl rfl rfl (TL.conv _ rfl zdc zaC (rfl) rfl rfl ?_)))))))))
 refine xai rfl (dR ?_)
 refine FQ.ret1 (v:=(.int _ _)) (Bs:=[A _]) [0] rfl rfl rfl ⟨rfl,trivial⟩ ?_
 exact ⟨rfl,rfl⟩
theorem zg7 {S:Type} [MemLike S] {mt:TypeId} {mv:Value} {A:S→Assn} (hM:MemI Tryz.prog mt mv A) {l:Lay} (hl:l.Ok) {p:Pen} {σ:S} {x r:Int} {k:Nat} {σ2:S} (h:root l k σ x=some (r,σ2)) (hz:Room (k) σ:=by exact zaE):FnD Tryz.prog 190 [zbg l mt mv p,.int .i64 x] [A σ] (.int .i64 r) [A σ2]:=by
 refine Fn.enter (Tryz.func190) rfl rfl (fun w0 R=>?_)
 refine sA (xB 1 rfl (fun bk1=>(xai rfl (dS (TC.block (TC.loopK (X:=Nat×S×Int) [2,4] [1] (fun y=>[(1,.int .i64 y.2.2)]) (fun y=>[(0,A y.2.1)]) (fun y=>root l y.1 y.2.1 y.2.2=some (r,σ2)∧Room (y.1) y.2.1) (fun y=>y.1) ((k,σ,x)) ⟨h,zaE⟩ ⟨rfl,trivial⟩ ⟨rfl,trivial⟩ (fun y hI=>?_)))))))
 obtain ⟨k,σ1,z⟩:=y
 obtain ⟨hI,hzI⟩:=hI
 rcases k with _ | k
 ·simp [root] at hI
 dsimp only at hI hzI
 refine TC.sub (env':=[(1,_),(2,_),(4,_)]) (L':=[(0,_),(1,_)]) ⟨rfl,rfl,rfl,trivial⟩ ⟨rfl,rfl,trivial⟩ (sB (xmi rfl (TL.neq rfl rfl rfl rfl (fun q1=>?_) (fun q1=>?_))))
 refine TL.done (TQ.then (TC.condT rfl (TC.skip (TQ.then (TC.block (sA (xL6 1 zab rfl rfl (xmi rfl ?_))))))))
 refine TL.callD [0] [0] (zdA hM hl) ⟨rfl,rfl,trivial⟩ ⟨rfl,trivial⟩ zf0 rfl rfl rfl rfl rfl trivial (xai rfl (dB (xmi rfl (TL.eql rfl rfl rfl rfl (fun q2=>?_) (fun q2=>?_)))))
 refine TL.done (TQ.then (TC.condT rfl (TC.exit (TQ.thenExit (TQ.blockOut rfl (TQ.thenExit (TQ.blockHere (TQ.then ?_))))))))
 refine sA (xmi rfl (xai rfl (dR ?_)))
 refine FQ.ret1 (v:=(.int _ _)) (Bs:=[A _]) [0] rfl rfl rfl ⟨rfl,trivial⟩ ?_
 rw [root,if_pos q1,if_pos q2] at hI; cases hI; exact ⟨rfl,rfl⟩
 refine TL.done (TQ.then (TC.condF rfl (TC.skip (TQ.then (TC.region (xmi rfl (xai rfl (TL.done ?_))))))))
 refine TQ.inBlock (TQ.roundK ((k,zb5 l σ1 z,parent l σ1 z)) ⟨⟨(by rw [root,if_pos q1,if_neg q2] at hI; exact hI),zaE⟩,Nat.lt_succ_self _⟩ ⟨rfl,trivial⟩ ⟨rfl,trivial⟩ (kE2 rfl rfl trivial) (kL1 rfl trivial))
 refine dE rfl (sA (xmi rfl (xai rfl (dR ?_))))
 refine FQ.ret1 (v:=(.int _ _)) (Bs:=[A _]) [0] rfl rfl rfl ⟨rfl,trivial⟩ ?_
 rw [root,if_neg q1] at hI; cases hI; exact ⟨rfl,rfl⟩
theorem zrg {S:Type} [MemLike S] {mt:TypeId} {mv:Value} {A:S→Assn} (hM:MemI Tryz.prog mt mv A) {l:Lay} (hl:l.Ok) {p:Pen} {σ:S} {x r:Int} {k:Nat} {σ2:S} (h:index l k σ x=some (r,σ2)) (hz:Room (4 * k+2) σ:=by exact zaE):FnD Tryz.prog 243 [zbg l mt mv p,.int .i64 x] [A σ] (.int .i64 r) [A σ2]:=by
 unfold index at h
 dsimp only at h
 refine Fn.enter (Tryz.func243) rfl rfl (fun w0 R=>?_)
 refine sA (xB 1 rfl (fun bk1=>(xai rfl (dS (TC.draw [(0,true),(1,true),(2,true),(3,false),(4,false),(5,true)] [1] fc_m (by kernel_rfl) (xL6 1 zab rfl rfl (xL6 1 zab rfl rfl (xmi rfl (TL.callD [0] [0] (zdL hM hl) ⟨rfl,rfl,rfl,trivial⟩ ⟨rfl,trivial⟩ zd0 rfl rfl rfl rfl rfl (kL1 rfl trivial) ?_)))))))))
 refine TL.callD [0] [0] (ziz hM hl) ⟨rfl,rfl,trivial⟩ ⟨rfl,trivial⟩ zjb rfl rfl rfl rfl rfl (kL1 rfl trivial) (xai rfl (dK (TC.loopK (X:=Nat×S×Int×Int) [2] [1] (fun y=>[(1,.int .i64 y.2.2.1),(5,.int .i64 y.2.2.2)]) (fun y=>[(0,A y.2.1)]) (fun y=>zbW l y.1 y.2.1 y.2.2.1 y.2.2.2=some (r,σ2)∧Room (4 * y.1) y.2.1) (fun y=>y.1) ((k,zb1 l (zdM l σ x 3) (tget l σ x 3),x,_)) ⟨h,zaE⟩ ⟨rfl,rfl,trivial⟩ ⟨rfl,trivial⟩ (fun y hI=>?_))))
 obtain ⟨k,σ1,z,n⟩:=y
 obtain ⟨hI,hzI⟩:=hI
 rcases k with _ | k
 ·simp [zbW] at hI
 dsimp only at hI hzI
 refine TC.sub (env':=[(1,_),(5,_),(2,_)]) (L':=[(0,_),(1,_)]) ⟨rfl,rfl,rfl,trivial⟩ ⟨rfl,rfl,trivial⟩ (TC.block (sA (xL6 1 zab rfl rfl (xmi rfl (TL.callD [0] [0] (zdA hM hl) ⟨rfl,rfl,trivial⟩ ⟨rfl,trivial⟩ zf0 rfl rfl rfl rfl rfl trivial (xai rfl (dB (xmi rfl ?_))))))))
 refine TL.eql rfl rfl rfl rfl (fun q1=>?_) (fun q1=>?_)
 refine dT rfl (xmi rfl (xai rfl (dRR (TQ.blockRet (TQ.thenRet (TQ.blockRet ?_))))))
 refine FQ.ret1 (v:=(.int _ _)) (Bs:=[A _]) [0] rfl rfl rfl ⟨rfl,trivial⟩ ?_
 rw [zbW,if_pos q1] at hI; cases hI; exact ⟨rfl,rfl⟩
 refine TL.done (TQ.then (TC.condF rfl (TC.skip (TQ.then (sB (xL6 1 zab rfl rfl (xmi rfl (TL.callD [0] [0] (zdL hM hl) ⟨rfl,rfl,rfl,trivial⟩ ⟨rfl,trivial⟩ zd0 rfl rfl rfl rfl rfl trivial ?_))))))))
 refine xmi rfl (TL.eql rfl rfl rfl rfl (fun q2=>?_) (fun q2=>?_))
 refine TL.done (TQ.then (TC.condT rfl (TC.draw [(0,true),(1,true),(2,true),(3,true),(4,false),(5,false),(6,true),(7,true),(8,true)] [1] fc_m (by kernel_rfl) (xmi rfl (xL6 1 zab rfl rfl (xL6 1 zab rfl rfl (xmi rfl (TL.callD [0] [0] (zdL hM hl) ⟨rfl,rfl,rfl,trivial⟩ ⟨rfl,trivial⟩ zd0 rfl rfl rfl rfl rfl (kL1 rfl trivial) ?_))))))))
 refine TL.callD [0] [0] (ziz hM hl) ⟨rfl,rfl,trivial⟩ ⟨rfl,trivial⟩ zjb rfl rfl rfl rfl rfl (kL1 rfl trivial) (TL.add _ rfl rfl (rfl) rfl rfl (TL.add _ rfl rfl (rfl) rfl rfl (xai rfl (dG (xmi rfl (xai rfl (TL.done (TQ.inBlock ?_))))))))
 refine TQ.roundK ((k,zb1 l (zdM l (zdM l (zb5 l σ1 z) (parent l σ1 z) 4) (parent l σ1 z) 3) (tget l (zdM l (zb5 l σ1 z) (parent l σ1 z) 4) (parent l σ1 z) 3),_,_)) ⟨⟨(by rw [zbW,if_neg q1] at hI; dsimp only at hI; rw [if_pos q2] at hI; exact hI),zaE⟩,Nat.lt_succ_self _⟩ ⟨rfl,rfl,trivial⟩ ⟨rfl,trivial⟩ (kE1 rfl trivial) (kL1 rfl trivial)
 refine TL.done (TQ.then (TC.condF rfl (TC.skip (TQ.then (TC.region (xmi rfl (xai rfl (TL.done ?_))))))))
 refine TQ.inBlock (TQ.roundK ((k,zdM l (zb5 l σ1 z) (parent l σ1 z) 4,_,_)) ⟨⟨(by rw [zbW,if_neg q1] at hI; dsimp only at hI; rw [if_neg q2] at hI; exact hI),zaE⟩,Nat.lt_succ_self _⟩ ⟨rfl,rfl,trivial⟩ ⟨rfl,trivial⟩ (kE1 rfl trivial) (kL1 rfl trivial))
theorem zlY {S:Type} [MemLike S] {mt:TypeId} {mv:Value} {A:S→Assn} (hM:MemI Tryz.prog mt mv A) {l:Lay} (hl:l.Ok) {p:Pen} {σ:S} {x f c:Int} (hz:Room (9) σ:=by exact zaE):FnD Tryz.prog 275 [zbg l mt mv p,.int .i64 x,.int .i64 f,.int .i64 c] [A σ] (.tuple #[]) [A (setC l p σ x f c)]:=by
 refine Fn.enter (Tryz.func275) rfl rfl (fun w0 R=>?_)
 refine sA (xB 1 rfl (fun bk1=>(dA (xL6 1 zab rfl rfl (xmi rfl (xmi rfl (xmi rfl (TL.callD [0] [0] (ziv hM hl) ⟨rfl,rfl,rfl,rfl,trivial⟩ ⟨rfl,trivial⟩ zje rfl rfl rfl rfl rfl trivial (dA ?_)))))))))
 refine xL6 1 zab rfl rfl (xmi rfl (xmi rfl (TL.callD [0] [0] (zho hM hl) ⟨rfl,rfl,rfl,trivial⟩ ⟨rfl,trivial⟩ zhH rfl rfl rfl rfl rfl trivial (TL.done (TQ.then (TC.draw [(0,true),(1,true),(2,true),(3,true),(4,false),(5,false)] [1] fc_m (by kernel_rfl) (xL6 1 zab rfl rfl (xmi rfl ?_))))))))
 refine xL6 1 zab rfl rfl (xmi rfl (TL.callD [0] [0] (zeA hM hl) ⟨rfl,rfl,trivial⟩ ⟨rfl,trivial⟩ zfY rfl rfl rfl rfl rfl (kL1 rfl trivial) (TL.callD [0] [0] (zff hM hl) ⟨rfl,rfl,rfl,trivial⟩ ⟨rfl,trivial⟩ zhE rfl rfl rfl rfl rfl (kL1 rfl trivial) (TL.done ?_))))
 refine FQ.end0 (Bs:=[A _]) [0] rfl rfl ⟨rfl,trivial⟩ ?_
 exact ⟨rfl,(by unfold setC zft; rfl)⟩
theorem zqI {S:Type} [MemLike S] {mt:TypeId} {mv:Value} {A:S→Assn} (hM:MemI Tryz.prog mt mv A) {l:Lay} (hl:l.Ok) {p:Pen} {σ:S} {x n:Int} {r:Int×Int} {k:Nat} {σ2:S} (h:split l p k σ x n=some (r,σ2)) (hz:Room (12 * k) σ:=by exact zaE):FnD Tryz.prog 262 [zbg l mt mv p,.int .i64 x,.int .i64 n] [A σ] (.tuple #[.int .i64 r.1,.int .i64 r.2]) [A σ2]:=by
 induction k generalizing σ x n r σ2
 case zero=>simp [split] at h
 case succ k ih =>
  refine Fn.enter (Tryz.func262) rfl rfl (fun w0 R=>?_)
  refine sA (xB 1 rfl (fun bk1=>(xai rfl (xai rfl (dB (xmi rfl (TL.eql rfl rfl rfl rfl (fun q1=>?_) (fun q1=>?_))))))))
  refine dT rfl (xai rfl (xai rfl (dRR ?_)))
  refine FQ.ret2 (v:=(.int _ _)) (x:=(.int _ _)) (Bs:=[A _]) [0] rfl rfl rfl rfl ⟨rfl,trivial⟩ ?_
  rw [split,if_pos q1] at h; cases h; exact ⟨rfl,rfl⟩
  refine dF rfl (xL6 1 zab rfl rfl (xmi rfl (TL.callD [0] [0] (zdL hM hl) ⟨rfl,rfl,rfl,trivial⟩ ⟨rfl,trivial⟩ zd0 rfl rfl rfl rfl rfl trivial (xai rfl (dA (xL6 1 zab rfl rfl (xmi rfl (TL.callD [0] [0] (ziz hM hl) ⟨rfl,rfl,trivial⟩ ⟨rfl,trivial⟩ zjb rfl rfl rfl rfl rfl trivial ?_))))))))
  refine xai rfl (dB (xmi rfl (xmi rfl (TL.leq rfl rfl rfl rfl (fun q2=>?_) (fun q2=>?_)))))
  refine dT rfl (xL6 1 zab rfl rfl (xmi rfl (xmi rfl ?_)))
  rw [split,if_neg q1] at h
  dsimp only at h
  rw [if_pos q2] at h
  obtain ⟨⟨ab,σ3⟩,h1,h9⟩:=Option.bind_eq_some_iff.1 h
  refine TL.callD [0] [0] (ih h1 zaE) ⟨rfl,rfl,rfl,trivial⟩ ⟨rfl,trivial⟩ zlp rfl rfl rfl rfl rfl trivial (xmu rfl (xei rfl rfl (xei rfl rfl (xai rfl (xai rfl (dA (xL6 1 zab rfl rfl (xmi rfl ?_))))))))
  refine xmi rfl (TL.callD [0] [0] (zlY hM hl) ⟨rfl,rfl,rfl,rfl,trivial⟩ ⟨rfl,trivial⟩ zja rfl rfl rfl rfl rfl trivial (dA (xmi rfl (xmi rfl (xai rfl (xai rfl (dRR ?_)))))))
  refine FQ.ret2 (v:=(.int _ _)) (x:=(.int _ _)) (Bs:=[A _]) [0] rfl rfl rfl rfl ⟨rfl,trivial⟩ ?_
  cases h9; exact ⟨rfl,rfl⟩
  refine TL.done (TQ.then (TC.condF rfl (TC.skip (TQ.then (TC.seq (TC.draw [(0,true),(1,true),(2,true),(4,true),(5,true),(6,true),(7,true),(3,false),(8,false),(9,true),(10,true),(11,true),(12,true),(13,true)] [1] fc_m (by kernel_rfl) (xL6 1 zab rfl rfl (xL6 1 zab rfl rfl ?_))))))))
  refine xmi rfl (xmi rfl (xmi rfl (TL.sub _ rfl rfl (rfl) rfl rfl (TL.sub _ rfl rfl (rfl) rfl rfl (TL.callD [0] [0] (zdL hM hl) ⟨rfl,rfl,rfl,trivial⟩ ⟨rfl,trivial⟩ zd0 rfl rfl rfl rfl rfl (kL1 rfl trivial) ?_)))))
  rw [split,if_neg q1] at h
  dsimp only at h
  rw [if_neg q2] at h
  obtain ⟨⟨ab,σ3⟩,h1,h9⟩:=Option.bind_eq_some_iff.1 h
  refine TL.callD [0] [0] (ih h1 zaE) ⟨rfl,rfl,rfl,trivial⟩ ⟨rfl,trivial⟩ zlp rfl rfl rfl rfl rfl (kL1 rfl trivial) (xmu rfl (xei rfl rfl (xei rfl rfl (xai rfl (xai rfl (dA (xL6 1 zab rfl rfl (xmi rfl ?_))))))))
  refine xmi rfl (TL.callD [0] [0] (zlY hM hl) ⟨rfl,rfl,rfl,rfl,trivial⟩ ⟨rfl,trivial⟩ zja rfl rfl rfl rfl rfl trivial (dA (xmi rfl (xmi rfl (xai rfl (xai rfl (dR ?_)))))))
  refine FQ.ret2 (v:=(.int _ _)) (x:=(.int _ _)) (Bs:=[A _]) [0] rfl rfl rfl rfl ⟨rfl,trivial⟩ ?_
  cases h9; exact ⟨rfl,rfl⟩
theorem znK {S:Type} [MemLike S] {mt:TypeId} {mv:Value} {A:S→Assn} (hM:MemI Tryz.prog mt mv A) {l:Lay} (hl:l.Ok) {p:Pen} {σ:S} {x n:Int} {r:Int×Int} {k:Nat} {σ2:S} (h:zee l p k σ x n=some (r,σ2)) (hz:Room (12 * k+5) σ:=by exact zaE):FnD Tryz.prog 244 [zbg l mt mv p,.int .i64 x,.int .i64 n] [A σ] (.tuple #[.int .i64 r.1,.int .i64 r.2]) [A σ2]:=by
 obtain ⟨⟨ab,σ3⟩,h1,h9⟩:=Option.bind_eq_some_iff.1 h
 cases h9
 refine Fn.enter (Tryz.func244) rfl rfl (fun w0 R=>?_)
 refine sA (xB 1 rfl (fun bk1=>(xai rfl (xai rfl (dS (TC.draw [(0,true),(1,true),(2,true),(3,true),(4,true),(5,true),(6,false),(7,true),(8,false),(9,true),(10,true),(11,true),(12,true),(13,true)] [1] fc_m (by kernel_rfl) (xL6 1 zab rfl rfl (xmi rfl (xmi rfl ?_)))))))))
 refine TL.max2 rfl rfl rfl rfl (xL6 1 zab rfl rfl (xmi rfl (TL.callD [0] [0] (ziz hM hl) ⟨rfl,rfl,trivial⟩ ⟨rfl,trivial⟩ zjb rfl rfl rfl rfl rfl (kL1 rfl trivial) (TL.min2 rfl rfl rfl rfl (TL.callD [0] [0] (zqI hM hl h1) ⟨rfl,rfl,rfl,trivial⟩ ⟨rfl,trivial⟩ zlp rfl rfl rfl rfl rfl (kL1 rfl trivial) (xmu rfl (xei rfl rfl (xei rfl rfl ?_))))))))
 refine xai rfl (xai rfl (dA (xL6 1 zab rfl rfl (xmi rfl (TL.callD [0] [0] (zho hM hl) ⟨rfl,rfl,rfl,trivial⟩ ⟨rfl,trivial⟩ zhH rfl rfl rfl rfl rfl trivial (dA (xL6 1 zab rfl rfl (xmi rfl ?_))))))))
 refine TL.callD [0] [0] (zho hM hl) ⟨rfl,rfl,rfl,trivial⟩ ⟨rfl,trivial⟩ zhH rfl rfl rfl rfl rfl trivial (dA (xmi rfl (xmi rfl (xai rfl (xai rfl (dR ?_))))))
 refine FQ.ret2 (v:=(.int _ _)) (x:=(.int _ _)) (Bs:=[A _]) [0] rfl rfl rfl rfl ⟨rfl,trivial⟩ ?_
 exact ⟨rfl,rfl⟩
theorem zrG {S:Type} [MemLike S] {mt:TypeId} {mv:Value} {A:S→Assn} (hM:MemI Tryz.prog mt mv A) {l:Lay} (hl:l.Ok) {p:Pen} {σ:S} {x y:Int} (hz:Room (2) σ:=by exact zaE):FnD Tryz.prog 274 [zbg l mt mv p,.int .i64 x,.int .i64 y] [A σ] (.bool (above l σ x y)) [A (zkp l σ x y)]:=by
 refine Fn.enter (Tryz.func274) rfl rfl (fun w0 R=>?_)
 refine sA (xB 1 rfl (fun bk1=>(xaf rfl (dS (TC.draw [(0,true),(1,true),(2,true),(3,true),(4,true),(6,true),(7,true),(9,true),(10,true),(11,true),(12,true),(13,true),(15,true),(16,true),(5,false),(8,false),(14,false),(17,false),(18,true),(19,true)] [1] fc_m (by kernel_rfl) (xf 3 zaM rfl (xlc 1 zba rfl rfl (xf 0 zav rfl (xL3 1 zaa rfl rfl ?_)))))))))
 refine xmi rfl (TL.ncI rfl rfl rfl (xmc rfl (xf 3 zaM rfl (xlc 1 zba rfl rfl (xf 0 zav rfl (xL3 1 zaa rfl rfl (xmi rfl (TL.ncI rfl rfl rfl ?_))))))))
 refine xmc rfl (TL.callD [] [] (zaK hl) ⟨rfl,rfl,rfl,trivial⟩ trivial zbF rfl rfl rfl rfl rfl (kL1 rfl trivial) (TL.mload 0 hM rfl rfl rfl rfl rfl (kL1 rfl trivial) (TL.callD [] [] (zaK hl) ⟨rfl,rfl,rfl,trivial⟩ trivial zbF rfl rfl rfl rfl rfl (kL1 rfl trivial) (TL.mload 0 hM rfl rfl rfl rfl rfl (kL1 rfl trivial) (xai rfl (xai rfl (dA (xmi rfl ?_))))))))
 refine xmi rfl (TL.gtr rfl rfl rfl rfl (fun q1=>?_) (fun q1=>?_))
 refine xmt rfl (xo rfl (xo rfl (xo rfl (xo rfl (xo rfl (xo rfl (xo rfl (xo rfl ?_))))))))
 refine xpT rfl (xat rfl (dR ?_))
 refine FQ.ret1 (v:=(.bool true)) (Bs:=[A _]) [0] rfl rfl rfl ⟨rfl,trivial⟩ ?_
 first | exact ⟨(by unfold above; dsimp only; rw [if_pos q1]),rfl⟩ | exact ⟨(by unfold above; dsimp only; rw [if_neg q1,if_pos q2]),rfl⟩ | exact ⟨(by unfold above; dsimp only; rw [if_neg q1,if_neg q2]),rfl⟩
 refine xmf rfl (xmi rfl (xmi rfl (TL.eql rfl rfl rfl rfl (fun q2=>?_) (fun q2=>?_))))
 refine xmt rfl (xmi rfl (xmi rfl (TL.lssV rfl rfl rfl rfl (TL.pickT (.bool _) rfl rfl rfl rfl (TL.pickF (.bool _) rfl rfl rfl rfl (xab rfl (dR ?_)))))))
 refine FQ.ret1 (v:=(.bool _)) (Bs:=[A _]) [0] rfl rfl rfl ⟨rfl,trivial⟩ ?_
 first | exact ⟨(by unfold above; dsimp only; rw [if_pos q1]),rfl⟩ | exact ⟨(by unfold above; dsimp only; rw [if_neg q1,if_pos q2]),rfl⟩ | exact ⟨(by unfold above; dsimp only; rw [if_neg q1,if_neg q2]),rfl⟩
 refine xmf rfl (xo rfl (xo rfl (xo rfl (xpF rfl (xpF rfl (xaf rfl (dR ?_)))))))
 refine FQ.ret1 (v:=(.bool false)) (Bs:=[A _]) [0] rfl rfl rfl ⟨rfl,trivial⟩ ?_
 first | exact ⟨(by unfold above; dsimp only; rw [if_pos q1]),rfl⟩ | exact ⟨(by unfold above; dsimp only; rw [if_neg q1,if_pos q2]),rfl⟩ | exact ⟨(by unfold above; dsimp only; rw [if_neg q1,if_neg q2]),rfl⟩
theorem zq5 {S:Type} [MemLike S] {mt:TypeId} {mv:Value} {A:S→Assn} (hM:MemI Tryz.prog mt mv A) {l:Lay} (hl:l.Ok) {p:Pen} {σ:S} {a b r:Int} {k:Nat} {σ2:S} (h:merge l p k σ a b=some (r,σ2)) (hz:Room (12 * k) σ:=by exact zaE):FnD Tryz.prog 258 [zbg l mt mv p,.int .i64 a,.int .i64 b] [A σ] (.int .i64 r) [A σ2]:=by
 induction k generalizing σ a b r σ2
 case zero=>simp [merge] at h
 case succ k ih =>
  refine Fn.enter (Tryz.func258) rfl rfl (fun w0 R=>?_)
  refine sA (xB 1 rfl (fun bk1=>(xai rfl (dS (TC.block (sA (xmi rfl (TL.eql rfl rfl rfl rfl (fun q1=>?_) (fun q1=>?_)))))))))
  refine xat rfl (dT rfl (xmi rfl (xai rfl (dR (TQ.blockRet (TQ.thenRet ?_))))))
  refine FQ.ret1 (v:=(.int _ _)) (Bs:=[A _]) [0] rfl rfl rfl ⟨rfl,trivial⟩ ?_
  rw [merge,if_pos q1] at h; cases h; exact ⟨rfl,rfl⟩
  refine xaf rfl (TL.done (TQ.then (TC.condF rfl (sA (xmi rfl (TL.eql rfl rfl rfl rfl (fun q2=>?_) (fun q2=>?_)))))))
  refine xat rfl (dT rfl (xmi rfl (xai rfl (dR (TQ.blockRet (TQ.thenRet ?_))))))
  refine FQ.ret1 (v:=(.int _ _)) (Bs:=[A _]) [0] rfl rfl rfl ⟨rfl,trivial⟩ ?_
  rw [merge,if_neg q1,if_pos q2] at h; cases h; exact ⟨rfl,rfl⟩
  refine xaf rfl (TL.done (TQ.then (TC.condF rfl (sA (xL6 1 zab rfl rfl (xmi rfl (xmi rfl (TL.callD [0] [0] (zrG hM hl) ⟨rfl,rfl,rfl,trivial⟩ ⟨rfl,trivial⟩ ztB rfl rfl rfl rfl rfl trivial ?_))))))))
  refine TL.cases rfl (fun q3=>?_) (fun q3=>?_)
  refine xat rfl (TL.done (TQ.then (TC.condT rfl (TC.seq (TC.draw [(0,true),(1,true),(2,true),(3,true),(4,true),(6,true),(5,false),(7,false),(8,false)] [1] fc_m (by kernel_rfl) (xL6 1 zab rfl rfl (xmi rfl (xL6 1 zab rfl rfl ?_))))))))
  refine xL6 1 zab rfl rfl (xmi rfl (xmi rfl (TL.callD [0] [0] (zdL hM hl) ⟨rfl,rfl,rfl,trivial⟩ ⟨rfl,trivial⟩ zd0 rfl rfl rfl rfl rfl (kL1 rfl trivial) ?_)))
  rw [merge,if_neg q1,if_neg q2] at h
  dsimp only at h
  rw [if_pos q3] at h
  obtain ⟨⟨c,σ3⟩,h1,h9⟩:=Option.bind_eq_some_iff.1 h
  refine TL.callD [0] [0] (ih h1 zaE) ⟨rfl,rfl,rfl,trivial⟩ ⟨rfl,trivial⟩ zlq rfl rfl rfl rfl rfl (kL1 rfl trivial) (TL.callD [0] [0] (zlY hM hl) ⟨rfl,rfl,rfl,rfl,trivial⟩ ⟨rfl,trivial⟩ zja rfl rfl rfl rfl rfl (kL1 rfl trivial) (dA (xmi rfl (xai rfl (dR (TQ.blockRet (TQ.thenRet ?_)))))))
  refine FQ.ret1 (v:=(.int _ _)) (Bs:=[A _]) [0] rfl rfl rfl ⟨rfl,trivial⟩ ?_
  cases h9; exact ⟨rfl,rfl⟩
  refine xaf rfl (TL.done (TQ.then (TC.condF rfl (TC.skip (TQ.inBlock (TQ.then (TC.seq (TC.draw [(0,true),(1,true),(2,true),(3,true),(4,true),(5,true),(6,false),(7,false),(8,false)] [1] fc_m (by kernel_rfl) ?_))))))))
  refine xL6 1 zab rfl rfl (xmi rfl (xL6 1 zab rfl rfl (xmi rfl (xL6 1 zab rfl rfl (xmi rfl (TL.callD [0] [0] (zdL hM hl) ⟨rfl,rfl,rfl,trivial⟩ ⟨rfl,trivial⟩ zd0 rfl rfl rfl rfl rfl (kL1 rfl trivial) ?_))))))
  rw [merge,if_neg q1,if_neg q2] at h
  dsimp only at h
  rw [if_neg (by rw [q3]; decide)] at h
  obtain ⟨⟨c,σ3⟩,h1,h9⟩:=Option.bind_eq_some_iff.1 h
  refine TL.callD [0] [0] (ih h1 zaE) ⟨rfl,rfl,rfl,trivial⟩ ⟨rfl,trivial⟩ zlq rfl rfl rfl rfl rfl (kL1 rfl trivial) (TL.callD [0] [0] (zlY hM hl) ⟨rfl,rfl,rfl,rfl,trivial⟩ ⟨rfl,trivial⟩ zja rfl rfl rfl rfl rfl (kL1 rfl trivial) (dA (xmi rfl (xai rfl (dR ?_)))))
  refine FQ.ret1 (v:=(.int _ _)) (Bs:=[A _]) [0] rfl rfl rfl ⟨rfl,trivial⟩ ?_
  cases h9; exact ⟨rfl,rfl⟩
theorem zfp {S:Type} [MemLike S] {mt:TypeId} {mv:Value} {A:S→Assn} (hM:MemI Tryz.prog mt mv A) {l:Lay} (hl:l.Ok) {p:Pen} {σ:S} {a b r:Int} {k:Nat} {σ2:S} (h:zej l p k σ a b=some (r,σ2)) (hz:Room (12 * k+2) σ:=by exact zaE):FnD Tryz.prog 239 [zbg l mt mv p,.int .i64 a,.int .i64 b] [A σ] (.int .i64 r) [A σ2]:=by
 obtain ⟨⟨c,σ3⟩,h1,h9⟩:=Option.bind_eq_some_iff.1 h
 cases h9
 refine Fn.enter (Tryz.func239) rfl rfl (fun w0 R=>?_)
 refine sA (xB 1 rfl (fun bk1=>(xai rfl (dA (xL6 1 zab rfl rfl (xmi rfl (xmi rfl (TL.callD [0] [0] (zq5 hM hl h1) ⟨rfl,rfl,rfl,trivial⟩ ⟨rfl,trivial⟩ zlq rfl rfl rfl rfl rfl trivial (xai rfl ?_)))))))))
 refine dA (xL6 1 zab rfl rfl (xmi rfl (TL.callD [0] [0] (zho hM hl) ⟨rfl,rfl,rfl,trivial⟩ ⟨rfl,trivial⟩ zhH rfl rfl rfl rfl rfl trivial (dA (xmi rfl (xai rfl (dR ?_)))))))
 refine FQ.ret1 (v:=(.int _ _)) (Bs:=[A _]) [0] rfl rfl rfl ⟨rfl,trivial⟩ ?_
 exact ⟨rfl,rfl⟩
theorem zov {S:Type} [MemLike S] {mt:TypeId} {mv:Value} {A:S→Assn} (hM:MemI Tryz.prog mt mv A) {l:Lay} (hl:l.Ok) {p:Pen} {σ:S} {x m:Int} {k:Nat} {σ2:S} (h0:0≤m) (h:zgp l k σ x m true=some σ2) (hz:Room (7 * k+7) σ:=by exact zaE):FnD Tryz.prog 241 [zbg l mt mv p,.int .i64 x,.int .i64 m,.bool true] [A σ] (.tuple #[]) [A σ2]:=by
 unfold zgp at h
 dsimp only [ziU] at h
 simp only [if_true,Bool.false_eq_true,if_false] at h
 refine Fn.enter (Tryz.func241) rfl rfl (fun w0 R=>?_)
 refine sA (xB 1 rfl (fun bk1=>(dS (TC.draw [(0,true),(1,true),(3,true),(4,true),(2,false),(5,true),(6,true)] [1] fc_m (by kernel_rfl) (xL6 1 zab rfl rfl (xmi rfl (xmi rfl (TL.shl _ rfl rfl (by omega) rfl rfl rfl (TL.callD [0] [0] (zeA hM hl) ⟨rfl,rfl,trivial⟩ ⟨rfl,trivial⟩ zfY rfl rfl rfl rfl rfl (kL1 rfl trivial) ?_)))))))))
 refine TL.andNot _ rfl rfl rfl rfl rfl (xai rfl (dB (xmt rfl (TL.done (TQ.then (TC.condT rfl (TC.region (xmi rfl ?_))))))))
 refine xmi rfl (TL.shl _ rfl rfl (by omega) rfl rfl rfl (TL.or _ rfl rfl rfl rfl rfl (xai rfl (dA (xL6 1 zab rfl rfl (xmi rfl (xmi rfl (TL.callD [0] [0] (zff hM hl) ⟨rfl,rfl,rfl,trivial⟩ ⟨rfl,trivial⟩ zhE rfl rfl rfl rfl rfl trivial ?_))))))))
 refine dA (xL6 1 zab rfl rfl (xmi rfl (TL.callD [0] [0] (zdA hM hl) ⟨rfl,rfl,trivial⟩ ⟨rfl,trivial⟩ zf0 rfl rfl rfl rfl rfl trivial (xai rfl (dK (TC.loopK (X:=Nat×S×Int) [4] [1] (fun y=>[(9,.int .i64 y.2.2)]) (fun y=>[(0,A y.2.1)]) (fun y=>zbK l y.1 y.2.1 y.2.2=some σ2∧Room (7 * y.1) y.2.1) (fun y=>y.1) ((k,_,_)) ⟨h,zaE⟩ ⟨rfl,trivial⟩ ⟨rfl,trivial⟩ (fun y hI=>?_)))))))
 obtain ⟨k,σ1,z⟩:=y
 obtain ⟨hI,hzI⟩:=hI
 rcases k with _ | k
 ·simp [zbK] at hI
 dsimp only at hI hzI
 refine TC.sub (env':=[(9,_),(4,_)]) (L':=[(0,_),(1,_)]) ⟨rfl,rfl,trivial⟩ ⟨rfl,rfl,trivial⟩ (sB (xmi rfl (TL.neq rfl rfl rfl rfl (fun q1=>?_) (fun q1=>?_))))
 refine TL.done (TQ.then (TC.condT rfl (TC.skip (TQ.then (TC.seq (TC.block (TC.draw [(0,true),(1,true),(2,true),(3,true),(4,false),(5,false)] [1] fc_m (by kernel_rfl) (xL6 1 zab rfl rfl ?_))))))))
 refine xmi rfl (xL6 1 zab rfl rfl (xmi rfl (TL.callD [0] [0] (zeA hM hl) ⟨rfl,rfl,trivial⟩ ⟨rfl,trivial⟩ zfY rfl rfl rfl rfl rfl (kL1 rfl trivial) (TL.callD [0] [0] (zff hM hl) ⟨rfl,rfl,rfl,trivial⟩ ⟨rfl,trivial⟩ zhE rfl rfl rfl rfl rfl (kL1 rfl trivial) (dI (xL6 1 zab rfl rfl (xmi rfl (TL.callD [0] [0] (zdA hM hl) ⟨rfl,rfl,trivial⟩ ⟨rfl,trivial⟩ zf0 rfl rfl rfl rfl rfl trivial ?_))))))))
 refine xai rfl (TL.done (TQ.roundK ((k,_,_)) ⟨⟨(by rw [zbK,if_pos q1] at hI; exact hI),zaE⟩,Nat.lt_succ_self _⟩ ⟨rfl,trivial⟩ ⟨rfl,trivial⟩ (kE1 rfl trivial) (kL1 rfl trivial)))
 refine TL.done (TQ.then (TC.condF rfl (TC.exit (TQ.thenExit (TQ.thenExit (TQ.blockHere ?_))))))
 refine FQ.end0 (Bs:=[A _]) [0] rfl rfl ⟨rfl,trivial⟩ ?_
 rw [zbK,if_neg q1] at hI; cases hI; exact ⟨rfl,rfl⟩
theorem znb {S:Type} [MemLike S] {mt:TypeId} {mv:Value} {A:S→Assn} (hM:MemI Tryz.prog mt mv A) {l:Lay} (hl:l.Ok) {p:Pen} {σ:S} {x m:Int} {k:Nat} {σ2:S} (h0:0≤m) (h:zgp l k σ x m false=some σ2) (hz:Room (7 * k+7) σ:=by exact zaE):FnD Tryz.prog 241 [zbg l mt mv p,.int .i64 x,.int .i64 m,.bool false] [A σ] (.tuple #[]) [A σ2]:=by
 unfold zgp at h
 dsimp only [ziU] at h
 simp only [if_true,Bool.false_eq_true,if_false] at h
 refine Fn.enter (Tryz.func241) rfl rfl (fun w0 R=>?_)
 refine sA (xB 1 rfl (fun bk1=>(dS (TC.draw [(0,true),(1,true),(3,true),(4,true),(2,false),(5,true),(6,true)] [1] fc_m (by kernel_rfl) (xL6 1 zab rfl rfl (xmi rfl (xmi rfl (TL.shl _ rfl rfl (by omega) rfl rfl rfl (TL.callD [0] [0] (zeA hM hl) ⟨rfl,rfl,trivial⟩ ⟨rfl,trivial⟩ zfY rfl rfl rfl rfl rfl (kL1 rfl trivial) ?_)))))))))
 refine TL.andNot _ rfl rfl rfl rfl rfl (xai rfl (dB (xmf rfl (dF rfl (xL6 1 zab rfl rfl (xmi rfl (xmi rfl (TL.callD [0] [0] (zff hM hl) ⟨rfl,rfl,rfl,trivial⟩ ⟨rfl,trivial⟩ zhE rfl rfl rfl rfl rfl trivial ?_))))))))
 refine dA (xL6 1 zab rfl rfl (xmi rfl (TL.callD [0] [0] (zdA hM hl) ⟨rfl,rfl,trivial⟩ ⟨rfl,trivial⟩ zf0 rfl rfl rfl rfl rfl trivial (xai rfl (dK (TC.loopK (X:=Nat×S×Int) [4] [1] (fun y=>[(9,.int .i64 y.2.2)]) (fun y=>[(0,A y.2.1)]) (fun y=>zbK l y.1 y.2.1 y.2.2=some σ2∧Room (7 * y.1) y.2.1) (fun y=>y.1) ((k,_,_)) ⟨h,zaE⟩ ⟨rfl,trivial⟩ ⟨rfl,trivial⟩ (fun y hI=>?_)))))))
 obtain ⟨k,σ1,z⟩:=y
 obtain ⟨hI,hzI⟩:=hI
 rcases k with _ | k
 ·simp [zbK] at hI
 dsimp only at hI hzI
 refine TC.sub (env':=[(9,_),(4,_)]) (L':=[(0,_),(1,_)]) ⟨rfl,rfl,trivial⟩ ⟨rfl,rfl,trivial⟩ (sB (xmi rfl (TL.neq rfl rfl rfl rfl (fun q1=>?_) (fun q1=>?_))))
 refine TL.done (TQ.then (TC.condT rfl (TC.skip (TQ.then (TC.seq (TC.block (TC.draw [(0,true),(1,true),(2,true),(3,true),(4,false),(5,false)] [1] fc_m (by kernel_rfl) (xL6 1 zab rfl rfl ?_))))))))
 refine xmi rfl (xL6 1 zab rfl rfl (xmi rfl (TL.callD [0] [0] (zeA hM hl) ⟨rfl,rfl,trivial⟩ ⟨rfl,trivial⟩ zfY rfl rfl rfl rfl rfl (kL1 rfl trivial) (TL.callD [0] [0] (zff hM hl) ⟨rfl,rfl,rfl,trivial⟩ ⟨rfl,trivial⟩ zhE rfl rfl rfl rfl rfl (kL1 rfl trivial) (dI (xL6 1 zab rfl rfl (xmi rfl (TL.callD [0] [0] (zdA hM hl) ⟨rfl,rfl,trivial⟩ ⟨rfl,trivial⟩ zf0 rfl rfl rfl rfl rfl trivial ?_))))))))
 refine xai rfl (TL.done (TQ.roundK ((k,_,_)) ⟨⟨(by rw [zbK,if_pos q1] at hI; exact hI),zaE⟩,Nat.lt_succ_self _⟩ ⟨rfl,trivial⟩ ⟨rfl,trivial⟩ (kE1 rfl trivial) (kL1 rfl trivial)))
 refine TL.done (TQ.then (TC.condF rfl (TC.exit (TQ.thenExit (TQ.thenExit (TQ.blockHere ?_))))))
 refine FQ.end0 (Bs:=[A _]) [0] rfl rfl ⟨rfl,trivial⟩ ?_
 rw [zbK,if_neg q1] at hI; cases hI; exact ⟨rfl,rfl⟩
theorem zow {S:Type} [MemLike S] {mt:TypeId} {mv:Value} {A:S→Assn} (hM:MemI Tryz.prog mt mv A) {l:Lay} (hl:l.Ok) {p:Pen} {σ:S} {x m:Int} {on:Bool} {k:Nat} {σ2:S} (h0:0≤m) (h:zgp l k σ x m on=some σ2) (hz:Room (7 * k+7) σ:=by exact zaE):FnD Tryz.prog 241 [zbg l mt mv p,.int .i64 x,.int .i64 m,.bool on] [A σ] (.tuple #[]) [A σ2]:=by
 cases on
 ·exact znb hM hl h0 h
 ·exact zov hM hl h0 h
theorem zou {S:Type} [MemLike S] {mt:TypeId} {mv:Value} {A:S→Assn} (hM:MemI Tryz.prog mt mv A) {l:Lay} (hl:l.Ok) {p:Pen} {σ:S} {x m:Int} (h0:0≤m) (hz:Room (1) σ:=by exact zaE):FnD Tryz.prog 257 [zbg l mt mv p,.int .i64 x,.int .i64 m] [A σ] (.bool (marked l σ x m)) [A (zft l σ x)]:=by
 refine Fn.enter (Tryz.func257) rfl rfl (fun w0 R=>?_)
 refine sA (xB 1 rfl (fun bk1=>(xaf rfl (dA (xL6 1 zab rfl rfl (xmi rfl (TL.callD [0] [0] (zeA hM hl) ⟨rfl,rfl,trivial⟩ ⟨rfl,trivial⟩ zfY rfl rfl rfl rfl rfl trivial (xmi rfl (TL.shr _ rfl rfl (by omega) rfl rfl rfl ?_)))))))))
 refine TL.and _ rfl rfl rfl rfl rfl (TL.eqlV rfl rfl rfl rfl (xab rfl (dR ?_)))
 refine FQ.ret1 (v:=(.bool _)) (Bs:=[A _]) [0] rfl rfl rfl ⟨rfl,trivial⟩ ?_
 exact ⟨rfl,rfl⟩
theorem zmE {S:Type} [MemLike S] {mt:TypeId} {mv:Value} {A:S→Assn} (hM:MemI Tryz.prog mt mv A) {l:Lay} (hl:l.Ok) {p:Pen} {σ:S} {i u r:Int} {k:Nat} {σ2:S} (h:zgl l p k σ i u=some (r,σ2)) (hz:Room (29 * k+9) σ:=by exact zaE):FnD Tryz.prog 240 [zbg l mt mv p,.int .i64 i,.int .i64 u] [A σ] (.int .i64 r) [A σ2]:=by
 unfold zgl at h
 dsimp only at h
 obtain ⟨⟨a,σa⟩,h1,h⟩:=Option.bind_eq_some_iff.1 h
 obtain ⟨⟨j,σb⟩,h2,h⟩:=Option.bind_eq_some_iff.1 h
 obtain ⟨⟨s,σc⟩,h3,h4⟩:=Option.bind_eq_some_iff.1 h
 dsimp only at h1 h2 h3 h4
 refine Fn.enter (Tryz.func240) rfl rfl (fun w0 R=>?_)
 refine sA (xB 1 rfl (fun bk1=>(xai rfl (dA (xf 0 zaA rfl (xf 0 zav rfl (xL3 1 zaa rfl rfl (xmi rfl (xmi rfl ?_)))))))))
 refine TL.callD [] [] (zcX hl) ⟨rfl,rfl,rfl,trivial⟩ trivial ze3 rfl rfl rfl rfl rfl trivial (xai rfl (dS (TC.draw [(0,true),(1,true),(2,true),(3,true),(4,true),(6,true),(7,true),(8,true),(5,false),(9,false),(10,false),(11,true),(12,true),(13,true),(14,true),(15,true)] [1] fc_m (by kernel_rfl) (xf 0 zaA rfl (xL6 1 zab rfl rfl (xf 0 zaA rfl (xL6 1 zab rfl rfl (xmi rfl ?_))))))))
 refine xf 0 zaA rfl (xL6 1 zab rfl rfl (xmi rfl (TL.callD [0] [0] (zg7 hM hl h1) ⟨rfl,rfl,trivial⟩ ⟨rfl,trivial⟩ zhG rfl rfl rfl rfl rfl (kL1 rfl trivial) (TL.callD [0] [0] (zrg hM hl h2) ⟨rfl,rfl,trivial⟩ ⟨rfl,trivial⟩ ztI rfl rfl rfl rfl rfl (kL1 rfl trivial) (TL.callD [0] [0] (znK hM hl h3) ⟨rfl,rfl,rfl,trivial⟩ ⟨rfl,trivial⟩ ztH rfl rfl rfl rfl rfl (kL1 rfl trivial) (xmu rfl (xei rfl rfl (xei rfl rfl ?_))))))))
 refine xai rfl (xai rfl (dA (xf 0 zaA rfl (xL6 1 zab rfl rfl (xmi rfl (xmi rfl (TL.callD [0] [0] (zfp hM hl h4) ⟨rfl,rfl,rfl,trivial⟩ ⟨rfl,trivial⟩ zjc rfl rfl rfl rfl rfl trivial (xai rfl ?_))))))))
 refine dR ?_
 refine FQ.ret1 (v:=(.int _ _)) (Bs:=[A _]) [0] rfl rfl rfl ⟨rfl,trivial⟩ ?_
 exact ⟨rfl,rfl⟩
theorem zsE {S:Type} [MemLike S] {mt:TypeId} {mv:Value} {A:S→Assn} (hM:MemI Tryz.prog mt mv A) {l:Lay} (hl:l.Ok) {p:Pen} {σ:S} {i u v:Int} {b:Bool} {k:Nat} {σ2:S} (h:same l k σ i u v=some (b,σ2)) (hz:Room (2 * k) σ:=by exact zaE):FnD Tryz.prog 202 [zbg l mt mv p,.int .i64 i,.int .i64 u,.int .i64 v] [A σ] (.bool b) [A σ2]:=by
 unfold same at h
 obtain ⟨⟨a,σa⟩,h1,h⟩:=Option.bind_eq_some_iff.1 h
 obtain ⟨⟨c,σb⟩,h2,h⟩:=Option.bind_eq_some_iff.1 h
 dsimp only at h1 h2 h
 cases h
 refine Fn.enter (Tryz.func202) rfl rfl (fun w0 R=>?_)
 refine sA (xB 1 rfl (fun bk1=>(xaf rfl (dS (TC.draw [(0,true),(1,true),(2,true),(3,true),(4,true),(5,true),(6,true),(9,true),(10,true),(11,true),(12,true),(13,true),(14,true),(15,true),(7,false),(8,false),(16,false),(17,false),(18,true),(19,true)] [1] fc_m (by kernel_rfl) (xf 0 zaA rfl (xL6 1 zab rfl rfl (xf 0 zaA rfl (xf 0 zav rfl ?_)))))))))
 refine xL3 1 zaa rfl rfl (xmi rfl (xmi rfl (xf 0 zaA rfl (xL6 1 zab rfl rfl (xf 0 zaA rfl (xf 0 zav rfl (xL3 1 zaa rfl rfl (xmi rfl ?_))))))))
 refine xmi rfl (TL.callD [] [] (zcX hl) ⟨rfl,rfl,rfl,trivial⟩ trivial ze3 rfl rfl rfl rfl rfl (kL1 rfl trivial) (TL.callD [0] [0] (zg7 hM hl h1) ⟨rfl,rfl,trivial⟩ ⟨rfl,trivial⟩ zhG rfl rfl rfl rfl rfl (kL1 rfl trivial) (TL.callD [] [] (zcX hl) ⟨rfl,rfl,rfl,trivial⟩ trivial ze3 rfl rfl rfl rfl rfl (kL1 rfl trivial) (TL.callD [0] [0] (zg7 hM hl h2) ⟨rfl,rfl,trivial⟩ ⟨rfl,trivial⟩ zhG rfl rfl rfl rfl rfl (kL1 rfl trivial) (TL.eqlV rfl rfl rfl rfl (xab rfl (dR ?_)))))))
 refine FQ.ret1 (v:=(.bool _)) (Bs:=[A _]) [0] rfl rfl rfl ⟨rfl,trivial⟩ ?_
 exact ⟨rfl,rfl⟩
theorem zrz {mt:TypeId} {mv:Value} {l:Lay} (hl:l.Ok) {p:Pen} {i s:Int}:FnD Tryz.prog 238 [zbg l mt mv p,.int .i64 i,.int .i64 s] [] (.tuple #[.int .i64 (l.arc s i 0),.int .i64 (l.arc s i 1)]) []:=by
 refine Fn.enter (Tryz.func238) rfl rfl (fun w0 R=>?_)
 refine sA (xB 0 rfl (fun bk0=>(xai rfl (xai rfl (dS (TC.draw [(0,true),(1,true),(2,true),(3,true),(4,true),(6,true),(7,true),(8,true),(9,true),(10,true),(5,false),(11,false),(12,true),(13,true)] [0] fc_m (by kernel_rfl) (xf 0 zaA rfl (xf 0 zav rfl (xL3 0 zaa rfl rfl ?_)))))))))
 refine xmi rfl (xmi rfl (xf 0 zaA rfl (xf 0 zav rfl (xL3 0 zaa rfl rfl (xmi rfl (xmi rfl (TL.callD [] [] (zqi hl) ⟨rfl,rfl,rfl,rfl,trivial⟩ trivial zlr rfl rfl rfl rfl rfl (kL1 rfl trivial) (TL.callD [] [] (zqi hl) ⟨rfl,rfl,rfl,rfl,trivial⟩ trivial zlr rfl rfl rfl rfl rfl (kL1 rfl trivial) ?_))))))))
 refine xai rfl (xai rfl (dR ?_))
 refine FQ.ret2 (v:=(.int _ _)) (x:=(.int _ _)) (Bs:=[]) [] rfl rfl rfl rfl trivial ?_
 exact ⟨rfl,rfl⟩
theorem zs8 {S:Type} [MemLike S] {mt:TypeId} {mv:Value} {A:S→Assn} (hM:MemI Tryz.prog mt mv A) {l:Lay} (hl:l.Ok) {p:Pen} {σ:S} {i s u v r:Int} {k:Nat} {σ2:S} (h:link l p k σ i s u v=some (r,σ2)) (hz:Room (94 * k+24) σ:=by exact zaE):FnD Tryz.prog 208 [zbg l mt mv p,.int .i64 i,.int .i64 s,.int .i64 u,.int .i64 v] [A σ] (.int .i64 r) [A σ2]:=by
 unfold link at h
 obtain ⟨⟨a,σa⟩,h1,h⟩:=Option.bind_eq_some_iff.1 h
 obtain ⟨⟨x,σb⟩,h2,h⟩:=Option.bind_eq_some_iff.1 h
 obtain ⟨⟨b,σc⟩,h3,h⟩:=Option.bind_eq_some_iff.1 h
 obtain ⟨⟨y,σd⟩,h4,h5⟩:=Option.bind_eq_some_iff.1 h
 dsimp only at h1 h2 h3 h4 h5
 refine Fn.enter (Tryz.func208) rfl rfl (fun w0 R=>?_)
 refine sA (xB 1 rfl (fun bk1=>(xai rfl (dA (xL6 1 zdf rfl rfl (xmi rfl (xmi rfl (TL.callD [] [] (zrz hl) ⟨rfl,rfl,rfl,trivial⟩ trivial ztJ rfl rfl rfl rfl rfl trivial (xmu rfl ?_)))))))))
 refine xei rfl rfl (xei rfl rfl (xai rfl (xai rfl (dS (TC.draw [(0,true),(1,true),(2,true),(3,true),(4,true),(6,true),(5,false),(7,false),(8,true)] [1] fc_m (by kernel_rfl) (xf 0 zaA rfl (xL6 1 zab rfl rfl (xL6 1 zdf rfl rfl ?_))))))))
 refine xmi rfl (xmi rfl (xmi rfl (TL.callD [0] [0] (zmE hM hl h1) ⟨rfl,rfl,rfl,trivial⟩ ⟨rfl,trivial⟩ zph rfl rfl rfl rfl rfl (kL1 rfl trivial) (TL.callD [0] [0] (zfp hM hl h2) ⟨rfl,rfl,rfl,trivial⟩ ⟨rfl,trivial⟩ zjc rfl rfl rfl rfl rfl (kL1 rfl trivial) (xai rfl (dS (TC.draw [(0,true),(1,true),(2,true),(3,true),(4,true),(5,true),(6,false),(7,false),(8,true)] [1] fc_m (by kernel_rfl) (xf 0 zaA rfl ?_))))))))
 refine xL6 1 zab rfl rfl (xmi rfl (xL6 1 zdf rfl rfl (xmi rfl (xmi rfl (TL.callD [0] [0] (zmE hM hl h3) ⟨rfl,rfl,rfl,trivial⟩ ⟨rfl,trivial⟩ zph rfl rfl rfl rfl rfl (kL1 rfl trivial) (TL.callD [0] [0] (zfp hM hl h4) ⟨rfl,rfl,rfl,trivial⟩ ⟨rfl,trivial⟩ zjc rfl rfl rfl rfl rfl (kL1 rfl trivial) (xai rfl (dA ?_))))))))
 refine xf 0 zaA rfl (xL6 1 zab rfl rfl (xmi rfl (xmi rfl (TL.callD [0] [0] (zfp hM hl h5) ⟨rfl,rfl,rfl,trivial⟩ ⟨rfl,trivial⟩ zjc rfl rfl rfl rfl rfl trivial (xai rfl (dR ?_))))))
 refine FQ.ret1 (v:=(.int _ _)) (Bs:=[A _]) [0] rfl rfl rfl ⟨rfl,trivial⟩ ?_
 exact ⟨rfl,rfl⟩
theorem zsf {b:Bool}:FnD Tryz.prog 204 [.bool b] [] (.int .u64 (bit b)) []:=by
 refine Fn.enter (Tryz.func204) rfl rfl (fun w0 R=>?_)
 refine sA (xai rfl (dB (xmb rfl (TL.cases rfl (fun q1=>?_) (fun q1=>?_)))))
 refine dT rfl (xai rfl (dRR ?_))
 refine FQ.ret1 (v:=(.int _ _)) (Bs:=[]) [] rfl rfl rfl trivial ?_
 cases b<;>first | exact ⟨rfl,rfl⟩ | (exfalso; simp at q1)
 refine dF rfl (xai rfl (dR ?_))
 refine FQ.ret1 (v:=(.int _ _)) (Bs:=[]) [] rfl rfl rfl trivial ?_
 cases b<;>first | exact ⟨rfl,rfl⟩ | (exfalso; simp at q1)
theorem zth {S:Type} [MemLike S] {mt:TypeId} {mv:Value} {A:S→Assn} (hM:MemI Tryz.prog mt mv A) {l:Lay} (hl:l.Ok) {σ:S} {u v:Int} (hz:Room (1) σ:=by exact zaE):FnD Tryz.prog 171 [zkf l mt mv,.int .i64 u,.int .i64 v] [A σ] (.tuple #[.int .i64 (find l σ u v).slot,.bool (find l σ u v).tree,.bool (find l σ u v).ok]) [A (zo3 l σ u v)]:=by
 refine Fn.enter (Tryz.func171) rfl rfl (fun w0 R=>?_)
 refine sA (xB 1 rfl (fun bk1=>(xai rfl (xaf rfl (xaf rfl (dS (TC.draw [(0,true),(1,true),(2,true),(3,true),(4,true),(5,true),(7,true),(8,true),(6,false),(9,false),(10,true)] [1] fc_m (by kernel_rfl) (xf 3 zbr rfl (xlc 1 zba rfl rfl ?_)))))))))
 refine xf 0 zaV rfl (xL3 1 zaa rfl rfl (xmi rfl (xmi rfl (TL.ncI rfl rfl rfl (xmc rfl (TL.callD [] [] (zjk hl) ⟨rfl,rfl,rfl,trivial⟩ trivial zjf rfl rfl rfl rfl rfl (kL1 rfl trivial) (TL.mload 0 hM rfl rfl rfl rfl rfl (kL1 rfl trivial) (xai rfl ?_))))))))
 refine dB (xmi rfl (TL.eql rfl rfl rfl rfl (fun q1=>?_) (fun q1=>?_)))
 refine dT rfl (xai rfl (xaf rfl (xaf rfl (dRR ?_))))
 refine FQ.ret3 (v:=(.int _ _)) (x:=(.bool false)) (y:=(.bool false)) (Bs:=[A _]) [0] rfl rfl rfl rfl rfl ⟨rfl,trivial⟩ ?_
 first | exact ⟨(by unfold find; dsimp only; rw [if_pos q1]),rfl⟩ | exact ⟨(by unfold find; dsimp only; rw [if_neg q1]; rfl),rfl⟩
 refine dF rfl (xmi rfl (TL.shr _ rfl rfl (by decide) rfl rfl rfl (TL.conv _ rfl zdc zaC (rfl) rfl rfl (TL.sub _ rfl rfl (rfl) rfl rfl (xmi rfl (TL.and _ rfl rfl rfl rfl rfl (TL.eqlV rfl rfl rfl rfl (xai rfl ?_))))))))
 refine xab rfl (xat rfl (dR ?_))
 refine FQ.ret3 (v:=(.int _ _)) (x:=(.bool _)) (y:=(.bool true)) (Bs:=[A _]) [0] rfl rfl rfl rfl rfl ⟨rfl,trivial⟩ ?_
 first | exact ⟨(by unfold find; dsimp only; rw [if_pos q1]),rfl⟩ | exact ⟨(by unfold find; dsimp only; rw [if_neg q1]; rfl),rfl⟩
theorem zum {S:Type} [MemLike S] {mt:TypeId} {mv:Value} {A:S→Assn} (hM:MemI Tryz.prog mt mv A) {l:Lay} (hl:l.Ok) {σ:S} {s u v i:Int} {t:Bool} (hz:Room (3) σ:=by exact zaE):FnD Tryz.prog 161 [zkf l mt mv,.int .i64 s,.int .i64 u,.int .i64 v,.int .i64 i,.bool t] [A σ] (.tuple #[]) [A (eput l σ s u v i t)]:=by
 refine Fn.enter (Tryz.func161) rfl rfl (fun w0 R=>?_)
 refine sA (xB 1 rfl (fun bk1=>(dS (TC.draw [(0,true),(1,true),(2,true),(3,true),(4,true),(6,true),(7,true),(8,true),(9,true),(10,true),(11,true),(12,true),(13,true),(14,true),(15,true),(16,true),(5,false),(17,false)] [1] fc_m (by kernel_rfl) (xf 3 zbr rfl (xlc 1 zba rfl rfl (xf 0 zaV rfl (xL3 1 zaa rfl rfl (xmi rfl ?_)))))))))
 refine xmi rfl (xmi rfl (TL.min2 rfl rfl rfl rfl (TL.shl _ rfl rfl (by decide) rfl rfl rfl (xmi rfl (xmi rfl (TL.max2 rfl rfl rfl rfl (TL.or _ rfl rfl rfl rfl rfl (TL.conv _ rfl ze0 za7 (rfl) rfl rfl ?_))))))))
 refine TL.ncI rfl rfl rfl (xmc rfl (TL.callD [] [] (zpR hl) ⟨rfl,rfl,trivial⟩ trivial zpt rfl rfl rfl rfl rfl (kL1 rfl trivial) (TL.mstore 0 hM rfl rfl rfl (by first | exact zf9 _ | exact zdt _ _ | exact MemLike.rng _ _ | decide | assumption) rfl rfl rfl (kL1 rfl trivial) (dS (TC.draw [(0,true),(1,true),(2,true),(3,true),(4,true),(6,true),(7,true),(8,true),(9,true),(5,false),(10,false)] [1] fc_m (by kernel_rfl) (xf 3 zbr rfl (xlc 1 zba rfl rfl (xf 0 zaV rfl ?_))))))))
 refine xL3 1 zaa rfl rfl (xmi rfl (xmi rfl (TL.conv _ rfl ze0 za7 (rfl) rfl rfl (TL.ncI rfl rfl rfl (xmc rfl (TL.callD [] [] (zml hl) ⟨rfl,rfl,trivial⟩ trivial zpC rfl rfl rfl rfl rfl (kL1 rfl trivial) (TL.mstore 0 hM rfl rfl rfl (by first | exact zf9 _ | exact zdt _ _ | exact MemLike.rng _ _ | decide | assumption) rfl rfl rfl (kL1 rfl trivial) (TL.done ?_))))))))
 refine TQ.then (TC.draw [(0,true),(1,true),(2,true),(3,true),(4,true),(5,true),(7,true),(8,true),(9,true),(10,true),(11,true),(14,true),(15,true),(6,false),(12,false),(13,true),(16,false)] [1] fc_m (by kernel_rfl) (xf 3 zbr rfl (xlc 1 zba rfl rfl (xf 0 zaV rfl (xL3 1 zaa rfl rfl (xmi rfl (xmi rfl (xmi rfl ?_))))))))
 refine TL.add _ rfl rfl (rfl) rfl rfl (TL.conv _ rfl ze0 za7 (rfl) rfl rfl (TL.shl _ rfl rfl (by decide) rfl rfl rfl (xmb rfl (TL.ncI rfl rfl rfl (xmc rfl (TL.callD [] [] (zjk hl) ⟨rfl,rfl,rfl,trivial⟩ trivial zjf rfl rfl rfl rfl rfl (kL1 rfl trivial) (TL.callD [] [] zsf ⟨rfl,trivial⟩ trivial zps rfl rfl rfl rfl rfl (kL1 rfl trivial) (TL.or _ rfl rfl rfl rfl rfl ?_))))))))
 refine TL.mstore 0 hM rfl rfl rfl (by first | exact zf9 _ | exact zdt _ _ | exact MemLike.rng _ _ | decide | assumption) rfl rfl rfl (kL1 rfl trivial) (TL.done ?_)
 refine FQ.end0 (Bs:=[A _]) [0] rfl rfl ⟨rfl,trivial⟩ ?_
 exact ⟨rfl,rfl⟩
theorem zmw {S:Type} [MemLike S] {mt:TypeId} {mv:Value} {A:S→Assn} (hM:MemI Tryz.prog mt mv A) {l:Lay} (hl:l.Ok) {σ:S} {s:Int} (hz:Room (1) σ:=by exact zaE):FnD Tryz.prog 170 [zkf l mt mv,.int .i64 s] [A σ] (.tuple #[.int .i64 (zke l σ s),.int .i64 (zkd l σ s)]) [A (zhV l σ s)]:=by
 refine Fn.enter (Tryz.func170) rfl rfl (fun w0 R=>?_)
 refine sA (xB 1 rfl (fun bk1=>(xai rfl (xai rfl (dS (TC.draw [(0,true),(1,true),(2,true),(3,true),(4,true),(6,true),(7,true),(5,false),(8,false),(9,true),(10,true)] [1] fc_m (by kernel_rfl) (xf 3 zbr rfl (xlc 1 zba rfl rfl (xf 0 zaV rfl ?_)))))))))
 refine xL3 1 zaa rfl rfl (xmi rfl (TL.ncI rfl rfl rfl (xmc rfl (TL.callD [] [] (zpR hl) ⟨rfl,rfl,trivial⟩ trivial zpt rfl rfl rfl rfl rfl (kL1 rfl trivial) (TL.mload 0 hM rfl rfl rfl rfl rfl (kL1 rfl trivial) (TL.conv _ rfl zdc zaC (rfl) rfl rfl (xai rfl (dA ?_))))))))
 refine xmi rfl (TL.shr _ rfl rfl (by decide) rfl rfl rfl (xmi rfl (TL.and _ rfl rfl rfl rfl rfl (xai rfl (xai rfl (dR ?_))))))
 refine FQ.ret2 (v:=(.int _ _)) (x:=(.int _ _)) (Bs:=[A _]) [0] rfl rfl rfl rfl ⟨rfl,trivial⟩ ?_
 exact ⟨rfl,rfl⟩
theorem zpT {S:Type} [MemLike S] {mt:TypeId} {mv:Value} {A:S→Assn} (hM:MemI Tryz.prog mt mv A) {l:Lay} (hl:l.Ok) {σ:S} {s:Int} (hz:Room (3) σ:=by exact zaE):FnD Tryz.prog 134 [zkf l mt mv,.int .i64 s] [A σ] (edgV (eget l σ s)) [A (zeL l σ s)]:=by
 refine Fn.enter (Tryz.func134) rfl rfl (fun w0 R=>?_)
 refine sA (xB 1 rfl (fun bk1=>(TL.alloc 2 (cs:=#[.int .i64 0,.int .i64 0,.int .i64 0,.bool false]) zi7 rfl rfl rfl (fun _=>trivial) (fun bk2=>(dA (xL4 1 zde rfl rfl (xmi rfl (TL.callD [0] [0] (zmw hM hl) ⟨rfl,rfl,trivial⟩ ⟨rfl,trivial⟩ zpD rfl rfl rfl rfl rfl trivial (xmu rfl (xei rfl rfl ?_))))))))))
 refine xei rfl rfl (xai rfl (xai rfl (dA (xL4 1 zde rfl rfl (xmi rfl (xmi rfl (TL.callD [0] [0] (zth hM hl) ⟨rfl,rfl,rfl,trivial⟩ ⟨rfl,trivial⟩ ztX rfl rfl rfl rfl rfl trivial (xmu rfl ?_))))))))
 refine xei rfl rfl (TL.ext (.bool _) rfl rfl rfl rfl (TL.ext (.bool _) rfl rfl rfl rfl (xai rfl (xab rfl (xab rfl (dS (TC.draw [(0,true),(1,true),(2,true),(3,true),(4,true),(5,true),(6,true),(8,true),(9,true),(12,true),(7,false),(10,false),(11,true),(13,true),(14,false)] [1] fc_m (by kernel_rfl) (xmi rfl ?_))))))))
 refine xmi rfl (xf 3 zbr rfl (xlc 1 zba rfl rfl (xf 0 zaV rfl (xL3 1 zaa rfl rfl (xmi rfl (TL.ncI rfl rfl rfl (xmc rfl (xmb rfl ?_))))))))
 refine TL.callD [] [] (zml hl) ⟨rfl,rfl,trivial⟩ trivial zpC rfl rfl rfl rfl rfl (kL1 rfl trivial) (TL.mload 0 hM rfl rfl rfl rfl rfl (kL1 rfl trivial) (TL.conv _ rfl zdc zaC (rfl) rfl rfl (TL.bld [.int .i64 0,.int .i64 0,.int .i64 0,.bool false] [(.int _ _),(.int _ _),(.int _ _),(.bool _)] [_,_,_,_] zi7 ztr ⟨rfl,rfl,rfl,rfl,trivial⟩ ⟨rfl,rfl⟩ rfl rfl (TL.stW 2 4 [_,_,_,_] rfl rfl rfl rfl rfl rfl zfC rfl rfl (kL1 rfl trivial) (dR ?_)))))
 refine FQ.retG (rs:=[.cell 4 217]) [(.agg _)] (Bs:=[A _]) [0] rfl ⟨⟨_,_,_,_,_,2,rfl,rfl,.inr ⟨4,[_,_,_,_],zfC,rfl,rfl⟩⟩,trivial⟩ rfl rfl ⟨rfl,trivial⟩ ?_
 exact ⟨rfl,rfl⟩
theorem zrn {S:Type} [MemLike S] {mt:TypeId} {mv:Value} {A:S→Assn} (hM:MemI Tryz.prog mt mv A) {l:Lay} (hl:l.Ok) {σ:S} {s:Int} {t:Bool} (hz:Room (2) σ:=by exact zaE):FnD Tryz.prog 207 [zkf l mt mv,.int .i64 s,.bool t] [A σ] (.tuple #[]) [A (zhJ l σ s t)]:=by
 refine Fn.enter (Tryz.func207) rfl rfl (fun w0 R=>?_)
 refine sA (xB 1 rfl (fun bk1=>(dA (xL4 1 zde rfl rfl (xmi rfl (TL.callD [0] [0] (zmw hM hl) ⟨rfl,rfl,trivial⟩ ⟨rfl,trivial⟩ zpD rfl rfl rfl rfl rfl trivial (xmu rfl (xei rfl rfl (xei rfl rfl ?_)))))))))
 refine xai rfl (xai rfl (TL.done (TQ.then (TC.draw [(0,true),(1,true),(2,true),(3,true),(4,true),(5,true),(7,true),(8,true),(9,true),(10,true),(11,true),(14,true),(15,true),(6,false),(12,false),(13,true),(16,false)] [1] fc_m (by kernel_rfl) (xf 3 zbr rfl (xlc 1 zba rfl rfl (xf 0 zaV rfl (xL3 1 zaa rfl rfl ?_))))))))
 refine xmi rfl (xmi rfl (xmi rfl (TL.add _ rfl rfl (rfl) rfl rfl (TL.conv _ rfl ze0 za7 (rfl) rfl rfl (TL.shl _ rfl rfl (by decide) rfl rfl rfl (xmb rfl (TL.ncI rfl rfl rfl (xmc rfl ?_))))))))
 refine TL.callD [] [] (zjk hl) ⟨rfl,rfl,rfl,trivial⟩ trivial zjf rfl rfl rfl rfl rfl (kL1 rfl trivial) (TL.callD [] [] zsf ⟨rfl,trivial⟩ trivial zps rfl rfl rfl rfl rfl (kL1 rfl trivial) (TL.or _ rfl rfl rfl rfl rfl (TL.mstore 0 hM rfl rfl rfl (by first | exact zf9 _ | exact zdt _ _ | exact MemLike.rng _ _ | decide | assumption) rfl rfl rfl (kL1 rfl trivial) (TL.done ?_))))
 refine FQ.end0 (Bs:=[A _]) [0] rfl rfl ⟨rfl,trivial⟩ ?_
 exact ⟨rfl,rfl⟩
theorem zqr {S:Type} [MemLike S] {mt:TypeId} {mv:Value} {A:S→Assn} (hM:MemI Tryz.prog mt mv A) {l:Lay} (hl:l.Ok) {p:Pen} {σ:S} {c:Int} (hz:Room (1) σ:=by exact zaE):FnD Tryz.prog 233 [adjV l mt mv p,.int .i64 c] [A σ] (.int .i64 (aget σ c)) [A (MemLike.ld σ c)]:=by
 refine Fn.enter (Tryz.func233) rfl rfl (fun w0 R=>?_)
 refine sA (xB 1 rfl (fun bk1=>(xai rfl (dA (xf 6 za3 rfl (xf 3 zbr rfl (xlc 1 zba rfl rfl (xmi rfl (TL.mload 0 hM rfl rfl rfl rfl rfl trivial ?_)))))))))
 refine TL.conv _ rfl zdc zaC (rfl) rfl rfl (xai rfl (dR ?_))
 refine FQ.ret1 (v:=(.int _ _)) (Bs:=[A _]) [0] rfl rfl rfl ⟨rfl,trivial⟩ ?_
 exact ⟨rfl,rfl⟩
theorem zhR {S:Type} [MemLike S] {mt:TypeId} {mv:Value} {A:S→Assn} (hM:MemI Tryz.prog mt mv A) {l:Lay} (hl:l.Ok) {p:Pen} {σ:S} {c v:Int} (hz:Room (1) σ:=by exact zaE):FnD Tryz.prog 234 [adjV l mt mv p,.int .i64 c,.int .i64 v] [A σ] (.tuple #[]) [A (MemLike.st σ c (IntKind.u64.wrap v))]:=by
 refine Fn.enter (Tryz.func234) rfl rfl (fun w0 R=>?_)
 refine sA (xB 1 rfl (fun bk1=>(dG (xf 6 za3 rfl (xf 3 zbr rfl (xlc 1 zba rfl rfl (xmi rfl (xmi rfl (TL.conv _ rfl ze0 za7 (rfl) rfl rfl ?_)))))))))
 refine TL.mstore 0 hM rfl rfl rfl (by first | exact zf9 _ | exact zdt _ _ | exact MemLike.rng _ _ | decide | assumption) rfl rfl rfl trivial (TL.done ?_)
 refine FQ.end0 (Bs:=[A _]) [0] rfl rfl ⟨rfl,trivial⟩ ?_
 exact ⟨rfl,rfl⟩
theorem znM {s d:Int}:FnD Tryz.prog 206 [.int .i64 s,.int .i64 d] [] (.int .i64 (side s d)) []:=by
 refine Fn.enter (Tryz.func206) rfl rfl (fun w0 R=>?_)
 refine sA (xai rfl (dA (xmi rfl (TL.mul _ rfl rfl (rfl) rfl rfl (xmi rfl (TL.add _ rfl rfl (rfl) rfl rfl (TL.add _ rfl rfl (rfl) rfl rfl (xai rfl ?_))))))))
 refine dR ?_
 refine FQ.ret1 (v:=(.int _ _)) (Bs:=[]) [] rfl rfl rfl trivial ?_
 exact ⟨rfl,rfl⟩
theorem zrA {mt:TypeId} {mv:Value} {l:Lay} (hl:l.Ok) {p:Pen} {x:Int}:FnD Tryz.prog 235 [adjV l mt mv p,.int .i64 x] [] (.int .i64 (za0 l x)) []:=by
 refine Fn.enter (Tryz.func235) rfl rfl (fun w0 R=>?_)
 refine sA (xB 0 rfl (fun bk0=>(xai rfl (dA (xf 6 za3 rfl (xf 0 zaV rfl (xL3 0 zaa rfl rfl (xmi rfl (TL.sub _ rfl rfl (rfl) rfl rfl ?_)))))))))
 refine TL.quo _ rfl rfl (by omega) (quo2 _) rfl rfl (xmi rfl (TL.sub _ rfl rfl (rfl) rfl rfl (TL.rem _ rfl rfl (by omega) (rfl) rfl rfl (TL.callD [] [] (zs3 hl) ⟨rfl,rfl,rfl,trivial⟩ trivial ztE rfl rfl rfl rfl rfl trivial (xai rfl (dR ?_))))))
 refine FQ.ret1 (v:=(.int _ _)) (Bs:=[]) [] rfl rfl rfl trivial ?_
 exact ⟨rfl,rfl⟩
theorem zmH {mt:TypeId} {mv:Value} {l:Lay} (hl:l.Ok) {p:Pen} {x:Int}:FnD Tryz.prog 236 [adjV l mt mv p,.int .i64 x] [] (.int .i64 (zaH l x)) []:=by
 refine Fn.enter (Tryz.func236) rfl rfl (fun w0 R=>?_)
 refine sA (xB 0 rfl (fun bk0=>(xai rfl (dA (xf 6 za3 rfl (xf 0 zaV rfl (xL3 0 zaa rfl rfl (xmi rfl (TL.sub _ rfl rfl (rfl) rfl rfl ?_)))))))))
 refine TL.quo _ rfl rfl (by omega) (quo2 _) rfl rfl (xmi rfl (TL.sub _ rfl rfl (rfl) rfl rfl (TL.rem _ rfl rfl (by omega) (rfl) rfl rfl (TL.callD [] [] (zsO hl) ⟨rfl,rfl,rfl,trivial⟩ trivial ztD rfl rfl rfl rfl rfl trivial (xai rfl (dR ?_))))))
 refine FQ.ret1 (v:=(.int _ _)) (Bs:=[]) [] rfl rfl rfl trivial ?_
 exact ⟨rfl,rfl⟩
theorem zmI {S:Type} [MemLike S] {mt:TypeId} {mv:Value} {A:S→Assn} (hM:MemI Tryz.prog mt mv A) {l:Lay} (hl:l.Ok) {p:Pen} {σ:S} {v i:Int} {k:Nat} {σ2:S} (h:zf8 l k σ v i=some σ2) (hz:Room (7 * k+9) σ:=by exact zaE):FnD Tryz.prog 237 [adjV l mt mv p,.int .i64 v,.int .i64 i] [A σ] (.tuple #[]) [A σ2]:=by
 unfold zf8 at h
 dsimp only at h
 refine Fn.enter (Tryz.func237) rfl rfl (fun w0 R=>?_)
 refine sA (xB 1 rfl (fun bk1=>(dA (xf 6 za3 rfl (xf 0 zaV rfl (xL3 1 zaa rfl rfl (xmi rfl (xmi rfl (TL.callD [] [] (zcX hl) ⟨rfl,rfl,rfl,trivial⟩ trivial ze3 rfl rfl rfl rfl rfl trivial ?_)))))))))
 refine xai rfl (dS (TC.draw [(0,true),(1,true),(2,true),(3,true),(4,true),(5,true),(6,false),(7,false),(8,true),(9,true)] [1] fc_m (by kernel_rfl) (xL10 1 zaW rfl rfl (xf 6 za3 rfl (xf 0 zaV rfl (xL3 1 zaa rfl rfl (xmi rfl (xmi rfl ?_))))))))
 refine TL.callD [] [] (zoR hl) ⟨rfl,rfl,rfl,trivial⟩ trivial zpl rfl rfl rfl rfl rfl (kL1 rfl trivial) (TL.callD [0] [0] (zqr hM hl) ⟨rfl,rfl,trivial⟩ ⟨rfl,trivial⟩ zpk rfl rfl rfl rfl rfl (kL1 rfl trivial) (TL.neqV rfl rfl rfl rfl (xab rfl (dA (xmb rfl (xf 0 zbS rfl (xf 0 zaA rfl (xL6 1 zab rfl rfl ?_))))))))
 refine xmi rfl (TL.callD [0] [0] (zou hM hl (by decide)) ⟨rfl,rfl,rfl,trivial⟩ ⟨rfl,trivial⟩ ztC rfl rfl rfl rfl rfl trivial (TL.neqB rfl rfl zdF rfl rfl (TL.cases rfl (fun q1=>?_) (fun q1=>?_))))
 refine TL.done (TQ.then (TC.condT rfl (TC.region (xf 0 zbS rfl (xf 0 zaA rfl (xL6 1 zab rfl rfl (xmi rfl (xmb rfl ?_))))))))
 refine TL.callD [0] [0] (zow hM hl (by decide) (by rw [if_pos (by simpa using q1)] at h; exact h)) ⟨rfl,rfl,rfl,rfl,trivial⟩ ⟨rfl,trivial⟩ zpg rfl rfl rfl rfl rfl trivial (TL.done ?_)
 refine FQ.end0 (Bs:=[A _]) [0] rfl rfl ⟨rfl,trivial⟩ ?_
 exact ⟨rfl,rfl⟩
 refine TL.done (TQ.then (TC.condF rfl (TC.skip ?_)))
 refine FQ.end0 (Bs:=[A _]) [0] rfl rfl ⟨rfl,trivial⟩ ?_
 rw [if_neg (fun hc=>by revert q1 hc; cases marked l (MemLike.ld σ (l.head v i)) (l.vertex i v) 0<;>simp<;>omega)] at h; cases h; exact ⟨rfl,rfl⟩
theorem zn5 {S:Type} [MemLike S] {mt:TypeId} {mv:Value} {A:S→Assn} (hM:MemI Tryz.prog mt mv A) {l:Lay} (hl:l.Ok) {p:Pen} {σ:S} {x v i:Int} {k:Nat} {σ2:S} (h:push l k σ x v i=some σ2) (hz:Room (7 * k+14) σ:=by exact zaE):FnD Tryz.prog 205 [adjV l mt mv p,.int .i64 x,.int .i64 v,.int .i64 i] [A σ] (.tuple #[]) [A σ2]:=by
 unfold push at h
 dsimp only at h
 refine Fn.enter (Tryz.func205) rfl rfl (fun w0 R=>?_)
 refine sA (xB 1 rfl (fun bk1=>(dA (xf 6 za3 rfl (xf 0 zaV rfl (xL3 1 zaa rfl rfl (xmi rfl (xmi rfl (TL.callD [] [] (zoR hl) ⟨rfl,rfl,rfl,trivial⟩ trivial zpl rfl rfl rfl rfl rfl trivial ?_)))))))))
 refine xai rfl (dA (xL10 1 zaW rfl rfl (xmi rfl (TL.callD [0] [0] (zqr hM hl) ⟨rfl,rfl,trivial⟩ ⟨rfl,trivial⟩ zpk rfl rfl rfl rfl rfl trivial (xai rfl (dS (TC.draw [(0,true),(1,true),(2,true),(4,true),(3,false),(5,false)] [1] fc_m (by kernel_rfl) (xL10 1 zaW rfl rfl ?_))))))))
 refine xL10 1 zaW rfl rfl (xmi rfl (xmi rfl (TL.callD [] [] (zrA hl) ⟨rfl,rfl,trivial⟩ trivial ztK rfl rfl rfl rfl rfl (kL1 rfl trivial) (TL.callD [0] [0] (zhR hM hl) ⟨rfl,rfl,rfl,trivial⟩ ⟨rfl,trivial⟩ zhF rfl rfl rfl rfl rfl (kL1 rfl trivial) (dS (TC.draw [(0,true),(1,true),(2,true),(3,false),(4,false)] [1] fc_m (by kernel_rfl) (xL10 1 zaW rfl rfl (xL10 1 zaW rfl rfl ?_))))))))
 refine xmi rfl (TL.callD [] [] (zmH hl) ⟨rfl,rfl,trivial⟩ trivial zpj rfl rfl rfl rfl rfl (kL1 rfl trivial) (TL.callD [0] [0] (zhR hM hl) ⟨rfl,rfl,rfl,trivial⟩ ⟨rfl,trivial⟩ zhF rfl rfl rfl rfl rfl (kL1 rfl trivial) (dB (xmi rfl (TL.neq rfl rfl rfl rfl (fun q1=>?_) (fun q1=>?_))))))
 refine TL.done (TQ.then (TC.condT rfl (TC.draw [(0,true),(1,true),(2,true),(4,true),(3,false),(5,false)] [1] fc_m (by kernel_rfl) (xL10 1 zaW rfl rfl (xL10 1 zaW rfl rfl (xmi rfl (xmi rfl (TL.callD [] [] (zmH hl) ⟨rfl,rfl,trivial⟩ trivial zpj rfl rfl rfl rfl rfl (kL1 rfl trivial) ?_))))))))
 refine TL.callD [0] [0] (zhR hM hl) ⟨rfl,rfl,rfl,trivial⟩ ⟨rfl,trivial⟩ zhF rfl rfl rfl rfl rfl (kL1 rfl trivial) (dA (xL10 1 zaW rfl rfl (xmi rfl (xmi rfl (TL.callD [0] [0] (zhR hM hl) ⟨rfl,rfl,rfl,trivial⟩ ⟨rfl,trivial⟩ zhF rfl rfl rfl rfl rfl trivial (dG (xL10 1 zaW rfl rfl (xmi rfl ?_))))))))
 refine xmi rfl (TL.callD [0] [0] (zmI hM hl (by rw [if_pos q1] at h; exact h)) ⟨rfl,rfl,rfl,trivial⟩ ⟨rfl,trivial⟩ zpi rfl rfl rfl rfl rfl trivial (TL.done ?_))
 refine FQ.end0 (Bs:=[A _]) [0] rfl rfl ⟨rfl,trivial⟩ ?_
 exact ⟨rfl,rfl⟩
 refine dF rfl (xL10 1 zaW rfl rfl (xmi rfl (xmi rfl (TL.callD [0] [0] (zhR hM hl) ⟨rfl,rfl,rfl,trivial⟩ ⟨rfl,trivial⟩ zhF rfl rfl rfl rfl rfl trivial (dG (xL10 1 zaW rfl rfl (xmi rfl (xmi rfl ?_))))))))
 refine TL.callD [0] [0] (zmI hM hl (by rw [if_neg q1] at h; exact h)) ⟨rfl,rfl,rfl,trivial⟩ ⟨rfl,trivial⟩ zpi rfl rfl rfl rfl rfl trivial (TL.done ?_)
 refine FQ.end0 (Bs:=[A _]) [0] rfl rfl ⟨rfl,trivial⟩ ?_
 exact ⟨rfl,rfl⟩
theorem zqj {S:Type} [MemLike S] {mt:TypeId} {mv:Value} {A:S→Assn} (hM:MemI Tryz.prog mt mv A) {l:Lay} (hl:l.Ok) {p:Pen} {σ:S} {s:Int} {k:Nat} {σ2:S} (h:add l k σ s=some σ2) (hz:Room (14 * k+31) σ:=by exact zaE):FnD Tryz.prog 162 [adjV l mt mv p,.int .i64 s] [A σ] (.tuple #[]) [A σ2]:=by
 unfold add at h
 dsimp only at h
 obtain ⟨σ1,h1,h2⟩:=Option.bind_eq_some_iff.1 h
 refine Fn.enter (Tryz.func162) rfl rfl (fun w0 R=>?_)
 refine sA (xB 1 rfl (fun bk1=>(dA (xf 6 za3 rfl (xL4 1 zde rfl rfl (xmi rfl (TL.callD [0] [0] (zpT hM hl) ⟨rfl,rfl,trivial⟩ ⟨rfl,trivial⟩ zpK rfl rfl rfl rfl rfl trivial (TL.alloc 2 (cs:=#[.int .i64 0,.int .i64 0,.int .i64 0,.bool false]) zi7 rfl rfl rfl (fun _=>trivial) (fun bk2=>(TL.stW 2 4 [_,_,_,_] rfl rfl rfl rfl rfl rfl zfC rfl rfl trivial ?_))))))))))
 refine dS (TC.draw [(0,true),(1,true),(3,true),(4,true),(5,true),(6,true),(2,false),(7,false)] [1,2] fc_m (by kernel_rfl) (xL10 1 zaW rfl rfl (xmi rfl (xf 0 zhx rfl (xli 2 zah rfl rfl (xf 2 zdY rfl (xli 2 zah rfl rfl (TL.callD [] [] znM ⟨rfl,rfl,trivial⟩ trivial zpq rfl rfl rfl rfl rfl (kL2 rfl rfl trivial) ?_))))))))
 refine TL.callD [0] [0] (zn5 hM hl h1) ⟨rfl,rfl,rfl,rfl,trivial⟩ ⟨rfl,trivial⟩ zpr rfl rfl rfl rfl rfl (kL2 rfl rfl trivial) (TL.done (TQ.then (TC.draw [(0,true),(1,true),(3,true),(4,true),(5,true),(6,true),(2,false),(7,false)] [1,2] fc_m (by kernel_rfl) (xL10 1 zaW rfl rfl (xmi rfl (xf 1 zhw rfl (xli 2 zah rfl rfl (xf 2 zdY rfl ?_))))))))
 refine xli 2 zah rfl rfl (TL.callD [] [] znM ⟨rfl,rfl,trivial⟩ trivial zpq rfl rfl rfl rfl rfl (kL2 rfl rfl trivial) (TL.callD [0] [0] (zn5 hM hl h2) ⟨rfl,rfl,rfl,rfl,trivial⟩ ⟨rfl,trivial⟩ zpr rfl rfl rfl rfl rfl (kL2 rfl rfl trivial) (TL.done ?_)))
 refine FQ.end0 (Bs:=[A _]) [0] rfl rfl ⟨rfl,trivial⟩ ?_
 exact ⟨rfl,rfl⟩
theorem zq7 {S:Type} [MemLike S] {mt:TypeId} {mv:Value} {A:S→Assn} (hM:MemI Tryz.prog mt mv A) {l:Lay} (hl:l.Ok) {p:Pen} {σ:S} {s i:Int} {on:Bool} {k:Nat} {σ2:S} (h:lmark l k σ s i on=some σ2) (hz:Room (7 * k+7) σ:=by exact zaE):FnD Tryz.prog 209 [adjV l mt mv p,.int .i64 s,.int .i64 i,.bool on] [A σ] (.tuple #[]) [A σ2]:=by
 unfold lmark at h
 refine Fn.enter (Tryz.func209) rfl rfl (fun w0 R=>?_)
 refine sA (xB 1 rfl (fun bk1=>(TL.done (TQ.then (TC.draw [(0,true),(1,true),(2,true),(3,true),(4,true),(5,true),(6,true),(7,true),(8,true),(9,true),(11,true),(10,false),(12,false)] [1] fc_m (by kernel_rfl) (xf 0 zbf rfl (xf 0 zbS rfl (xf 0 zaA rfl (xL6 1 zab rfl rfl ?_)))))))))
 refine xf 0 zbf rfl (xf 6 za3 rfl (xf 0 zaV rfl (xL3 1 zaa rfl rfl (xmi rfl (xmi rfl (xmb rfl (TL.callD [] [] (zqi hl) ⟨rfl,rfl,rfl,rfl,trivial⟩ trivial zlr rfl rfl rfl rfl rfl (kL1 rfl trivial) (TL.callD [0] [0] (zow hM hl (by decide) h) ⟨rfl,rfl,rfl,rfl,trivial⟩ ⟨rfl,trivial⟩ zpg rfl rfl rfl rfl rfl (kL1 rfl trivial) ?_))))))))
 refine TL.done ?_
 refine FQ.end0 (Bs:=[A _]) [0] rfl rfl ⟨rfl,trivial⟩ ?_
 exact ⟨rfl,rfl⟩
theorem zqY {S:Type} [MemLike S] {mt:TypeId} {mv:Value} {A:S→Assn} (hM:MemI Tryz.prog mt mv A) {l:Lay} (hl:l.Ok) {p:Pen} {σ:S} {s:Int} {k:Nat} {σ2:S} (h:plant l p k σ s=some σ2) (hz:Room (7 * k+12+k * (94 * k+24)) σ:=by exact zaE):FnD Tryz.prog 163 [adjV l mt mv p,.int .i64 s] [A σ] (.tuple #[]) [A σ2]:=by
 unfold plant at h
 dsimp only at h
 obtain ⟨σ1,h1,h2⟩:=Option.bind_eq_some_iff.1 h
 refine Fn.enter (Tryz.func163) rfl rfl (fun w0 R=>?_)
 refine sA (xB 1 rfl (fun bk1=>(dA (xf 0 zbf rfl (xf 6 za3 rfl (xL4 1 zde rfl rfl (xmi rfl (TL.callD [0] [0] (zpT hM hl) ⟨rfl,rfl,trivial⟩ ⟨rfl,trivial⟩ zpK rfl rfl rfl rfl rfl trivial (TL.alloc 2 (cs:=#[.int .i64 0,.int .i64 0,.int .i64 0,.bool false]) zi7 rfl rfl rfl (fun _=>trivial) (fun bk2=>?_))))))))))
 refine TL.stW 2 4 [_,_,_,_] rfl rfl rfl rfl rfl rfl zfC rfl rfl trivial (dA (xf 0 zbf rfl (xf 6 za3 rfl (xL4 1 zde rfl rfl (xmi rfl (TL.callD [0] [0] (zrn hM hl) ⟨rfl,rfl,rfl,trivial⟩ ⟨rfl,trivial⟩ ztR rfl rfl rfl rfl rfl trivial (dB (xf 2 zdY rfl ?_))))))))
 refine xli 2 zah rfl rfl (TL.add _ rfl rfl (rfl) rfl rfl (xmi rfl (dK (TC.loopK (X:=Nat×S×Int) [1,2,4,18] [1,2] (fun y=>[(19,.int .i64 y.2.2)]) (fun y=>[(0,A y.2.1)]) (fun y=>zcM l p s (eget l σ s).u (eget l σ s).v y.1 k y.2.1 y.2.2 (IntKind.i64.wrap ((eget l σ s).level+1))=some σ1∧Room (y.1 * (94 * k+24)+(7 * k+7)) y.2.1) (fun y=>y.1) ((k,_,0)) ⟨h1,zaE⟩ ⟨rfl,trivial⟩ ⟨rfl,trivial⟩ (fun y hI=>?_)))))
 obtain ⟨j,σ3,z⟩:=y
 obtain ⟨hI,hzI⟩:=hI
 rcases j with _ | j
 ·simp [zcM] at hI
 dsimp only at hI hzI
 rw [Nat.add_one_mul] at hzI
 refine TC.sub (env':=[(19,_),(1,_),(2,_),(4,_),(18,_)]) (L':=[(0,_),(1,_),(2,_)]) ⟨rfl,rfl,rfl,rfl,rfl,trivial⟩ ⟨rfl,rfl,rfl,trivial⟩ (sA (TL.lss rfl rfl rfl rfl (fun q1=>?_) (fun q1=>?_)))
 refine dS (TC.condT rfl (TC.skip (TQ.then (TC.seq (TC.block (sA (xmi rfl (xai rfl ?_))))))))
 refine dG (xf 0 zbf rfl (xf 0 zbS rfl (xL6 1 zdf rfl rfl (xmi rfl (xmi rfl (xf 0 zhx rfl (xli 2 zah rfl rfl (xf 1 zhw rfl ?_))))))))
 refine xli 2 zah rfl rfl ?_
 rw [zcM,if_pos q1] at hI
 obtain ⟨⟨r,σ4⟩,h3,h4⟩:=Option.bind_eq_some_iff.1 hI
 refine TL.callD [0] [0] (zs8 hM hl h3) ⟨rfl,rfl,rfl,rfl,rfl,trivial⟩ ⟨rfl,trivial⟩ ztQ rfl rfl rfl rfl rfl trivial (dI (TL.add _ rfl rfl (rfl) rfl rfl (xmi rfl (TL.done (TQ.roundK ((j,_,_)) ⟨⟨h4,zaE⟩,Nat.lt_succ_self _⟩ ⟨rfl,trivial⟩ ⟨rfl,trivial⟩ (kE4 rfl rfl rfl rfl trivial) (kL2 rfl rfl trivial))))))
 refine dS (TC.condF rfl (TC.exit (TQ.thenExit (TQ.thenExit (TQ.blockHere (TQ.then (TC.region (xL10 1 zig rfl rfl ?_))))))))
 refine xmi rfl (xf 2 zdY rfl (xli 2 zah rfl rfl ?_))
 rw [zcM,if_neg q1] at hI
 cases hI
 refine TL.callD [0] [0] (zq7 hM hl h2) ⟨rfl,rfl,rfl,rfl,trivial⟩ ⟨rfl,trivial⟩ ztP rfl rfl rfl rfl rfl trivial (TL.done ?_)
 refine FQ.end0 (Bs:=[A _]) [0] rfl rfl ⟨rfl,trivial⟩ ?_
 exact ⟨rfl,rfl⟩
theorem zrh {mt:TypeId} {mv:Value} {l:Lay} {p:Pen}:FnD Tryz.prog 133 [layV l,.iface mt mv,.agg #[.int .i64 p.thread,.int .i64 p.tag]] [] (adjV l mt mv p) []:=by
 refine Fn.enter (Tryz.func133) rfl rfl (fun w0 R=>?_)
 refine sA (xB 0 rfl (fun bk0=>(xB 1 rfl (fun bk1=>(TL.alloc 2 (cs:=#[.int .i64 0,.int .i64 0,.int .i64 0,.nilIface,.int .i64 0,.int .i64 0,.int .i64 0,.int .i64 0,.int .i64 0,.nilIface]) zo6 rfl rfl rfl (fun _=>trivial) (fun bk2=>(dA (xL3 0 zaa rfl rfl (xmc rfl (xL2 1 zbk rfl rfl (TL.bld [.int .i64 0,.int .i64 0,.int .i64 0,.nilIface,.int .i64 0,.int .i64 0] [(.agg _),(.iface _ _),(.agg _)] [_,_,_,_,_,_] zht zln ⟨rfl,rfl,rfl,trivial⟩ ⟨rfl,rfl⟩ rfl rfl ?_)))))))))))
 refine TL.bld [.int .i64 0,.int .i64 0,.int .i64 0,.nilIface,.int .i64 0,.int .i64 0] [(.agg _)] [_,_,_,_,_,_] zo7 ztx ⟨rfl,trivial⟩ ⟨rfl,rfl⟩ rfl rfl (TL.alloc 3 (cs:=#[.int .i64 0,.int .i64 0,.int .i64 0,.nilIface,.int .i64 0,.int .i64 0]) zo7 rfl rfl rfl (fun _=>trivial) (fun bk3=>(TL.stW 3 6 [_,_,_,_,_,_] rfl rfl rfl rfl rfl rfl zdf rfl rfl trivial (dA (xL6 3 zdf rfl rfl (xL3 0 zaa rfl rfl (xmc rfl (TL.bld [.int .i64 0,.int .i64 0,.int .i64 0,.nilIface] [(.agg _),(.iface _ _)] [_,_,_,_] ztn ztw ⟨rfl,rfl,trivial⟩ ⟨rfl,rfl⟩ rfl rfl ?_))))))))
 refine TL.bld [.int .i64 0,.int .i64 0,.int .i64 0,.nilIface,.int .i64 0,.int .i64 0,.int .i64 0,.int .i64 0,.int .i64 0,.nilIface] [(.agg _),(.agg _)] [_,_,_,_,_,_,_,_,_,_] ztm ztv ⟨rfl,rfl,trivial⟩ ⟨rfl,rfl⟩ rfl rfl (TL.bld [.int .i64 0,.int .i64 0,.int .i64 0,.nilIface,.int .i64 0,.int .i64 0,.int .i64 0,.int .i64 0,.int .i64 0,.nilIface] [(.agg _)] [_,_,_,_,_,_,_,_,_,_] ztl ztu ⟨rfl,trivial⟩ ⟨rfl,rfl⟩ rfl rfl (TL.bld [.int .i64 0,.int .i64 0,.int .i64 0,.nilIface,.int .i64 0,.int .i64 0,.int .i64 0,.int .i64 0,.int .i64 0,.nilIface] [(.agg _)] [_,_,_,_,_,_,_,_,_,_] zo6 ztt ⟨rfl,trivial⟩ ⟨rfl,rfl⟩ rfl rfl ?_))
 refine TL.stW 2 10 [_,_,_,_,_,_,_,_,_,_] rfl rfl rfl rfl rfl rfl zeE rfl rfl trivial (dR ?_)
 refine FQ.retG (rs:=[.cell 6 196]) [(.agg _)] (Bs:=[]) [] rfl ⟨⟨_,_,_,_,_,2,rfl,rfl,.inr ⟨10,[_,_,_,_,_,_,_,_,_,_],zeE,rfl,rfl⟩⟩,trivial⟩ rfl rfl trivial ?_
 exact ⟨rfl,rfl⟩
theorem zoJ {S:Type} [MemLike S] {mt:TypeId} {mv:Value} {A:S→Assn} (hM:MemI Tryz.prog mt mv A) {l:Lay} (hl:l.Ok) {p:Pen} {σ:S} {u v:Int} {b:Bool} {k:Nat} {σ2:S} (h:same l k σ 0 u v=some (b,σ2)) (hz:Room (2 * k) σ:=by exact zaE):FnD Tryz.prog 160 [adjV l mt mv p,.int .i64 u,.int .i64 v] [A σ] (.bool b) [A σ2]:=by
 refine Fn.enter (Tryz.func160) rfl rfl (fun w0 R=>?_)
 refine sA (xB 1 rfl (fun bk1=>(xaf rfl (dA (xf 0 zcn rfl (xf 0 zbf rfl (xf 0 zbS rfl (xL6 1 zdf rfl rfl (xmi rfl ?_)))))))))
 refine xmi rfl (TL.callD [0] [0] (zsE hM hl h) ⟨rfl,rfl,rfl,rfl,trivial⟩ ⟨rfl,trivial⟩ ztS rfl rfl rfl rfl rfl trivial (xab rfl (dR ?_)))
 refine FQ.ret1 (v:=(.bool _)) (Bs:=[A _]) [0] rfl rfl rfl ⟨rfl,trivial⟩ ?_
 exact ⟨rfl,rfl⟩
theorem znf {S:Type} [MemLike S] {mt:TypeId} {mv:Value} {A:S→Assn} (hM:MemI Tryz.prog mt mv A) {l:Lay} (hl:l.Ok) {p:Pen} {σ:S} {s u v:Int} {b:Bool} {k:Nat} {σ2:S} (h:zcL l p k σ s u v=some (b,σ2)) (hz:Room (23 * k+46+k * (94 * k+24)) σ:=by exact zaE):FnD Tryz.prog 120 [adjV l mt mv p,.int .i64 s,.int .i64 u,.int .i64 v] [A σ] (.bool b) [A σ2]:=by
 unfold zcL at h
 obtain ⟨⟨j,σ1⟩,h1,h⟩:=Option.bind_eq_some_iff.1 h
 dsimp only at h
 refine Fn.enter (Tryz.func120) rfl rfl (fun w0 R=>?_)
 refine sA (xB 1 rfl (fun bk1=>(xaf rfl (dA (xL10 1 zeE rfl rfl (xmi rfl (xmi rfl (TL.callD [0] [0] (zoJ hM hl h1) ⟨rfl,rfl,rfl,trivial⟩ ⟨rfl,trivial⟩ zt2 rfl rfl rfl rfl rfl trivial (xab rfl ?_)))))))))
 refine dA (xf 0 zcn rfl (xf 0 zbf rfl (xf 6 za3 rfl (xL4 1 zde rfl rfl (xmi rfl (xmi rfl (xmi rfl (TL.callD [0] [0] (zum hM hl) ⟨rfl,rfl,rfl,rfl,rfl,rfl,trivial⟩ ⟨rfl,trivial⟩ zt1 rfl rfl rfl rfl rfl trivial ?_))))))))
 refine dB (xmb rfl (TL.cases rfl (fun q1=>?_) (fun q1=>?_)))
 refine TL.done (TQ.then (TC.condT rfl (TC.region (xf 0 zcn rfl (xf 0 zbf rfl (xL10 1 zaW rfl rfl (xmi rfl ?_)))))))
 rw [if_pos (by simpa using q1)] at h
 obtain ⟨σ3,h2,h3⟩:=Option.bind_eq_some_iff.1 h
 cases h3
 refine TL.callD [0] [0] (zqj hM hl h2) ⟨rfl,rfl,trivial⟩ ⟨rfl,trivial⟩ zt0 rfl rfl rfl rfl rfl trivial (dA (xmb rfl (TL.not _ _ rfl rfl rfl rfl (xab rfl (dR ?_)))))
 refine FQ.ret1 (v:=(.bool _)) (Bs:=[A _]) [0] rfl rfl rfl ⟨rfl,trivial⟩ ?_
 first | exact ⟨by rw [q1]; rfl,rfl⟩ | exact ⟨by simp [*],rfl⟩
 refine TL.done (TQ.then (TC.condF rfl (TC.region (xf 0 zcn rfl (xL10 1 zig rfl rfl (xmi rfl ?_))))))
 rw [if_neg (by simpa using q1)] at h
 obtain ⟨σ3,h2,h3⟩:=Option.bind_eq_some_iff.1 h
 cases h3
 refine TL.callD [0] [0] (zqY hM hl h2) ⟨rfl,rfl,trivial⟩ ⟨rfl,trivial⟩ ztZ rfl rfl rfl rfl rfl trivial (dA (xmb rfl (TL.not _ _ rfl rfl rfl rfl (xab rfl (dR ?_)))))
 refine FQ.ret1 (v:=(.bool _)) (Bs:=[A _]) [0] rfl rfl rfl ⟨rfl,trivial⟩ ?_
 first | exact ⟨by rw [q1]; rfl,rfl⟩ | exact ⟨by simp [*],rfl⟩
theorem at_Li {ab mb N cap:Nat} {c:Cnt} {i:Int} (h0:0≤i) (h1:i<N):FnD Tryz.prog 82 [.pointer (some ⟨ab,0,none⟩),.int .i64 i,.pointer (some ⟨ab,1,none⟩)] [arO ab mb (N) cap 139 c] (.pointer (some ⟨mb,0+i.toNat * 1,none⟩)) [arO ab mb (N) cap 139 c.ld]:=by
 refine Fn.enter (Tryz.func82) rfl rfl (fun w0 R=>?_)
 refine sA (TL.asg (.pointer none) rfl rfl rfl (dB (xmi rfl (TL.lssF rfl rfl (by omega) rfl rfl (xmf rfl (xmi rfl (xmp rfl (xN0 rfl ?_))))))))
 refine xf 0 zco rfl (xls 0 zhu rfl rfl (xz zap rfl (TL.geqF rfl rfl (by omega) rfl rfl (xpF rfl (dF rfl (xmp rfl (xN0 rfl (xli 0 zah rfl rfl ?_))))))))
 refine TL.add _ rfl rfl (rfl) rfl rfl (xN0 rfl (TL.st 0 #[_,_,_,_,_,_] (.int _ _) rfl rfl rfl rfl rfl rfl zah rfl rfl trivial (dA (xmp rfl (xN0 rfl (xf 0 zco rfl (xls 0 zhu rfl rfl (xmi rfl ?_))))))))
 refine TL.ia _ rfl rfl zap (by omega) (by omega) rfl rfl rfl (xap rfl (dR ?_))
 refine FQ.ret1 (v:=(.pointer (some ⟨_,_,none⟩))) (Bs:=[_]) [0] rfl rfl rfl ⟨rfl,trivial⟩ ?_
 exact ⟨rfl,rfl⟩
theorem at_Si {ab mb N cap:Nat} {c:Cnt} {i:Int} (h0:0≤i) (h1:i<N):FnD Tryz.prog 82 [.pointer (some ⟨ab,0,none⟩),.int .i64 i,.pointer (some ⟨ab,2,none⟩)] [arO ab mb (N) cap 139 c] (.pointer (some ⟨mb,0+i.toNat * 1,none⟩)) [arO ab mb (N) cap 139 c.st]:=by
 refine Fn.enter (Tryz.func82) rfl rfl (fun w0 R=>?_)
 refine sA (TL.asg (.pointer none) rfl rfl rfl (dB (xmi rfl (TL.lssF rfl rfl (by omega) rfl rfl (xmf rfl (xmi rfl (xmp rfl (xN0 rfl ?_))))))))
 refine xf 0 zco rfl (xls 0 zhu rfl rfl (xz zap rfl (TL.geqF rfl rfl (by omega) rfl rfl (xpF rfl (dF rfl (xmp rfl (xN0 rfl (xli 0 zah rfl rfl ?_))))))))
 refine TL.add _ rfl rfl (rfl) rfl rfl (xN0 rfl (TL.st 0 #[_,_,_,_,_,_] (.int _ _) rfl rfl rfl rfl rfl rfl zah rfl rfl trivial (dA (xmp rfl (xN0 rfl (xf 0 zco rfl (xls 0 zhu rfl rfl (xmi rfl ?_))))))))
 refine TL.ia _ rfl rfl zap (by omega) (by omega) rfl rfl rfl (xap rfl (dR ?_))
 refine FQ.ret1 (v:=(.pointer (some ⟨_,_,none⟩))) (Bs:=[_]) [0] rfl rfl rfl ⟨rfl,trivial⟩ ?_
 exact ⟨rfl,rfl⟩
theorem at_o {ab mb N cap k:Nat} {c:Cnt} {i:Int} (h:¬(0≤i∧i<N)):FnD Tryz.prog 82 [.pointer (some ⟨ab,0,none⟩),.int .i64 i,.pointer (some ⟨ab,k,none⟩)] [arO ab mb (N) cap 139 c] (.pointer none) [arO ab mb (N) cap 139 c]:=by
 refine Fn.enter (Tryz.func82) rfl rfl (fun w0 R=>?_)
 refine sA (TL.asg (.pointer none) rfl rfl rfl (dB (xmi rfl (TL.lss rfl rfl rfl rfl (fun q1=>?_) (fun q1=>?_)))))
 refine xmt rfl (xo rfl (xo rfl (xo rfl (xo rfl (xo rfl (xo rfl (xo rfl (xpT rfl ?_))))))))
 refine dT rfl (TL.asg (.pointer none) rfl rfl rfl (dRR ?_))
 refine FQ.ret1 (v:=(.pointer none)) (Bs:=[_]) [0] rfl rfl rfl ⟨rfl,trivial⟩ ?_
 exact ⟨rfl,rfl⟩
 refine xmf rfl (xmi rfl (xmp rfl (xN0 rfl (xf 0 zco rfl (xls 0 zhu rfl rfl (xz zap rfl (TL.geq rfl rfl rfl rfl (fun q2=>?_) (fun q2=>?_))))))))
 refine xpH rfl (dT rfl (TL.asg (.pointer none) rfl rfl rfl (dRR ?_)))
 refine FQ.ret1 (v:=(.pointer none)) (Bs:=[_]) [0] rfl rfl rfl ⟨rfl,trivial⟩ ?_
 exact ⟨rfl,rfl⟩
 refine xpF rfl (TL.done (TQ.then (TC.condF rfl (TC.skip (TQ.then (TC.seq ?_))))))
 exact absurd (by omega:False) id
theorem zuA {ab mb cap:Nat} {rs:Array Value} {σ:Array UInt64} {c:Cnt} {i:Int} (h0:0≤i) (h1:i<σ.size):FnD Tryz.prog 23 [.pointer (some ⟨ab,0,none⟩),.int .i64 i] [arO ab mb (σ.size) cap 139 c,pt mb (.cells (encM (σ)++rs) 29)] (.tuple #[.int .u64 (MemLike.get σ i),.int .i64 0]) [arO ab mb (σ.size) cap 139 c.ld,pt mb (.cells (encM (σ)++rs) 29)]:=by
 refine Fn.enter (Tryz.func23) rfl rfl (fun w0 R=>?_)
 refine sA (xai rfl (xai rfl (dA (xmp rfl (xmi rfl (xmp rfl (xN0 rfl (xf 1 zdd rfl ?_))))))))
 refine xf 0 zhC rfl (TL.callD [0] [0] (at_Li h0 h1) ⟨rfl,rfl,rfl,trivial⟩ ⟨rfl,trivial⟩ zmt rfl rfl rfl rfl rfl trivial (xap rfl (dB (xmp rfl (TL.nilP false rfl rfl zi8 rfl rfl rfl (dF rfl (xmp rfl (xN0 rfl ?_))))))))
 refine TL.ldM 1 rfl rfl (by omega) (by omega) zdn rfl rfl (xai rfl (xai rfl (dR ?_)))
 refine FQ.ret2 (v:=(.int _ _)) (x:=(.int _ _)) (Bs:=[_,_]) [0,1] rfl rfl rfl rfl ⟨rfl,rfl,trivial⟩ ?_
 exact ⟨rfl,rfl⟩
theorem zuz {ab mb cap:Nat} {rs:Array Value} {σ:Array UInt64} {c:Cnt} {i:Int} (h:¬(0≤i∧i<σ.size)):FnD Tryz.prog 23 [.pointer (some ⟨ab,0,none⟩),.int .i64 i] [arO ab mb (σ.size) cap 139 c,pt mb (.cells (encM (σ)++rs) 29)] (.tuple #[.int .u64 (MemLike.get σ i),.int .i64 20]) [arO ab mb (σ.size) cap 139 c,pt mb (.cells (encM (σ)++rs) 29)]:=by
 refine Fn.enter (Tryz.func23) rfl rfl (fun w0 R=>?_)
 refine sA (xai rfl (xai rfl (dA (xmp rfl (xmi rfl (xmp rfl (xN0 rfl (xf 1 zdd rfl ?_))))))))
 refine xf 0 zhC rfl (TL.callD [0] [0] (at_o h) ⟨rfl,rfl,rfl,trivial⟩ ⟨rfl,trivial⟩ zmt rfl rfl rfl rfl rfl trivial (TL.asg (.pointer none) rfl rfl rfl (dB (TL.mv (.pointer none) rfl rfl rfl (TL.nilP true rfl rfl zi8 rfl rfl rfl (dT rfl (xai rfl (xai rfl ?_))))))))
 refine dRR ?_
 refine FQ.ret2 (v:=(.int _ _)) (x:=(.int _ _)) (Bs:=[_,_]) [0,1] rfl rfl rfl rfl ⟨rfl,rfl,trivial⟩ ?_
 exact ⟨by rw [zfF,if_neg h],rfl⟩
theorem zrK {ab mb cap:Nat} {rs:Array Value} {σ:Array UInt64} {c:Cnt} {i:Int} (h0:0≤i) (h1:i<σ.size) {y:Int} (hv:0≤y∧y<18446744073709551616):FnD Tryz.prog 17 [.pointer (some ⟨ab,0,none⟩),.int .i64 i,.int .u64 y] [arO ab mb (σ.size) cap 139 c,pt mb (.cells (encM (σ)++rs) 29)] (.int .i64 0) [arO ab mb (σ.size) cap 139 c.st,pt mb (.cells (encM (MemLike.st σ i y)++rs) 29)]:=by
 refine Fn.enter (Tryz.func17) rfl rfl (fun w0 R=>?_)
 refine sA (xai rfl (dA (xmp rfl (xmi rfl (xmp rfl (xN0 rfl (xf 1 zdd rfl (xf 1 zhB rfl ?_))))))))
 refine TL.callD [0] [0] (at_Si h0 h1) ⟨rfl,rfl,rfl,trivial⟩ ⟨rfl,trivial⟩ zmt rfl rfl rfl rfl rfl trivial (xap rfl (dB (xmp rfl (TL.nilP false rfl rfl zi8 rfl rfl rfl (dF rfl (xmp rfl (xmi rfl (xN0 rfl ?_))))))))
 refine TL.stM 1 rfl rfl rfl (by omega) (by omega) (by omega) zdn rfl rfl trivial (dA (xai rfl (dR ?_)))
 refine FQ.ret1 (v:=(.int _ _)) (Bs:=[_,_]) [0,1] rfl rfl rfl ⟨rfl,rfl,trivial⟩ ?_
 exact ⟨rfl,rfl⟩
theorem zrJ {ab mb cap:Nat} {rs:Array Value} {σ:Array UInt64} {c:Cnt} {i:Int} (h:¬(0≤i∧i<σ.size)) {y:Int} (hv:0≤y∧y<18446744073709551616):FnD Tryz.prog 17 [.pointer (some ⟨ab,0,none⟩),.int .i64 i,.int .u64 y] [arO ab mb (σ.size) cap 139 c,pt mb (.cells (encM (σ)++rs) 29)] (.int .i64 20) [arO ab mb (σ.size) cap 139 c,pt mb (.cells (encM (MemLike.st σ i y)++rs) 29)]:=by
 have hst:(MemLike.st σ i y:Array UInt64)=σ:=by rw [zjo,if_neg h]
 refine Fn.enter (Tryz.func17) rfl rfl (fun w0 R=>?_)
 refine sA (xai rfl (dA (xmp rfl (xmi rfl (xmp rfl (xN0 rfl (xf 1 zdd rfl (xf 1 zhB rfl ?_))))))))
 refine TL.callD [0] [0] (at_o h) ⟨rfl,rfl,rfl,trivial⟩ ⟨rfl,trivial⟩ zmt rfl rfl rfl rfl rfl trivial (TL.asg (.pointer none) rfl rfl rfl (dB (TL.mv (.pointer none) rfl rfl rfl (TL.nilP true rfl rfl zi8 rfl rfl rfl (dT rfl (xai rfl (dRR ?_)))))))
 refine FQ.ret1 (v:=(.int _ _)) (Bs:=[_,_]) [0,1] rfl rfl rfl ⟨rfl,rfl,trivial⟩ ?_
 exact ⟨rfl,by rw [hst]⟩
theorem zqq {ab mb:Nat} {σ:Array UInt64} {c:Cnt} {i:Int}:FnD Tryz.prog 23 [.pointer (some ⟨ab,0,none⟩),.int .i64 i] [arenaC ab mb 139 29 (σ) (c)] (.tuple #[.int .u64 (MemLike.get σ i),.int .i64 (if 0≤i∧i<σ.size then 0 else 20)]) [arenaC ab mb 139 29 (σ) (cntL σ i c)]:=by
 unfold cntL
 by_cases h:0≤i∧i<σ.size
 ·rw [if_pos h,if_pos h]; exact Fn.arenaC rfl fun cap rs=>zuA h.1 h.2
 ·rw [if_neg h,if_neg h]; exact Fn.arenaC rfl fun cap rs=>zuz h
theorem znv {ab mb:Nat} {σ:Array UInt64} {c:Cnt} {i v:Int} (hv:0≤v∧v<18446744073709551616):FnD Tryz.prog 17 [.pointer (some ⟨ab,0,none⟩),.int .i64 i,.int .u64 v] [arenaC ab mb 139 29 (σ) (c)] (.int .i64 (if 0≤i∧i<σ.size then 0 else 20)) [arenaC ab mb 139 29 (MemLike.st σ i v) (cntS σ i c)]:=by
 unfold cntS
 by_cases h:0≤i∧i<σ.size
 ·rw [if_pos h,if_pos h]; exact Fn.arenaC (ze8 _ _ _) fun cap rs=>zrK h.1 h.2 hv
 ·rw [if_neg h,if_neg h]; exact Fn.arenaC (ze8 _ _ _) fun cap rs=>zrJ h hv
theorem zfG {ab mb:Nat} {σ:Array UInt64} {i:Int}:FnD Tryz.prog 23 [.pointer (some ⟨ab,0,none⟩),.int .i64 i] [zam ab mb 139 29 (σ)] (.tuple #[.int .u64 (MemLike.get σ i),.int .i64 (if 0≤i∧i<σ.size then 0 else 20)]) [zam ab mb 139 29 (σ)]:=Fn.arena fun _=>⟨_,zqq⟩
theorem zdI {ab mb:Nat} {σ:Array UInt64} {i v:Int} (hv:0≤v∧v<18446744073709551616):FnD Tryz.prog 17 [.pointer (some ⟨ab,0,none⟩),.int .i64 i,.int .u64 v] [zam ab mb 139 29 (σ)] (.int .i64 (if 0≤i∧i<σ.size then 0 else 20)) [zam ab mb 139 29 (MemLike.st σ i v)]:=Fn.arena fun _=>⟨_,znv hv⟩
theorem zqX {ab mb:Nat} {σ:Array UInt64} {i:Int}:FnD Tryz.prog 301 [.agg #[.pointer (some ⟨ab,0,none⟩)],.int .i64 i] [zam ab mb 139 29 (σ)] (.int .u64 (MemLike.get σ i)) [zam ab mb 139 29 (σ)]:=by
 refine Fn.enter (Tryz.func301) rfl rfl (fun w0 R=>?_)
 refine sA (xB 1 rfl (fun bk1=>(xai rfl (dA (xf 0 zhz rfl (xlp 1 zd8 rfl rfl (xmi rfl (TL.callD [0] [0] zfG ⟨rfl,rfl,trivial⟩ ⟨rfl,trivial⟩ zj9 rfl rfl rfl rfl rfl trivial (xmu rfl ?_)))))))))
 refine xei rfl rfl (xei rfl rfl (xai rfl (xai rfl (dA (xmi rfl (xai rfl (dR ?_)))))))
 refine FQ.ret1 (v:=(.int _ _)) (Bs:=[zam ab mb 139 29 (σ)]) [0] rfl rfl rfl ⟨rfl,trivial⟩ ?_
 exact ⟨rfl,rfl⟩
theorem zoc {ab mb:Nat} {σ:Array UInt64} {i:Int} {y:Int} (hv:0≤y∧y<18446744073709551616):FnD Tryz.prog 302 [.agg #[.pointer (some ⟨ab,0,none⟩)],.int .i64 i,.int .u64 y] [zam ab mb 139 29 (σ)] (.tuple #[]) [zam ab mb 139 29 (MemLike.st σ i y)]:=by
 refine Fn.enter (Tryz.func302) rfl rfl (fun w0 R=>?_)
 refine sA (xB 1 rfl (fun bk1=>(dG (xf 0 zhz rfl (xlp 1 zd8 rfl rfl (xmi rfl (xmi rfl (TL.callD [0] [0] (zdI hv) ⟨rfl,rfl,rfl,trivial⟩ ⟨rfl,trivial⟩ zif rfl rfl rfl rfl rfl trivial (TL.done ?_)))))))))
 refine FQ.end0 (Bs:=[_]) [0] rfl rfl ⟨rfl,trivial⟩ ?_
 exact ⟨rfl,rfl⟩
theorem zhe {ab mb:Nat}:MemI (S:=Array UInt64) Tryz.prog 149 (.agg #[.pointer (some ⟨ab,0,none⟩)]) (zam ab mb 139 29) :=
 ⟨⟨301,_,zgD (by kernel_rfl) (by kernel_rfl),fun _ _ _=>zqX⟩,⟨302,_,zgD (by kernel_rfl) (by kernel_rfl),fun _ _ _ hv _=>zoc hv⟩⟩
theorem zqk {N:Nat} (hN:N≤16384):Go.Eng.Fn Tryz.prog 16 [.int .i64 ((N:Nat):Int)] [] (fun v Bs=>∃ ab mb,v=.tuple #[.pointer (some ⟨ab,0,none⟩),.int .i64 0]∧Bs=[arenaC ab mb 139 29 (Array.replicate N 0) (⟨0,0,0,0,0⟩)]):=by
 refine Fn.enter (Tryz.func16) rfl rfl (fun w0 R=>?_)
 refine sA (TL.asg (.pointer none) rfl rfl rfl (xai rfl (dB (xmi rfl (TL.lssF rfl rfl (by omega) rfl rfl (xmf rfl (xmi rfl (TL.gtrF rfl rfl (by omega) rfl rfl ?_))))))))
 refine xpF rfl (dF rfl (xmi rfl (TL.mkS 0 rfl rfl ze1 zu4 rfl (by omega) rfl rfl (fun bk0=>⟨trivial,?_⟩))))
 refine TL.bld [.slice none 0 0,.int .i64 0,.int .i64 0,.int .i64 0,.int .i64 0,.int .i64 0] [(.slice _ _ _)] [_,_,_,_,_,_] zo9 zpd ⟨rfl,trivial⟩ ⟨rfl,rfl⟩ rfl rfl (xB 1 rfl (fun bk1=>(xap rfl (xai rfl (dR (TQ.conseq 0 (B:=pt _ (.cells (encM (Array.replicate N 0)++#[]) 29)) rfl (fun h hh=>by rw [←zrp,Array.append_empty]; exact hh) (TQ.arenaC 1 0 (N:=N) (c:=⟨0,0,0,0,0⟩) (by simp) rfl rfl (by decide) ?_)))))))
 refine FQ.ret2 (v:=(.pointer (some ⟨_,_,none⟩))) (x:=(.int _ _)) (Bs:=[_]) [1] rfl rfl rfl rfl ⟨rfl,trivial⟩ ?_
 exact ⟨_,_,rfl,rfl⟩
theorem zgE {ab:Nat}:FnD Tryz.prog 85 [.pointer (some ⟨ab,0,none⟩)] [] (.agg #[.pointer (some ⟨ab,0,none⟩)]) []:=by
 refine Fn.enter (Tryz.func85) rfl rfl (fun w0 R=>?_)
 refine sA (TL.alloc 0 (cs:=#[.pointer none]) zo8 rfl rfl rfl (fun _=>trivial) (fun bk0=>(dA (xmp rfl (TL.bld [.pointer none] [(.pointer (some ⟨_,_,none⟩))] [_] zo8 zty ⟨rfl,trivial⟩ ⟨rfl,rfl⟩ rfl rfl (TL.stW 0 1 [_] rfl rfl rfl rfl rfl rfl zka rfl rfl trivial (dR ?_)))))))
 refine FQ.retG (rs:=[.cell 2 149]) [(.agg _)] (Bs:=[]) [] rfl ⟨⟨_,_,_,_,_,0,rfl,rfl,.inr ⟨1,[_],zka,rfl,rfl⟩⟩,trivial⟩ rfl rfl trivial ?_
 exact ⟨rfl,rfl⟩
theorem zuC {x:Int}:FnD Tryz.prog 189 [.int .i64 x] [] (wdV (wofI x)) []:=by
 refine Fn.enter (Tryz.func189) rfl rfl (fun w0 R=>?_)
 refine sA (TL.alloc 0 (cs:=#[.int .i64 0,.int .i64 0,.int .i64 0,.int .i64 0]) zbo rfl rfl rfl (fun _=>trivial) (fun bk0=>(dA (xmi rfl (TL.max2 rfl rfl rfl rfl (TL.min2 rfl rfl rfl rfl (xai rfl (dA (xmi rfl ?_)))))))))
 refine xmi rfl (TL.bld [.int .i64 0,.int .i64 0,.int .i64 0,.int .i64 0] [(.int _ _),(.int _ _)] [_,_,_,_] zbo zfU ⟨rfl,rfl,trivial⟩ ⟨rfl,rfl⟩ rfl rfl (TL.stW 0 4 [_,_,_,_] rfl rfl rfl rfl rfl rfl zat rfl rfl trivial (dR ?_)))
 refine FQ.retG (rs:=[.cell 2 260]) [(.agg _)] (Bs:=[]) [] rfl ⟨⟨_,_,_,_,_,0,rfl,rfl,.inr ⟨4,[_,_,_,_],zat,rfl,rfl⟩⟩,trivial⟩ rfl rfl trivial ?_
 exact ⟨rfl,rfl⟩
theorem zsx {tag:Int} {dn:Bool} (h:0≤tag∧tag≤16777215):FnD Tryz.prog 231 [.int .i64 tag,.bool dn] [] (.tuple #[.int .u64 (zbx tag dn),.int .i64 0]) []:=by
 refine Fn.enter (Tryz.func231) rfl rfl (fun w0 R=>?_)
 refine sA (xai rfl (xai rfl (dB (xmi rfl (TL.callD [] [] zdw ⟨rfl,rfl,trivial⟩ trivial zfZ rfl rfl rfl rfl rfl trivial ?_)))))
 rw [decide_eq_true h]
 refine xnt rfl (dF rfl (xmi rfl (TL.conv _ rfl ze0 za7 (rfl) rfl rfl (TL.shl _ rfl rfl (by decide) rfl rfl rfl (xai rfl (dB (xmb rfl (TL.cases rfl (fun q1=>?_) (fun q1=>?_)))))))))
 refine TL.done (TQ.then (TC.condT rfl (TC.region (xmi rfl (TL.or _ rfl rfl rfl rfl rfl (xai rfl (dA (xmi rfl ?_))))))))
 refine xai rfl (xai rfl (dR ?_))
 refine FQ.ret2 (v:=(.int _ _)) (x:=(.int _ _)) (Bs:=[]) [] rfl rfl rfl rfl trivial ?_
 first | exact ⟨by unfold zbx; rw [if_pos q1]; rfl,rfl⟩ | exact ⟨by unfold zbx; rw [if_neg (by rw [q1]; decide)]; rfl,rfl⟩
 refine dF rfl (xmi rfl (xai rfl (xai rfl (dR ?_))))
 refine FQ.ret2 (v:=(.int _ _)) (x:=(.int _ _)) (Bs:=[]) [] rfl rfl rfl rfl trivial ?_
 first | exact ⟨by unfold zbx; rw [if_pos q1]; rfl,rfl⟩ | exact ⟨by unfold zbx; rw [if_neg (by rw [q1]; decide)]; rfl,rfl⟩
theorem zsw {tag:Int} {dn:Bool} (h:¬(0≤tag∧tag≤16777215)):FnD Tryz.prog 231 [.int .i64 tag,.bool dn] [] (.tuple #[.int .u64 0,.int .i64 11]) []:=by
 refine Fn.enter (Tryz.func231) rfl rfl (fun w0 R=>?_)
 refine sA (xai rfl (xai rfl (dB (xmi rfl (TL.callD [] [] zdw ⟨rfl,rfl,trivial⟩ trivial zfZ rfl rfl rfl rfl rfl trivial ?_)))))
 rw [decide_eq_false h]
 refine xnf rfl (dT rfl (xai rfl (xai rfl (dRR ?_))))
 refine FQ.ret2 (v:=(.int _ _)) (x:=(.int _ _)) (Bs:=[]) [] rfl rfl rfl rfl trivial ?_
 exact ⟨rfl,rfl⟩
theorem zjW {l:Lay} (hl:l.Ok) {t:Int}:FnD Tryz.prog 70 [layV l,.int .i64 t] [] (.int .i64 (l.state t)) []:=by
 have hb:=zbb hl
 refine Fn.enter (Tryz.func70) rfl rfl (fun w0 R=>?_)
 refine sA (xB 0 rfl (fun bk0=>(xai rfl (dB (xmi rfl (TL.sub _ rfl rfl (rfl) rfl rfl (xf 2 zeC rfl (xli 0 zah rfl rfl (TL.callD [] [] za5 ⟨rfl,rfl,trivial⟩ trivial zca rfl rfl rfl rfl rfl trivial ?_)))))))))
 refine TL.casesP rfl (fun q1=>?_) (fun q1=>?_)
 refine xnt rfl (dF rfl (xmi rfl (TL.sub _ rfl rfl (rfl) rfl rfl (xai rfl (dR ?_)))))
 refine FQ.ret1 (v:=(.int _ _)) (Bs:=[]) [] rfl rfl rfl trivial ?_
 first | exact ⟨iE (by unfold Lay.state; rw [if_pos (by omega)]),rfl⟩ | exact ⟨iE (by unfold Lay.state; rw [if_neg (by omega)]),rfl⟩
 refine xnf rfl (dT rfl (xai rfl (dRR ?_)))
 refine FQ.ret1 (v:=(.int _ _)) (Bs:=[]) [] rfl rfl rfl trivial ?_
 first | exact ⟨iE (by unfold Lay.state; rw [if_pos (by omega)]),rfl⟩ | exact ⟨iE (by unfold Lay.state; rw [if_neg (by omega)]),rfl⟩
theorem zmj {l:Lay} (hl:l.Ok) {s:Int}:FnD Tryz.prog 138 [layV l,.int .i64 s] [] (.int .i64 (l.of s 0)) []:=by
 have hb:=zbb hl
 refine Fn.enter (Tryz.func138) rfl rfl (fun w0 R=>?_)
 refine sA (xB 0 rfl (fun bk0=>(xai rfl (dA (xL3 0 zaa rfl rfl (xmi rfl (TL.callD [] [] (zoo hl (by omega)) ⟨rfl,rfl,rfl,trivial⟩ trivial zhI rfl rfl rfl rfl rfl trivial (xai rfl (dR ?_)))))))))
 refine FQ.ret1 (v:=(.int _ _)) (Bs:=[]) [] rfl rfl rfl trivial ?_
 exact ⟨rfl,rfl⟩
theorem zkk {o m t g:Int}:FnD Tryz.prog 188 [.agg #[.int .i64 o,.int .i64 m,.int .i64 t,.int .i64 g]] [] (wdV (wofI m)) []:=by
 refine Fn.enter (Tryz.func188) rfl rfl (fun w0 R=>?_)
 refine sA (xB 0 rfl (fun bk0=>(TL.alloc 1 (cs:=#[.int .i64 0,.int .i64 0,.int .i64 0,.int .i64 0]) zbo rfl rfl rfl (fun _=>trivial) (fun bk1=>(dA (xf 1 zbD rfl (xli 0 zah rfl rfl (TL.callD [] [] zuC ⟨rfl,trivial⟩ trivial ztW rfl rfl rfl rfl rfl trivial (TL.stW 1 4 [_,_,_,_] rfl rfl rfl rfl rfl rfl zat rfl rfl trivial (dR ?_))))))))))
 refine FQ.retG (rs:=[.cell 2 260]) [(.agg _)] (Bs:=[]) [] rfl ⟨⟨_,_,_,_,_,1,rfl,rfl,.inr ⟨4,[_,_,_,_],zat,rfl,rfl⟩⟩,trivial⟩ rfl rfl trivial ?_
 exact ⟨rfl,rfl⟩
theorem zqb {S:Type} [MemLike S] {mt:TypeId} {mv:Value} {A:S→Assn} (hM:MemI Tryz.prog mt mv A) {σ:S} {c:Int} (h:(zaf (MemLike.get σ c)).2=false) (hz:Room (2) σ:=by exact zaE):FnD Tryz.prog 187 [.iface mt mv,.int .i64 c,.func (.func 188) #[] #[]] [A σ] (.tuple #[]) [A (MemLike.ld σ c)]:=by
 refine Fn.enter (Tryz.func187) rfl rfl (fun w0 R=>?_)
 refine sA (xmc rfl (xmi rfl (TL.mload 0 hM rfl rfl rfl rfl rfl trivial (TL.callD [] [] zcy ⟨rfl,trivial⟩ trivial zer rfl rfl rfl rfl rfl trivial (xmu rfl (TL.ext (.agg _) rfl rfl rfl rfl (xei rfl rfl (TL.alloc 1 (cs:=#[.int .i64 0,.int .i64 0,.int .i64 0,.int .i64 0]) zbo rfl rfl rfl (fun _=>trivial) (fun bk1=>?_)))))))))
 refine TL.stW 1 4 [_,_,_,_] rfl rfl rfl rfl rfl rfl zat rfl rfl trivial (xai rfl (dB (xmi rfl (TL.neqT rfl rfl (by rw [h]; decide) rfl rfl (TL.done (TQ.then (TC.condT rfl (TC.ret ?_))))))))
 refine TQ.thenRet ?_
 refine FQ.ret0 (Bs:=[A (MemLike.ld σ c)]) [0] rfl rfl ⟨rfl,trivial⟩ ?_
 exact ⟨rfl,rfl⟩
theorem zqa {S:Type} [MemLike S] {mt:TypeId} {mv:Value} {A:S→Assn} (hM:MemI Tryz.prog mt mv A) {σ:S} {c:Int} (h:(zaf (MemLike.get σ c)).2=true) (h2:(wofI (zaf (MemLike.get σ c)).1.new).right=false) (hz:Room (2) σ:=by exact zaE):FnD Tryz.prog 187 [.iface mt mv,.int .i64 c,.func (.func 188) #[] #[]] [A σ] (.tuple #[]) [A (MemLike.ld σ c)]:=by
 refine Fn.enter (Tryz.func187) rfl rfl (fun w0 R=>?_)
 refine sA (xmc rfl (xmi rfl (TL.mload 0 hM rfl rfl rfl rfl rfl trivial (TL.callD [] [] zcy ⟨rfl,trivial⟩ trivial zer rfl rfl rfl rfl rfl trivial (xmu rfl (TL.ext (.agg _) rfl rfl rfl rfl (xei rfl rfl (TL.alloc 1 (cs:=#[.int .i64 0,.int .i64 0,.int .i64 0,.int .i64 0]) zbo rfl rfl rfl (fun _=>trivial) (fun bk1=>?_)))))))))
 refine TL.stW 1 4 [_,_,_,_] rfl rfl rfl rfl rfl rfl zat rfl rfl trivial (xai rfl (dB (xmi rfl (TL.neqF rfl rfl (by rw [h]; decide) rfl rfl (dF rfl (TL.mv (.func _ _ _) rfl rfl rfl (xL4 1 zat rfl rfl (TL.callC (c1:=[]) (c2:=[]) (vs:=[_]) [] [] rfl zkk ⟨rfl,trivial⟩ trivial zpy rfl rfl rfl rfl rfl trivial ?_))))))))
 refine TL.callD [] [] ziK ⟨rfl,trivial⟩ trivial zjd rfl rfl rfl rfl rfl trivial (xmu rfl (xei rfl rfl (xei rfl rfl (xai rfl (xai rfl (dA (xmi rfl (TL.eqlF rfl rfl (by rw [h2]; decide) rfl rfl ?_))))))))
 refine TL.done (TQ.then (TC.condF rfl (TC.skip ?_)))
 refine FQ.end0 (Bs:=[A (MemLike.ld σ c)]) [0] rfl rfl ⟨rfl,trivial⟩ ?_
 exact ⟨rfl,rfl⟩
theorem zp9 {S:Type} [MemLike S] {mt:TypeId} {mv:Value} {A:S→Assn} (hM:MemI Tryz.prog mt mv A) {σ:S} {c:Int} (h:(zaf (MemLike.get σ c)).2=true) (h2:(wofI (zaf (MemLike.get σ c)).1.new).right=true) (hz:Room (2) σ:=by exact zaE):FnD Tryz.prog 187 [.iface mt mv,.int .i64 c,.func (.func 188) #[] #[]] [A σ] (.tuple #[]) [A (MemLike.st (MemLike.ld σ c) c (wofI (zaf (MemLike.get σ c)).1.new).pack)]:=by
 refine Fn.enter (Tryz.func187) rfl rfl (fun w0 R=>?_)
 refine sA (xmc rfl (xmi rfl (TL.mload 0 hM rfl rfl rfl rfl rfl trivial (TL.callD [] [] zcy ⟨rfl,trivial⟩ trivial zer rfl rfl rfl rfl rfl trivial (xmu rfl (TL.ext (.agg _) rfl rfl rfl rfl (xei rfl rfl (TL.alloc 1 (cs:=#[.int .i64 0,.int .i64 0,.int .i64 0,.int .i64 0]) zbo rfl rfl rfl (fun _=>trivial) (fun bk1=>?_)))))))))
 refine TL.stW 1 4 [_,_,_,_] rfl rfl rfl rfl rfl rfl zat rfl rfl trivial (xai rfl (dB (xmi rfl (TL.neqF rfl rfl (by rw [h]; decide) rfl rfl (dF rfl (TL.mv (.func _ _ _) rfl rfl rfl (xL4 1 zat rfl rfl (TL.callC (c1:=[]) (c2:=[]) (vs:=[_]) [] [] rfl zkk ⟨rfl,trivial⟩ trivial zpy rfl rfl rfl rfl rfl trivial ?_))))))))
 refine TL.callD [] [] ziK ⟨rfl,trivial⟩ trivial zjd rfl rfl rfl rfl rfl trivial (xmu rfl (xei rfl rfl (xei rfl rfl (xai rfl (xai rfl (dA (xmi rfl (TL.eqlT rfl rfl (by rw [h2]; decide) rfl rfl ?_))))))))
 refine TL.done (TQ.then (TC.condT rfl (TC.region (xmc rfl (xmi rfl (xmi rfl (TL.mstore 0 hM rfl rfl rfl (by rw [h2]; exact zdt _ _) rfl rfl rfl trivial (TL.done ?_))))))))
 refine FQ.end0 (Bs:=[A _]) [0] rfl rfl ⟨rfl,trivial⟩ ?_
 exact ⟨rfl,by rw [h2]; rfl⟩
theorem zno {S:Type} [MemLike S] {mt:TypeId} {mv:Value} {A:S→Assn} (hM:MemI Tryz.prog mt mv A) {σ:S} {c:Int} (hz:Room (2) σ:=by exact zaE):FnD Tryz.prog 187 [.iface mt mv,.int .i64 c,.func (.func 188) #[] #[]] [A σ] (.tuple #[]) [A (zbj σ c)]:=by
 unfold zbj
 cases h:(zaf (MemLike.get σ c)).2
 ·exact zqb hM h
 ·rw [if_pos rfl]
  cases h2:(wofI (zaf (MemLike.get σ c)).1.new).right
  ·exact zqa hM h h2
  ·exact zp9 hM h h2
theorem zmC {S:Type} [MemLike S] {mt:TypeId} {mv:Value} {A:S→Assn} (hM:MemI Tryz.prog mt mv A) {σ:S} {p:Pen} {c:Int} (hz:Room (2) σ:=by exact zaE):FnD Tryz.prog 148 [.agg #[.int .i64 p.thread,.int .i64 p.tag],.iface mt mv,.int .i64 c] [A σ] (.tuple #[]) [A (zbj σ c)]:=by
 refine Fn.enter (Tryz.func148) rfl rfl (fun w0 R=>?_)
 refine sA (xB 1 rfl (fun bk1=>(dG (xmc rfl (xmi rfl (TL.callD [0] [0] (zno hM) ⟨rfl,rfl,rfl,trivial⟩ ⟨rfl,trivial⟩ zpz rfl rfl rfl rfl rfl trivial (TL.done ?_)))))))
 refine FQ.end0 (Bs:=[A (zbj σ c)]) [0] rfl rfl ⟨rfl,trivial⟩ ?_
 exact ⟨rfl,rfl⟩
theorem zqS {S:Type} [MemLike S] {mt:TypeId} {mv:Value} {A:S→Assn} (hM:MemI Tryz.prog mt mv A) {fS:FuncId} (hfS:zfn Tryz.prog mt "Store" fS=true) {l:Lay} (hl:l.Ok) {p:Pen} {σ:S} {tag:Int} {dn:Bool} (h:0≤tag∧tag≤16777215) (hz:Room (1) σ:=by exact zaE):FnD Tryz.prog 201 [.agg #[.int .i64 p.thread,.int .i64 p.tag],.iface mt mv,layV l,.int .i64 tag,.bool dn] [A σ] (.tuple #[]) [A (MemLike.st σ (l.state p.thread) (zbx tag dn))]:=by
 refine Fn.enter (Tryz.func201) rfl rfl (fun w0 R=>?_)
 refine sA (xB 1 rfl (fun bk1=>(xB 2 rfl (fun bk2=>(dA (xmi rfl (xmb rfl (TL.callD [] [] (zsx h) ⟨rfl,rfl,trivial⟩ trivial zpm rfl rfl rfl rfl rfl trivial (xmu rfl (xei rfl rfl ?_))))))))))
 refine xei rfl rfl (xai rfl (xai rfl (dA (xmi rfl (TL.eqlT rfl rfl (by decide) rfl rfl (TL.done (TQ.then (TC.condT rfl ?_))))))))
 refine TC.draw [(0,true),(1,true),(2,true),(3,true),(5,true),(6,true),(7,true),(8,true),(4,false),(9,false)] [1,2] fc_m (by kernel_rfl) (xmc rfl (xL3 2 zaa rfl rfl (xf 0 zcq rfl (xli 1 zah rfl rfl (xmi rfl (TL.mf (xs:=[_]) (ys:=[]) [_] [] ⟨rfl,trivial⟩ trivial rfl rfl (TL.ncM hfS rfl rfl rfl (xmc rfl ?_))))))))
 refine TL.callD [] [] (zjW hl) ⟨rfl,rfl,trivial⟩ trivial zr8 rfl rfl rfl rfl rfl (kL2 rfl rfl trivial) (TL.mstore 0 hM rfl rfl rfl (zfL h _) rfl rfl rfl (kL2 rfl rfl trivial) (TL.done ?_))
 refine FQ.end0 (Bs:=[A _]) [0] rfl rfl ⟨rfl,trivial⟩ ?_
 exact ⟨rfl,rfl⟩
theorem zqR {S:Type} [MemLike S] {mt:TypeId} {mv:Value} {A:S→Assn} (hM:MemI Tryz.prog mt mv A) {fS:FuncId} (hfS:zfn Tryz.prog mt "Store" fS=true) {l:Lay} (hl:l.Ok) {p:Pen} {σ:S} {tag:Int} {dn:Bool} (h:¬(0≤tag∧tag≤16777215)) (hz:Room (1) σ:=by exact zaE):FnD Tryz.prog 201 [.agg #[.int .i64 p.thread,.int .i64 p.tag],.iface mt mv,layV l,.int .i64 tag,.bool dn] [A σ] (.tuple #[]) [A (σ)]:=by
 refine Fn.enter (Tryz.func201) rfl rfl (fun w0 R=>?_)
 refine sA (xB 1 rfl (fun bk1=>(xB 2 rfl (fun bk2=>(dA (xmi rfl (xmb rfl (TL.callD [] [] (zsw h) ⟨rfl,rfl,trivial⟩ trivial zpm rfl rfl rfl rfl rfl trivial (xmu rfl (xei rfl rfl ?_))))))))))
 refine xei rfl rfl (xai rfl (xai rfl (dA (xmi rfl (TL.eqlF rfl rfl (by decide) rfl rfl (TL.done (TQ.then (TC.condF rfl ?_))))))))
 refine TC.skip ?_
 refine FQ.end0 (Bs:=[A _]) [0] rfl rfl ⟨rfl,trivial⟩ ?_
 exact ⟨rfl,rfl⟩
theorem zjL {S:Type} [MemLike S] {mt:TypeId} {mv:Value} {A:S→Assn} (hM:MemI Tryz.prog mt mv A) {fS:FuncId} (hfS:zfn Tryz.prog mt "Store" fS=true) {l:Lay} (hl:l.Ok) {p:Pen} {σ:S} {tag:Int} {dn:Bool} (hz:Room (1) σ:=by exact zaE):FnD Tryz.prog 201 [.agg #[.int .i64 p.thread,.int .i64 p.tag],.iface mt mv,layV l,.int .i64 tag,.bool dn] [A σ] (.tuple #[]) [A (za6 l p σ tag dn)]:=by
 unfold za6
 by_cases h:0≤tag∧tag≤16777215
 ·rw [if_pos h]; exact zqS hM hfS hl h
 ·rw [if_neg h]; exact zqR hM hfS hl h
theorem zm7 {S:Type} [MemLike S] {mt:TypeId} {mv:Value} {A:S→Assn} (hM:MemI Tryz.prog mt mv A) {fS:FuncId} (hfS:zfn Tryz.prog mt "Store" fS=true) {l:Lay} (hl:l.Ok) {p:Pen} {σ:S} (hz:Room (1) σ:=by exact zaE):FnD Tryz.prog 156 [.agg #[.int .i64 p.thread,.int .i64 p.tag],.iface mt mv,layV l] [A σ] (.tuple #[]) [A (za6 l p σ p.tag true)]:=by
 refine Fn.enter (Tryz.func156) rfl rfl (fun w0 R=>?_)
 refine sA (xB 1 rfl (fun bk1=>(xB 2 rfl (fun bk2=>(dG (xL2 1 zbk rfl rfl (xmc rfl (xL3 2 zaa rfl rfl (xf 1 zcp rfl (xli 1 zah rfl rfl ?_))))))))))
 refine TL.callD [0] [0] (zjL hM hfS hl) ⟨rfl,rfl,rfl,rfl,rfl,trivial⟩ ⟨rfl,trivial⟩ zpu rfl rfl rfl rfl rfl trivial (TL.done ?_)
 refine FQ.end0 (Bs:=[A (za6 l p σ p.tag true)]) [0] rfl rfl ⟨rfl,trivial⟩ ?_
 exact ⟨rfl,rfl⟩
theorem zsR {S:Type} [MemLike S] {mt:TypeId} {mv:Value} {A:S→Assn} (hM:MemI Tryz.prog mt mv A) {fS:FuncId} (hfS:zfn Tryz.prog mt "Store" fS=true) {l:Lay} (hl:l.Ok) {p:Pen} {σ:S} (hz:Room (1) σ:=by exact zaE):FnD Tryz.prog 158 [.agg #[.int .i64 p.thread,.int .i64 p.tag],.iface mt mv,layV l] [A σ] (.tuple #[]) [A (za6 l p σ (IntKind.i64.wrap (p.tag+1)) false)]:=by
 refine Fn.enter (Tryz.func158) rfl rfl (fun w0 R=>?_)
 refine sA (xB 1 rfl (fun bk1=>(xB 2 rfl (fun bk2=>(dG (xL2 1 zbk rfl rfl (xmc rfl (xL3 2 zaa rfl rfl (xf 1 zcp rfl (xli 1 zah rfl rfl ?_))))))))))
 refine TL.add _ rfl rfl (rfl) rfl rfl (TL.callD [0] [0] (zjL hM hfS hl) ⟨rfl,rfl,rfl,rfl,rfl,trivial⟩ ⟨rfl,trivial⟩ zpu rfl rfl rfl rfl rfl trivial (TL.done ?_))
 refine FQ.end0 (Bs:=[A (za6 l p σ (IntKind.i64.wrap (p.tag+1)) false)]) [0] rfl rfl ⟨rfl,trivial⟩ ?_
 exact ⟨rfl,rfl⟩
end Go.Proofs.YtabjfnfglcghfaaGreat
