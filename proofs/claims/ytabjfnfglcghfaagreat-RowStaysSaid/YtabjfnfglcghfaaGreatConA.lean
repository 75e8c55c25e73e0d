import Derived.Test.YtabjfnfglcghfaaGreatEngG
import Derived.Test.YtabjfnfglcghfaaGreatProg
import Derived.KernelRfl
import Derived.Tactics2
import Derived.StillTactics
import Derived.Laws.Tables
import Derived.Shelf.Sort.Plain
import Derived.Shelf.Slices.In.SortNone
set_option linter.unusedVariables false
set_option linter.unusedSimpArgs false
set_option maxRecDepth 20000
namespace Go.Proofs.YtabjfnfglcghfaaGreat
open Go.Eng Go.Tm
open Go.Eng Go.Tm
abbrev layV (l:Lay):Value:=.agg #[.int .i64 l.V,.int .i64 l.S,.int .i64 l.T]
abbrev zzW (t:Thing):Value:=.agg #[.bool t.arc,.int .i64 t.level,.int .i64 t.vertex,.int .i64 t.slot,.int .i64 t.side]
abbrev wdV (w:Wd):Value:=.agg #[.int .i64 w.old,.int .i64 w.new,.int .i64 w.thread,.int .i64 w.tag]
theorem zyg {x:Int} (_h0:0<=x) (_h1:x<=16):0<=levI x/\levI x<=5:=by
 unfold levI
 repeat' split
 all_goals omega
theorem zAo {s:ByteArray} {x:Int} (h0:0<=x) (h1:x<=16) (hs:(List.range 17).map (fun i=>(s[i]?).map (·.toNat))=[0,1,2,2,3,3,3,3,4,4,4,4,4,4,4,4,5].map some):(s[x.toNat]?).map (fun b=>(b.toNat:Int))=some (levI x):=by
 have hx:x.toNat<17:=by omega
 have h2:=congrArg (fun l=>l[x.toNat]?) hs
 simp only [List.getElem?_map,List.getElem?_range hx,Option.map_some] at h2
 have h3:x=(x.toNat:Int):=by omega
 rw [h3,Int.toNat_natCast]
 generalize x.toNat=i at *
 have:i=0\/i=1\/i=2\/i=3\/i=4\/i=5\/i=6\/i=7\/i=8\/i=9\/i=10\/i=11\/i=12\/i=13\/i=14\/i=15\/i=16:=by omega
 cases hb:s[i]? with
 | none=>rw [hb] at h2; rcases this with rfl | rfl | rfl | rfl | rfl | rfl | rfl | rfl | rfl | rfl | rfl | rfl | rfl | rfl | rfl | rfl | rfl<;>simp at h2
 | some b=>rw [hb] at h2; rcases this with rfl | rfl | rfl | rfl | rfl | rfl | rfl | rfl | rfl | rfl | rfl | rfl | rfl | rfl | rfl | rfl | rfl<;>simp at h2<;>simp [h2,levI]
theorem zei {l:Lay} (h:l.Ok):1<=(l.V:Int)/\(l.V:Int)<=16/\(l.S:Int)<=48/\1<=(l.T:Int)/\(l.T:Int)<=8:=by
 obtain ⟨h1,h2,h3,h4,h5⟩:=h; omega
theorem zAl {l:Lay} (h:l.Ok):1<=l.lev/\l.lev<=5:=by
 have:=zei h
 unfold Lay.lev levI
 repeat' split
 all_goals omega
theorem zbJ {l:Lay} (h:l.Ok):(1<=(l.V:Int)/\(l.V:Int)<=16/\(l.S:Int)<=48/\1<=(l.T:Int)/\(l.T:Int)<=8)/\(1<=l.lev/\l.lev<=5)/\l.arcs=2 * l.lev/\l.free=l.T/\(0<=l.lev * l.V/\l.lev * l.V<=5 * 16)/\(0<=(l.V:Int) * l.lev/\(l.V:Int) * l.lev<=16 * 5) /\
  (0<=(l.S:Int) * l.arcs/\(l.S:Int) * l.arcs<=48 * 10)/\l.nodes=l.lev * l.V+l.S * l.arcs/\l.heads=l.T+1+l.S * 7/\l.edges=l.heads+l.V * l.lev/\(0<=(l.V:Int) * (l.V - 1)/\(l.V:Int) * (l.V - 1)<=16 * 15) /\
  l.base=l.edges+(l.V:Int) * (l.V - 1) / 2/\l.cells=l.base+l.nodes * 7:=by
 have h1:=zei h
 have h2:=zAl h
 have h3:l.arcs=2 * l.lev:=rfl
 exact ⟨h1,h2,h3,Z,zef (by omega) (by omega) (by omega) (by omega),zef (by omega) (by omega) (by omega) (by omega),zef (by omega) (by omega) (by omega) (by omega),Z,Z,Z,zef (by omega) (by omega) (by omega) (by omega),Z,Z⟩
theorem zrW {a b:Int} (h0:0<=a) (hb:0<b) (ha:a<9223372036854775808):IntKind.i64.wrap (a.tdiv b)=a / b:=by
 rw [Int.tdiv_eq_ediv_of_nonneg h0]
 exact wr64 ⟨by have:=Int.ediv_nonneg h0 (Int.le_of_lt hb); omega,by have:=Int.ediv_le_self b h0; omega⟩
theorem znS {a b:Int} (h0:0<=a):a.tmod b=a % b:=Int.tmod_eq_emod_of_nonneg h0
theorem zgM {x V:Int} (h0:0<=x) (h1:x<V) (h2:V<=16):0<=x * (2 * V - x - 1)/\x * (2 * V - x - 1)<=16 * 32:=zef h0 (by omega) (by omega) (by omega)
abbrev zby (l:Lay) (mt:TypeId) (mv:Value) (p:Pen):Value:=.agg #[.int .i64 l.V,.int .i64 l.S,.int .i64 l.T,.iface mt mv,.int .i64 p.thread,.int .i64 p.tag]
abbrev zjY (l:Lay) (mt:TypeId) (mv:Value):Value:=.agg #[.int .i64 l.V,.int .i64 l.S,.int .i64 l.T,.iface mt mv]
abbrev adjV (l:Lay) (mt:TypeId) (mv:Value) (p:Pen):Value:=.agg #[.int .i64 l.V,.int .i64 l.S,.int .i64 l.T,.iface mt mv,.int .i64 p.thread,.int .i64 p.tag,.int .i64 l.V,.int .i64 l.S,.int .i64 l.T,.iface mt mv]
theorem zpG (l:Lay) (x m:Int):0<=zfG l x m/\zfG l x m<18446744073709551616:=by
 unfold zfG; split<;>exact zbA _ _
theorem zqJ {S:Type} [MemLike S] (l:Lay) (σ:S) (x m:Int) (i:Nat):0<=(zce l σ x m i).1/\(zce l σ x m i).1<18446744073709551616:=by
 cases i with
 | zero=>exact zpG _ _ _
 | succ i=>exact zbA _ _
abbrev edgV (e:Edg):Value:=.agg #[.int .i64 e.u,.int .i64 e.v,.int .i64 e.level,.bool e.tree]
theorem quo2 (z:Int):IntKind.i64.wrap ((IntKind.i64.wrap z).tdiv 2)=(IntKind.i64.wrap z).tdiv 2:=by
 have h:-9223372036854775808<=IntKind.i64.wrap z/\IntKind.i64.wrap z<9223372036854775808:=by
  rw [IntKind.wrap_i64]; omega
 generalize IntKind.i64.wrap z=y at *
 refine wr64 ?_
 have h1:=Int.mul_tdiv_add_tmod y 2
 have h2:=Int.tmod_lt_of_pos y (show (0:Int)<2 by omega)
 have h3:=Int.lt_tmod_of_pos y (show (0:Int)<2 by omega)
 omega
theorem zdV:(Tryz.prog.underlying 29).isSome=true:=by kernel_rfl
theorem zvP:intB Tryz.prog 5 .u8=true:=by kernel_rfl
theorem zAB:Tryz.prog.underlying 9=some .string:=by kernel_rfl
theorem fc_u5:(Tryz.prog.underlying 5).isSome=true:=by kernel_rfl
theorem zaQ:intB Tryz.prog 3 .i64=true:=by kernel_rfl
theorem zzd:zaj Tryz.prog 165=true:=by kernel_rfl
theorem zaH:fldB Tryz.prog 41 0 0=true:=by kernel_rfl
theorem zaa:zcO Tryz.prog 3=true:=by kernel_rfl
theorem zgp:(Tryz.prog.underlying 3).isSome=true:=by kernel_rfl
theorem zjE:intB Tryz.prog 203 .u64=true:=by kernel_rfl
theorem zzo:zaj Tryz.prog 121=true:=by kernel_rfl
theorem zac:aggB Tryz.prog 41 3=true:=by kernel_rfl
theorem zgw:zaj Tryz.prog 87=true:=by kernel_rfl
theorem fc_m:Tryz.prog.follows .mixedOrders=true:=by kernel_rfl
theorem zbD:fldB Tryz.prog 41 1 1=true:=by kernel_rfl
theorem zpT:zaj Tryz.prog 88=true:=by kernel_rfl
theorem zdi:zaj Tryz.prog 89=true:=by kernel_rfl
theorem ze3:fldB Tryz.prog 41 2 2=true:=by kernel_rfl
theorem zl2:zaj Tryz.prog 137=true:=by kernel_rfl
theorem zjR:zaj Tryz.prog 177=true:=by kernel_rfl
theorem ztL:zaj Tryz.prog 166=true:=by kernel_rfl
theorem ztS:zaj Tryz.prog 122=true:=by kernel_rfl
theorem zjL:zaj Tryz.prog 31=true:=by kernel_rfl
theorem zwX:zaj Tryz.prog 90=true:=by kernel_rfl
theorem zgu:zbG Tryz.prog 59=some (.agg #[.bool false,.int .i64 0,.int .i64 0,.int .i64 0,.int .i64 0]):=by kernel_rfl
theorem ztb:zbh Tryz.prog 59 [(0,1),(1,1),(2,1),(3,1),(4,1)]=true:=by kernel_rfl
theorem zcT:aggB Tryz.prog 59 5=true:=by kernel_rfl
theorem zfs:fldB Tryz.prog 260 2 2=true:=by kernel_rfl
theorem zcd:fldB Tryz.prog 260 0 0=true:=by kernel_rfl
theorem zh2:zaj Tryz.prog 253=true:=by kernel_rfl
theorem zcz:fldB Tryz.prog 260 1 1=true:=by kernel_rfl
theorem zfr:fldB Tryz.prog 260 3 3=true:=by kernel_rfl
theorem zaF:aggB Tryz.prog 260 4=true:=by kernel_rfl
theorem zyS:zaj Tryz.prog 254=true:=by kernel_rfl
theorem ztr:zaj Tryz.prog 228=true:=by kernel_rfl
theorem zbs:intB Tryz.prog 29 .u64=true:=by kernel_rfl
theorem zca:zbG Tryz.prog 260=some (.agg #[.int .i64 0,.int .i64 0,.int .i64 0,.int .i64 0]):=by kernel_rfl
theorem zot:zaj Tryz.prog 227=true:=by kernel_rfl
theorem zhU:zbh Tryz.prog 260 [(0,1),(1,1),(2,1),(3,1)]=true:=by kernel_rfl
theorem zdB:fldB Tryz.prog 137 0 0=true:=by kernel_rfl
theorem zdA:fldB Tryz.prog 137 1 1=true:=by kernel_rfl
theorem zfW:zaj Tryz.prog 195=true:=by kernel_rfl
theorem ztq:zaj Tryz.prog 229=true:=by kernel_rfl
theorem zlZ:zaj Tryz.prog 222=true:=by kernel_rfl
theorem ztG:zaj Tryz.prog 187=true:=by kernel_rfl
theorem zbf:fldB Tryz.prog 182 1 3=true:=by kernel_rfl
theorem zbw:zcO Tryz.prog 180=true:=by kernel_rfl
theorem zaE:fldB Tryz.prog 182 0 0=true:=by kernel_rfl
theorem zcp:zaj Tryz.prog 35=true:=by kernel_rfl
theorem zkL:zaj Tryz.prog 32=true:=by kernel_rfl
theorem zhZ:fldB Tryz.prog 59 1 1=true:=by kernel_rfl
theorem zab:aggB Tryz.prog 182 6=true:=by kernel_rfl
theorem zts:zaj Tryz.prog 221=true:=by kernel_rfl
theorem zov:zaj Tryz.prog 198=true:=by kernel_rfl
theorem zep:zaj Tryz.prog 250=true:=by kernel_rfl
theorem zjF:fldB Tryz.prog 182 2 4=true:=by kernel_rfl
theorem za7:aggB Tryz.prog 137 2=true:=by kernel_rfl
theorem zow:zaj Tryz.prog 197=true:=by kernel_rfl
theorem zl1:zaj Tryz.prog 184=true:=by kernel_rfl
theorem zkH:fldB Tryz.prog 59 0 0=true:=by kernel_rfl
theorem zem:zcO Tryz.prog 4=true:=by kernel_rfl
theorem ztH:zaj Tryz.prog 186=true:=by kernel_rfl
theorem zlS:zbG Tryz.prog 122=some (.agg #[.int .i64 0,.int .i64 0]):=by kernel_rfl
theorem zcb:zkW Tryz.prog 122 2 3 1=true:=by kernel_rfl
theorem zjM:zaj Tryz.prog 276=true:=by kernel_rfl
theorem zyM:zaj Tryz.prog 277=true:=by kernel_rfl
theorem zjQ:zaj Tryz.prog 185=true:=by kernel_rfl
theorem zh5:zaj Tryz.prog 223=true:=by kernel_rfl
theorem zlW:zaj Tryz.prog 261=true:=by kernel_rfl
theorem zh1:zaj Tryz.prog 259=true:=by kernel_rfl
theorem zjN:zaj Tryz.prog 260=true:=by kernel_rfl
theorem zoo:zaj Tryz.prog 262=true:=by kernel_rfl
theorem zlV:zaj Tryz.prog 275=true:=by kernel_rfl
theorem zyN:zaj Tryz.prog 274=true:=by kernel_rfl
theorem zop:zaj Tryz.prog 258=true:=by kernel_rfl
theorem zti:zaj Tryz.prog 278=true:=by kernel_rfl
theorem ztk:zaj Tryz.prog 257=true:=by kernel_rfl
theorem zak:fldB Tryz.prog 188 0 0=true:=by kernel_rfl
theorem zfx:zaj Tryz.prog 103=true:=by kernel_rfl
theorem zfw:zaj Tryz.prog 190=true:=by kernel_rfl
theorem zoq:zaj Tryz.prog 243=true:=by kernel_rfl
theorem zfu:zaj Tryz.prog 244=true:=by kernel_rfl
theorem zh3:zaj Tryz.prog 239=true:=by kernel_rfl
theorem zyP:zaj Tryz.prog 263=true:=by kernel_rfl
theorem zor:zaj Tryz.prog 242=true:=by kernel_rfl
theorem zbW:aggB Tryz.prog 188 6=true:=by kernel_rfl
theorem zto:zaj Tryz.prog 238=true:=by kernel_rfl
theorem ztn:zaj Tryz.prog 240=true:=by kernel_rfl
theorem zjS:zaj Tryz.prog 147=true:=by kernel_rfl
theorem zbF:fldB Tryz.prog 190 1 3=true:=by kernel_rfl
theorem zaK:fldB Tryz.prog 190 0 0=true:=by kernel_rfl
theorem zjT:zaj Tryz.prog 140=true:=by kernel_rfl
theorem zty:zaj Tryz.prog 203=true:=by kernel_rfl
theorem zoz:zaj Tryz.prog 172=true:=by kernel_rfl
theorem ztx:zaj Tryz.prog 204=true:=by kernel_rfl
theorem zdt:zbG Tryz.prog 217=some (.agg #[.int .i64 0,.int .i64 0,.int .i64 0,.bool false]):=by kernel_rfl
theorem za3:aggB Tryz.prog 190 4=true:=by kernel_rfl
theorem ztK:zaj Tryz.prog 170=true:=by kernel_rfl
theorem zzc:zaj Tryz.prog 171=true:=by kernel_rfl
theorem zyD:zbh Tryz.prog 217 [(0,1),(1,1),(2,1),(3,1)]=true:=by kernel_rfl
theorem zbV:aggB Tryz.prog 217 4=true:=by kernel_rfl
theorem zaw:fldB Tryz.prog 192 1 6=true:=by kernel_rfl
theorem zyR:zaj Tryz.prog 255=true:=by kernel_rfl
theorem zyQ:zaj Tryz.prog 256=true:=by kernel_rfl
theorem zan:aggB Tryz.prog 192 10=true:=by kernel_rfl
theorem zlY:zaj Tryz.prog 232=true:=by kernel_rfl
theorem zjP:zaj Tryz.prog 233=true:=by kernel_rfl
theorem zbe:fldB Tryz.prog 192 0 0=true:=by kernel_rfl
theorem fc_b4:zur Tryz.prog 4=true:=by kernel_rfl
theorem ztm:zaj Tryz.prog 241=true:=by kernel_rfl
theorem zos:zaj Tryz.prog 235=true:=by kernel_rfl
theorem zfv:zaj Tryz.prog 234=true:=by kernel_rfl
theorem zjO:zaj Tryz.prog 236=true:=by kernel_rfl
theorem zh4:zaj Tryz.prog 237=true:=by kernel_rfl
theorem zdC:zaj Tryz.prog 134=true:=by kernel_rfl
theorem zbn:fldB Tryz.prog 217 0 0=true:=by kernel_rfl
theorem zbE:fldB Tryz.prog 217 2 2=true:=by kernel_rfl
theorem zl0:zaj Tryz.prog 206=true:=by kernel_rfl
theorem ztw:zaj Tryz.prog 205=true:=by kernel_rfl
theorem zbm:fldB Tryz.prog 217 1 1=true:=by kernel_rfl
theorem ztu:zaj Tryz.prog 211=true:=by kernel_rfl
theorem zao:fldB Tryz.prog 194 0 0=true:=by kernel_rfl
theorem zy5:zaj Tryz.prog 207=true:=by kernel_rfl
theorem ztv:zaj Tryz.prog 208=true:=by kernel_rfl
theorem zaZ:aggB Tryz.prog 194 10=true:=by kernel_rfl
theorem zou:zaj Tryz.prog 209=true:=by kernel_rfl
theorem zhr:znc Tryz.prog 217 2 2 3=true:=by kernel_rfl
theorem zy4:zaj Tryz.prog 212=true:=by kernel_rfl
theorem ztj:zaj Tryz.prog 265=true:=by kernel_rfl
theorem zoy:zaj Tryz.prog 173=true:=by kernel_rfl
theorem ztN:zaj Tryz.prog 162=true:=by kernel_rfl
theorem zyO:zaj Tryz.prog 264=true:=by kernel_rfl
theorem zlX:zaj Tryz.prog 246=true:=by kernel_rfl
theorem zq1:fldB Tryz.prog 59 3 3=true:=by kernel_rfl
theorem zyW:zaj Tryz.prog 247=true:=by kernel_rfl
theorem zq2:fldB Tryz.prog 59 2 2=true:=by kernel_rfl
theorem zyV:zaj Tryz.prog 248=true:=by kernel_rfl
theorem ztz:zaj Tryz.prog 202=true:=by kernel_rfl
theorem zyU:zaj Tryz.prog 249=true:=by kernel_rfl
theorem ztl:zaj Tryz.prog 245=true:=by kernel_rfl
theorem zs7:zbG Tryz.prog 196=some (.agg #[.int .i64 0,.int .i64 0,.int .i64 0,.nilIface,.int .i64 0,.int .i64 0,.int .i64 0,.int .i64 0,.int .i64 0,.nilIface]):=by kernel_rfl
theorem zom:zbh Tryz.prog 182 [(0,3),(3,1),(4,2)]=true:=by kernel_rfl
theorem zjB:zbG Tryz.prog 182=some (.agg #[.int .i64 0,.int .i64 0,.int .i64 0,.nilIface,.int .i64 0,.int .i64 0]):=by kernel_rfl
theorem zyJ:zbh Tryz.prog 188 [(0,6)]=true:=by kernel_rfl
theorem zs8:zbG Tryz.prog 188=some (.agg #[.int .i64 0,.int .i64 0,.int .i64 0,.nilIface,.int .i64 0,.int .i64 0]):=by kernel_rfl
theorem zyI:zbh Tryz.prog 190 [(0,3),(3,1)]=true:=by kernel_rfl
theorem zyz:zbG Tryz.prog 190=some (.agg #[.int .i64 0,.int .i64 0,.int .i64 0,.nilIface]):=by kernel_rfl
theorem zyH:zbh Tryz.prog 192 [(0,6),(6,4)]=true:=by kernel_rfl
theorem zyy:zbG Tryz.prog 192=some (.agg #[.int .i64 0,.int .i64 0,.int .i64 0,.nilIface,.int .i64 0,.int .i64 0,.int .i64 0,.int .i64 0,.int .i64 0,.nilIface]):=by kernel_rfl
theorem zyG:zbh Tryz.prog 194 [(0,10)]=true:=by kernel_rfl
theorem zyx:zbG Tryz.prog 194=some (.agg #[.int .i64 0,.int .i64 0,.int .i64 0,.nilIface,.int .i64 0,.int .i64 0,.int .i64 0,.int .i64 0,.int .i64 0,.nilIface]):=by kernel_rfl
theorem zyF:zbh Tryz.prog 196 [(0,10)]=true:=by kernel_rfl
theorem zck:aggB Tryz.prog 196 10=true:=by kernel_rfl
theorem zaX:fldB Tryz.prog 196 0 0=true:=by kernel_rfl
theorem zzf:zaj Tryz.prog 160=true:=by kernel_rfl
theorem zze:zaj Tryz.prog 161=true:=by kernel_rfl
theorem ztM:zaj Tryz.prog 163=true:=by kernel_rfl
theorem zy3:zaj Tryz.prog 213=true:=by kernel_rfl
theorem zy2:zaj Tryz.prog 214=true:=by kernel_rfl
theorem zy1:zaj Tryz.prog 215=true:=by kernel_rfl
theorem zon:fldB Tryz.prog 217 3 3=true:=by kernel_rfl
theorem ztJ:zaj Tryz.prog 174=true:=by kernel_rfl
theorem zzb:zaj Tryz.prog 175=true:=by kernel_rfl
theorem zza:zaj Tryz.prog 176=true:=by kernel_rfl
theorem zcC:fldB Tryz.prog 139 0 0=true:=by kernel_rfl
theorem zgv:zcO Tryz.prog 22=true:=by kernel_rfl
theorem zaM:zcu Tryz.prog 22 29 1=true:=by kernel_rfl
theorem zeo:fldB Tryz.prog 139 1 1=true:=by kernel_rfl
theorem zjJ:fldB Tryz.prog 126 0 0=true:=by kernel_rfl
theorem zpU:zaj Tryz.prog 82=true:=by kernel_rfl
theorem zlT:ptrB Tryz.prog 140=true:=by kernel_rfl
theorem zik:zcO Tryz.prog 29=true:=by kernel_rfl
theorem zjI:fldB Tryz.prog 126 1 1=true:=by kernel_rfl
theorem zjG:fldB Tryz.prog 149 0 0=true:=by kernel_rfl
theorem zdl:zcO Tryz.prog 25=true:=by kernel_rfl
theorem zpW:zaj Tryz.prog 23=true:=by kernel_rfl
theorem zkN:zaj Tryz.prog 17=true:=by kernel_rfl
theorem zjD:appB Tryz.prog 22 29 1=true:=by kernel_rfl
theorem zAA:zbG Tryz.prog 29=some (.int .u64 0):=by kernel_rfl
theorem ztc:zbh Tryz.prog 139 [(0,1),(1,5)]=true:=by kernel_rfl
theorem zta:zbG Tryz.prog 139=some (.agg #[.slice none 0 0,.int .i64 0,.int .i64 0,.int .i64 0,.int .i64 0,.int .i64 0]):=by kernel_rfl
theorem zs9:zbG Tryz.prog 149=some (.agg #[.pointer none]):=by kernel_rfl
theorem zyK:zbh Tryz.prog 149 [(0,1)]=true:=by kernel_rfl
theorem znh:aggB Tryz.prog 149 1=true:=by kernel_rfl
theorem zy9:zaj Tryz.prog 189=true:=by kernel_rfl
theorem ztF:zaj Tryz.prog 188=true:=by kernel_rfl
theorem ztp:zaj Tryz.prog 231=true:=by kernel_rfl
theorem zwZ:zaj Tryz.prog 70=true:=by kernel_rfl
theorem ztA:zaj Tryz.prog 201=true:=by kernel_rfl
theorem ztR:zaj Tryz.prog 138=true:=by kernel_rfl
theorem ztQ:zaj Tryz.prog 148=true:=by kernel_rfl
theorem zh7:zg9 Tryz.prog 149 "Store" 302=true:=by kernel_rfl
theorem zzr:zaj Tryz.prog 114=true:=by kernel_rfl
theorem zAI:zaj Tryz.prog 91=true:=by kernel_rfl
theorem zAR:zaj Tryz.prog 16=true:=by kernel_rfl
theorem zjK:zaj Tryz.prog 85=true:=by kernel_rfl
theorem zgI:ziF Tryz.prog 149=true:=by kernel_rfl
theorem zzq:zaj Tryz.prog 115=true:=by kernel_rfl
theorem zjC:zbh Tryz.prog 137 [(0,1),(1,1)]=true:=by kernel_rfl
theorem zfT:zbG Tryz.prog 137=some (.agg #[.int .i64 0,.int .i64 0]):=by kernel_rfl
theorem zl3:zaj Tryz.prog 116=true:=by kernel_rfl
theorem zah:zcu Tryz.prog 48 3 1=true:=by kernel_rfl
theorem zc3:appB Tryz.prog 48 3 1=true:=by kernel_rfl
theorem ztU:aggB Tryz.prog 126 5=true:=by kernel_rfl
theorem zzt:zaj Tryz.prog 106=true:=by kernel_rfl
theorem zzs:zaj Tryz.prog 107=true:=by kernel_rfl
theorem zdv:fldB Tryz.prog 70 0 0=true:=by kernel_rfl
theorem zgf:fldB Tryz.prog 70 1 1=true:=by kernel_rfl
theorem zhW:fldB Tryz.prog 70 2 2=true:=by kernel_rfl
theorem zeV:zbG Tryz.prog 3=some (.int .i64 0):=by kernel_rfl
theorem ztE:zaj Tryz.prog 191=true:=by kernel_rfl
theorem zhq:zcO Tryz.prog 48=true:=by kernel_rfl
theorem zzm:zaj Tryz.prog 150=true:=by kernel_rfl
theorem zfq:fldB Tryz.prog 264 0 0=true:=by kernel_rfl
theorem zdy:fldB Tryz.prog 264 1 1=true:=by kernel_rfl
theorem zco:zcO Tryz.prog 23=true:=by kernel_rfl
theorem zwU:zbh Tryz.prog 34 [(0,1),(1,1),(2,1)]=true:=by kernel_rfl
theorem zek:zbG Tryz.prog 34=some (.agg #[.bool false,.int .i64 0,.int .u64 0]):=by kernel_rfl
theorem zal:zcu Tryz.prog 23 34 3=true:=by kernel_rfl
theorem zcc:appB Tryz.prog 23 34 3=true:=by kernel_rfl
theorem zwY:zaj Tryz.prog 83=true:=by kernel_rfl
theorem zpV:zaj Tryz.prog 58=true:=by kernel_rfl
theorem zyC:zbh Tryz.prog 264 [(0,1),(1,1)]=true:=by kernel_rfl
theorem zyv:zbG Tryz.prog 264=some (.agg #[.pointer none,.slice none 0 0]):=by kernel_rfl
theorem zyX:zaj Tryz.prog 230=true:=by kernel_rfl
theorem zyT:zaj Tryz.prog 252=true:=by kernel_rfl
theorem zyB:(Tryz.prog.underlying 203).isSome=true:=by kernel_rfl
theorem zyZ:zaj Tryz.prog 225=true:=by kernel_rfl
theorem zyY:zaj Tryz.prog 226=true:=by kernel_rfl
theorem zbR:aggB Tryz.prog 34 3=true:=by kernel_rfl
theorem zdx:fldB Tryz.prog 34 0 0=true:=by kernel_rfl
theorem zbt:fldB Tryz.prog 34 1 1=true:=by kernel_rfl
theorem zy0:zaj Tryz.prog 224=true:=by kernel_rfl
theorem zbo:fldB Tryz.prog 198 1 1=true:=by kernel_rfl
theorem zy7:zaj Tryz.prog 199=true:=by kernel_rfl
theorem zbd:fldB Tryz.prog 198 0 0=true:=by kernel_rfl
theorem zde:zcO Tryz.prog 186=true:=by kernel_rfl
theorem zy6:zaj Tryz.prog 200=true:=by kernel_rfl
theorem ztD:zaj Tryz.prog 192=true:=by kernel_rfl
theorem zox:zaj Tryz.prog 193=true:=by kernel_rfl
theorem ztC:zaj Tryz.prog 194=true:=by kernel_rfl
theorem zdz:fldB Tryz.prog 198 2 4=true:=by kernel_rfl
theorem zfV:ziF Tryz.prog 186=true:=by kernel_rfl
theorem zy8:zaj Tryz.prog 196=true:=by kernel_rfl
theorem zcA:fldB Tryz.prog 198 3 6=true:=by kernel_rfl
theorem zb5:fldB Tryz.prog 198 5 17=true:=by kernel_rfl
theorem zb4:fldB Tryz.prog 198 6 18=true:=by kernel_rfl
theorem zcB:fldB Tryz.prog 145 1 1=true:=by kernel_rfl
theorem zjH:fldB Tryz.prog 145 0 0=true:=by kernel_rfl
theorem zft:fldB Tryz.prog 145 2 2=true:=by kernel_rfl
theorem zyL:zbh Tryz.prog 145 [(0,1),(1,1),(2,1)]=true:=by kernel_rfl
theorem zyA:zbG Tryz.prog 145=some (.agg #[.slice none 0 0,.int .i64 0,.bool false]):=by kernel_rfl
theorem zkK:fldB Tryz.prog 34 2 2=true:=by kernel_rfl
theorem zkM:zaj Tryz.prog 19=true:=by kernel_rfl
theorem zAK:zaj Tryz.prog 84=true:=by kernel_rfl
theorem zcD:zmW Tryz.prog 152 3 3=true:=by kernel_rfl
theorem zb3:zbG Tryz.prog 50=some (.agg #[.slice none 0 0,.int .i64 0,.bool false,.slice none 0 0]):=by kernel_rfl
theorem ztP:zaj Tryz.prog 151=true:=by kernel_rfl
theorem zeW:zbh Tryz.prog 50 [(0,1),(1,1),(2,1),(3,1)]=true:=by kernel_rfl
theorem zat:aggB Tryz.prog 50 4=true:=by kernel_rfl
theorem zoA:zaj Tryz.prog 152=true:=by kernel_rfl
theorem zbg:fldB Tryz.prog 50 0 0=true:=by kernel_rfl
theorem zzl:zaj Tryz.prog 153=true:=by kernel_rfl
theorem zcj:fldB Tryz.prog 50 1 1=true:=by kernel_rfl
theorem zzk:zaj Tryz.prog 154=true:=by kernel_rfl
theorem zdw:fldB Tryz.prog 50 3 3=true:=by kernel_rfl
theorem zil:fldB Tryz.prog 198 4 16=true:=by kernel_rfl
theorem ztO:zaj Tryz.prog 155=true:=by kernel_rfl
theorem zzj:zaj Tryz.prog 156=true:=by kernel_rfl
theorem zzi:zaj Tryz.prog 157=true:=by kernel_rfl
theorem zzh:zaj Tryz.prog 158=true:=by kernel_rfl
theorem zzg:zaj Tryz.prog 159=true:=by kernel_rfl
theorem zzn:zaj Tryz.prog 149=true:=by kernel_rfl
theorem zjV:zaj Tryz.prog 133=true:=by kernel_rfl
theorem zyE:zbh Tryz.prog 198 [(0,1),(1,3),(4,2),(6,10),(16,1),(17,1),(18,1)]=true:=by kernel_rfl
theorem zyw:zbG Tryz.prog 198=some (.agg #[.pointer none,.int .i64 0,.int .i64 0,.int .i64 0,.int .i64 0,.int .i64 0,.int .i64 0,.int .i64 0,.int .i64 0,.nilIface,.int .i64 0,.int .i64 0,.int .i64 0,.int .i64 0,.int .i64 0,.nilIface,.slice none 0 0,.int .i64 0,.int .i64 0]):=by kernel_rfl
theorem ztT:zaj Tryz.prog 118=true:=by kernel_rfl
theorem zzp:zaj Tryz.prog 120=true:=by kernel_rfl
theorem zh6:zaj Tryz.prog 119=true:=by kernel_rfl
theorem zdf:znc Tryz.prog 196 0 0 194=true:=by kernel_rfl
theorem zdg:znc Tryz.prog 194 0 0 192=true:=by kernel_rfl
theorem zdh:znc Tryz.prog 192 1 6 190=true:=by kernel_rfl
theorem zjU:zaj Tryz.prog 135=true:=by kernel_rfl
theorem zne:zbG Tryz.prog 63=some (.agg #[.int .i64 0,.int .i64 0,.int .i64 0,.int .i64 0]):=by kernel_rfl
theorem zAE:zbh Tryz.prog 63 [(0,1),(1,1),(2,1),(3,1)]=true:=by kernel_rfl
theorem zgh:aggB Tryz.prog 63 4=true:=by kernel_rfl
theorem zhY:fldB Tryz.prog 63 0 0=true:=by kernel_rfl
theorem zeZ:fldB Tryz.prog 63 2 2=true:=by kernel_rfl
theorem zhX:fldB Tryz.prog 63 3 3=true:=by kernel_rfl
theorem zw3:zaj Tryz.prog 33=true:=by kernel_rfl
theorem ze0:fldB Tryz.prog 63 1 1=true:=by kernel_rfl
theorem zbK:fldB Tryz.prog 57 1 3=true:=by kernel_rfl
theorem zaL:fldB Tryz.prog 57 0 0=true:=by kernel_rfl
theorem zw2:zaj Tryz.prog 34=true:=by kernel_rfl
theorem zzw:zaj Tryz.prog 102=true:=by kernel_rfl
theorem zAQ:zaj Tryz.prog 42=true:=by kernel_rfl
theorem zim:zaj Tryz.prog 45=true:=by kernel_rfl
theorem ze2:fldB Tryz.prog 44 0 0=true:=by kernel_rfl
theorem zkJ:fldB Tryz.prog 44 1 3=true:=by kernel_rfl
theorem zAL:zaj Tryz.prog 76=true:=by kernel_rfl
theorem zwW:ptrB Tryz.prog 25=true:=by kernel_rfl
theorem zAF:zbh Tryz.prog 57 [(0,3),(3,1),(4,1),(5,1)]=true:=by kernel_rfl
theorem zAv:zbG Tryz.prog 57=some (.agg #[.int .i64 0,.int .i64 0,.int .i64 0,.pointer none,.int .i64 0,.slice none 0 0]):=by kernel_rfl
theorem zAH:zbh Tryz.prog 41 [(0,1),(1,1),(2,1)]=true:=by kernel_rfl
theorem zAz:zbG Tryz.prog 41=some (.agg #[.int .i64 0,.int .i64 0,.int .i64 0]):=by kernel_rfl
theorem zAG:zbh Tryz.prog 44 [(0,3),(3,1),(4,1)]=true:=by kernel_rfl
theorem zAy:zbG Tryz.prog 44=some (.agg #[.int .i64 0,.int .i64 0,.int .i64 0,.slice none 0 0,.slice none 0 0]):=by kernel_rfl
theorem zw4:zaj Tryz.prog 25=true:=by kernel_rfl
theorem zwV:ptrB Tryz.prog 46=true:=by kernel_rfl
theorem ztg:zaj Tryz.prog 80=true:=by kernel_rfl
theorem ztf:zaj Tryz.prog 81=true:=by kernel_rfl
theorem zh0:fldB Tryz.prog 50 2 2=true:=by kernel_rfl
theorem ztI:zaj Tryz.prog 18=true:=by kernel_rfl
theorem ztd:ptrB Tryz.prog 31=true:=by kernel_rfl
theorem ztB:zaj Tryz.prog 20=true:=by kernel_rfl
theorem ztt:zaj Tryz.prog 22=true:=by kernel_rfl
theorem zw6:zaj Tryz.prog 21=true:=by kernel_rfl
theorem zw7:zaj Tryz.prog 15=true:=by kernel_rfl
theorem ze1:fldB Tryz.prog 57 2 4=true:=by kernel_rfl
theorem zaU:fldB Tryz.prog 91 1 1=true:=by kernel_rfl
theorem zaT:fldB Tryz.prog 91 2 2=true:=by kernel_rfl
theorem zhV:appB Tryz.prog 81 4 1=true:=by kernel_rfl
theorem zyu:zbG Tryz.prog 4=some (.bool false):=by kernel_rfl
theorem zbU:fldB Tryz.prog 57 3 5=true:=by kernel_rfl
theorem zel:zcO Tryz.prog 55=true:=by kernel_rfl
theorem zaW:zcu Tryz.prog 55 80 5=true:=by kernel_rfl
theorem zeE:aggB Tryz.prog 80 5=true:=by kernel_rfl
theorem zkD:zbG Tryz.prog 80=some (.agg #[.int .i64 0,.int .i64 0,.int .i64 0,.int .i64 0,.bool false]):=by kernel_rfl
theorem zeY:fldB Tryz.prog 80 0 0=true:=by kernel_rfl
theorem zcI:zcu Tryz.prog 81 4 1=true:=by kernel_rfl
theorem zeX:fldB Tryz.prog 80 1 1=true:=by kernel_rfl
theorem zge:fldB Tryz.prog 80 2 2=true:=by kernel_rfl
theorem zd7:fldB Tryz.prog 91 0 0=true:=by kernel_rfl
theorem zAC:zbh Tryz.prog 80 [(0,1),(1,1),(2,1),(3,1),(4,1)]=true:=by kernel_rfl
theorem zdu:appB Tryz.prog 55 80 5=true:=by kernel_rfl
theorem zzu:zaj Tryz.prog 105=true:=by kernel_rfl
theorem zkI:fldB Tryz.prog 44 2 4=true:=by kernel_rfl
theorem zwT:zcO Tryz.prog 42=true:=by kernel_rfl
theorem zgJ:zcu Tryz.prog 42 91 3=true:=by kernel_rfl
theorem zl4:aggB Tryz.prog 91 3=true:=by kernel_rfl
theorem zAu:zbG Tryz.prog 91=some (.agg #[.int .i64 0,.int .i64 0,.int .i64 0]):=by kernel_rfl
theorem zAO:zaj Tryz.prog 54=true:=by kernel_rfl
theorem zAM:zaj Tryz.prog 60=true:=by kernel_rfl
theorem zfU:zcO Tryz.prog 46=true:=by kernel_rfl
theorem zwS:zbG Tryz.prog 70=some (.agg #[.int .i64 0,.int .i64 0,.int .i64 0]):=by kernel_rfl
theorem zAD:zbh Tryz.prog 70 [(0,1),(1,1),(2,1)]=true:=by kernel_rfl
theorem zgg:aggB Tryz.prog 70 3=true:=by kernel_rfl
theorem zth:zaj Tryz.prog 52=true:=by kernel_rfl
theorem zAJ:zaj Tryz.prog 86=true:=by kernel_rfl
theorem zl5:aggB Tryz.prog 44 5=true:=by kernel_rfl
theorem zw5:zaj Tryz.prog 24=true:=by kernel_rfl
theorem zAx:zbG Tryz.prog 46=some (.pointer none):=by kernel_rfl
theorem zd4:zcu Tryz.prog 162 122 2=true:=by kernel_rfl
theorem zjW:zaj Tryz.prog 132=true:=by kernel_rfl
theorem zte:zaj Tryz.prog 94=true:=by kernel_rfl
theorem zen:zbh Tryz.prog 98 [(0,1),(1,1),(2,1),(3,1)]=true:=by kernel_rfl
theorem zci:zbG Tryz.prog 98=some (.agg #[.int .i64 0,.int .i64 0,.int .i64 0,.int .i64 0]):=by kernel_rfl
theorem zbx:zcu Tryz.prog 71 98 4=true:=by kernel_rfl
theorem zcy:appB Tryz.prog 71 98 4=true:=by kernel_rfl
theorem zw1:zaj Tryz.prog 53=true:=by kernel_rfl
theorem zzv:zaj Tryz.prog 104=true:=by kernel_rfl
theorem ziR:aggB Tryz.prog 98 4=true:=by kernel_rfl
theorem zkG:fldB Tryz.prog 98 0 0=true:=by kernel_rfl
theorem zcJ:fldB Tryz.prog 98 1 1=true:=by kernel_rfl
theorem zkF:fldB Tryz.prog 98 2 2=true:=by kernel_rfl
theorem zlU:appB Tryz.prog 162 122 2=true:=by kernel_rfl
theorem zzx:zaj Tryz.prog 101=true:=by kernel_rfl
theorem zw0:zaj Tryz.prog 56=true:=by kernel_rfl
theorem zng:zaj Tryz.prog 55=true:=by kernel_rfl
theorem zkE:zcO Tryz.prog 95=true:=by kernel_rfl
theorem znf:zaj Tryz.prog 57=true:=by kernel_rfl
theorem zAP:zaj Tryz.prog 51=true:=by kernel_rfl
theorem zAw:zbG Tryz.prog 55=some (.slice none 0 0):=by kernel_rfl
theorem zAt:zbG Tryz.prog 95=some (.nilFunc):=by kernel_rfl
theorem zAN:zaj Tryz.prog 59=true:=by kernel_rfl
theorem zbB {n m:Int}:FnD Tryz.prog 89 [.int .i64 n,.int .i64 m] [] (.bool (decide (0<=n/\n<m))) []:=by
 refine Fn.enter (Tryz.func89) Z Z (fun w0 R=>?_)
 refine sA (xaf Z (dA (xmi Z (TL.geq Z Z Z Z (fun q1=>?_) (fun q1=>?_)))))
 refine xmt Z (xmi Z (xmi Z (TL.lssV Z Z Z Z (TL.pickT (.bool _) Z Z Z Z (xab Z (dR ?_))))))
 refine FQ.ret1 (v:=(.bool _)) (Bs:=[]) [] Z Z Z Zt ?_
 first | exact ⟨bT (by omega),Z⟩ | exact ⟨bF (by omega),Z⟩ | exact ⟨congrArg Value.bool (decide_eq_decide.2 (by omega)),Z⟩
 refine xmf Z (xo Z (xo Z (xo Z (xpF Z (xaf Z (dR ?_))))))
 refine FQ.ret1 (v:=(.bool false)) (Bs:=[]) [] Z Z Z Zt ?_
 first | exact ⟨bT (by omega),Z⟩ | exact ⟨bF (by omega),Z⟩ | exact ⟨congrArg Value.bool (decide_eq_decide.2 (by omega)),Z⟩
theorem zvC {x:Int} (h0:0<=x) (h1:x<=16):FnD Tryz.prog 165 [.int .u64 x] [] (.int .i64 (levI x)) []:=by
 have hl:=zyg h0 h1
 refine Fn.enter (Tryz.func165) Z Z (fun w0 R=>?_)
 refine sA (xai Z (dB (xmi Z (TL.geqF Z Z (by omega) Z Z (TL.done (TQ.then (TC.condF Z (TC.skip ?_))))))))
 refine TQ.then (sB (xmi Z (TL.geqF Z Z (by omega) Z Z (TL.done (TQ.then (TC.condF Z (TC.skip (TQ.then ?_))))))))
 refine sB (xmi Z (TL.geqF Z Z (by omega) Z Z (dF Z (xmi Z (xmi Z (TL.conv _ Z zdV zvP (wru8 (by omega)) Z Z (TL.ixS (levI x) Z Z zAB (by omega) (zAo h0 h1 (by kernel_rfl)) Z Z (TL.conv _ Z fc_u5 zaQ (wr64 (by omega)) Z Z ?_))))))))
 refine TL.add _ Z Z (wr64 (by omega)) Z Z (xai Z (dR ?_))
 refine FQ.ret1 (v:=(.int _ _)) (Bs:=[]) [] Z Z Z Zt ?_
 exact ⟨iE (by omega),Z⟩
theorem zAm {x:Int} (h0:0<=x) (h1:x<=16):FnD Tryz.prog 121 [.int .u64 x] [] (.int .i64 (levI x)) []:=by
 refine Fn.enter (Tryz.func121) Z Z (fun w0 R=>?_)
 refine sA (xai Z (dS (TC.condF Z (TC.skip (TQ.then (sA (xmi Z (xD [] (zvC (by omega) (by omega)) zzd Z ?_))))))))
 refine xai Z (dR ?_)
 refine FQ.ret1 (v:=(.int _ _)) (Bs:=[]) [] Z Z Z Zt ?_
 exact ⟨Z,Z⟩
theorem zcQ {l:Lay} (hl:l.Ok)  : FnD Tryz.prog 87 [layV l] [] (.int .i64 l.lev) []:=by
 have hb:=zei hl
 refine Fn.enter (Tryz.func87) Z Z (fun w0 R=>?_)
 refine sA (xB 0 Z (fun bk0=>(xai Z (dA (xf 0 zaH Z (xli 0 zaa Z Z (TL.conv _ Z zgp zjE (zuP (by omega)) Z Z (xD [] (zAm (by omega) (by omega)) zzo Z (xai Z ?_)))))))))
 refine dR ?_
 refine FQ.ret1 (v:=(.int _ _)) (Bs:=[]) [] Z Z Z Zt ?_
 exact ⟨Z,Z⟩
theorem zmd {l:Lay} (hl:l.Ok)  : FnD Tryz.prog 88 [layV l] [] (.int .i64 l.arcs) []:=by
 have hb:=zbJ hl
 refine Fn.enter (Tryz.func88) Z Z (fun w0 R=>?_)
 refine sA (xB 0 Z (fun bk0=>(xai Z (dA (xL3 0 zac Z Z (xD [] (zcQ hl) zgw Z (TL.mul _ Z Z (wr64 (by omega)) Z Z (xai Z (dR ?_)))))))))
 refine FQ.ret1 (v:=(.int _ _)) (Bs:=[]) [] Z Z Z Zt ?_
 exact ⟨Z,Z⟩
theorem zfi {l:Lay} (hl:l.Ok)  : FnD Tryz.prog 31 [layV l] [] (.int .i64 l.nodes) []:=by
 have hb:=zbJ hl
 refine Fn.enter (Tryz.func31) Z Z (fun w0 R=>?_)
 refine sA (xB 0 Z (fun bk0=>(xai Z (dS (TC.draw (od [1,5,7,11,13,15,2,9,16,19,21,23]) [0] fc_m (by kernel_rfl) (xL3 0 zac Z Z (xf 0 zaH Z (xli 0 zaa Z Z (xf 1 zbD Z ?_)))))))))
 refine xli 0 zaa Z Z (xL3 0 zac Z Z (xd [] (zcQ hl) zgw Z (kL1 Z Zt) (TL.mul _ Z Z (wr64 (by omega)) Z Z (xd [] (zmd hl) zpT Z (kL1 Z Zt) (TL.mul _ Z Z (wr64 (by omega)) Z Z (TL.add _ Z Z (wr64 (by omega)) Z Z (xai Z (dR ?_))))))))
 refine FQ.ret1 (v:=(.int _ _)) (Bs:=[]) [] Z Z Z Zt ?_
 exact ⟨Z,Z⟩
theorem zc6 {l:Lay} (hl:l.Ok) {i v:Int}:FnD Tryz.prog 103 [layV l,.int .i64 i,.int .i64 v] [] (.int .i64 (l.vertex i v)) []:=by
 have hb:=zbJ hl
 refine Fn.enter (Tryz.func103) Z Z (fun w0 R=>?_)
 refine sA (xB 0 Z (fun bk0=>(xai Z (dB (xmi Z (xL3 0 zac Z Z (xD [] (zcQ hl) zgw Z (xD [] zbB zdi Z (TL.casesP Z (fun q1=>?_) (fun q1=>?_))))))))))
 refine xnt Z (xmf Z (xmi Z (xf 0 zaH Z (xli 0 zaa Z Z (xD [] zbB zdi Z (TL.casesP Z (fun q2=>?_) (fun q2=>?_)))))))
 refine xnt Z (xpF Z (dF Z (xmi Z (xf 0 zaH Z (xli 0 zaa Z Z (TL.mul _ Z Z (wr64 (by have:=zef (a:=i) (A:=5) (b:=(l.V:Int)) (B:=16) (by omega) (by omega) (by omega) (by omega); omega)) Z Z (TL.add _ Z Z (wr64 (by have:=zef (a:=i) (A:=5) (b:=(l.V:Int)) (B:=16) (by omega) (by omega) (by omega) (by omega); omega)) Z Z (xmi Z ?_))))))))
 refine TL.add _ Z Z (wr64 (by have:=zef (a:=i) (A:=5) (b:=(l.V:Int)) (B:=16) (by omega) (by omega) (by omega) (by omega); omega)) Z Z (xai Z (dR ?_))
 refine FQ.ret1 (v:=(.int _ _)) (Bs:=[]) [] Z Z Z Zt ?_
 first | exact ⟨iE (by unfold Lay.vertex; rw [Zp (by omega)]),Z⟩ | exact ⟨iE (by unfold Lay.vertex; rw [Zn (by omega)]),Z⟩
 refine xnf Z (xpH Z (dT Z (xai Z (dRR ?_))))
 refine FQ.ret1 (v:=(.int _ _)) (Bs:=[]) [] Z Z Z Zt ?_
 first | exact ⟨iE (by unfold Lay.vertex; rw [Zp (by omega)]),Z⟩ | exact ⟨iE (by unfold Lay.vertex; rw [Zn (by omega)]),Z⟩
 refine xnf Z (xmt Z (xo Z (xo Z (xo Z (xo Z (xo Z (xpT Z (dT Z ?_))))))))
 refine xai Z (dRR ?_)
 refine FQ.ret1 (v:=(.int _ _)) (Bs:=[]) [] Z Z Z Zt ?_
 first | exact ⟨iE (by unfold Lay.vertex; rw [Zp (by omega)]),Z⟩ | exact ⟨iE (by unfold Lay.vertex; rw [Zn (by omega)]),Z⟩
theorem zuy {l:Lay} (hl:l.Ok) {s i d:Int}:FnD Tryz.prog 242 [layV l,.int .i64 s,.int .i64 i,.int .i64 d] [] (.int .i64 (l.arc s i d)) []:=by
 have hb:=zbJ hl
 refine Fn.enter (Tryz.func242) Z Z (fun w0 R=>?_)
 refine sA (xB 0 Z (fun bk0=>(xai Z (dB (xmi Z (xf 1 zbD Z (xli 0 zaa Z Z (xD [] zbB zdi Z (TL.casesP Z (fun q1=>?_) (fun q1=>?_))))))))))
 refine xnt Z (xmf Z (xmi Z (xL3 0 zac Z Z (xD [] (zcQ hl) zgw Z (xD [] zbB zdi Z (TL.casesP Z (fun q2=>?_) (fun q2=>?_)))))))
 refine xnt Z (xpF Z (xmf Z (xmi Z (xD [] zbB zdi Z (TL.casesP Z (fun q3=>?_) (fun q3=>?_))))))
 refine xnt Z (xpF Z (TL.done (TQ.then (TC.condF Z (TC.skip (TQ.then (TC.seq (TC.draw (od [1,5,7,13,15,23,25,29,2,9,11,16,19,21,27,31,33]) [0] fc_m (by kernel_rfl) ?_))))))))
 refine xL3 0 zac Z Z (xf 0 zaH Z (xli 0 zaa Z Z (xmi Z (xL3 0 zac Z Z (xmi Z (TL.mul _ Z Z (wr64 (by omega)) Z Z (xmi Z (xd [] (zcQ hl) zgw Z (kL1 Z Zt) ?_))))))))
 refine TL.mul _ Z Z (wr64 (by omega)) Z Z (TL.add _ Z Z (wr64 (by omega)) Z Z (xd [] (zmd hl) zpT Z (kL1 Z Zt) (TL.mul _ Z Z (wr64 (by have:=zef (a:=s) (A:=48) (b:=l.arcs) (B:=10) (by omega) (by omega) (by omega) (by omega); omega)) Z Z (TL.add _ Z Z (wr64 (by have:=zef (a:=s) (A:=48) (b:=l.arcs) (B:=10) (by omega) (by omega) (by omega) (by omega); omega)) Z Z (TL.add _ Z Z (wr64 (by have:=zef (a:=s) (A:=48) (b:=l.arcs) (B:=10) (by omega) (by omega) (by omega) (by omega); omega)) Z Z ?_)))))
 refine TL.add _ Z Z (wr64 (by have:=zef (a:=s) (A:=48) (b:=l.arcs) (B:=10) (by omega) (by omega) (by omega) (by omega); omega)) Z Z (xai Z (dR ?_))
 refine FQ.ret1 (v:=(.int _ _)) (Bs:=[]) [] Z Z Z Zt ?_
 first | exact ⟨iE (by unfold Lay.arc; rw [Zp (by omega)]),Z⟩ | exact ⟨iE (by unfold Lay.arc; rw [Zn (by omega)]),Z⟩
 refine xnf Z (xpH Z (dT Z (xai Z (dRR ?_))))
 refine FQ.ret1 (v:=(.int _ _)) (Bs:=[]) [] Z Z Z Zt ?_
 first | exact ⟨iE (by unfold Lay.arc; rw [Zp (by omega)]),Z⟩ | exact ⟨iE (by unfold Lay.arc; rw [Zn (by omega)]),Z⟩
 refine xnf Z (xpH Z (xmt Z (xo Z (xo Z (xo Z (xpT Z (dT Z (xai Z ?_))))))))
 refine dRR ?_
 refine FQ.ret1 (v:=(.int _ _)) (Bs:=[]) [] Z Z Z Zt ?_
 first | exact ⟨iE (by unfold Lay.arc; rw [Zp (by omega)]),Z⟩ | exact ⟨iE (by unfold Lay.arc; rw [Zn (by omega)]),Z⟩
 refine xnf Z (xmt Z (xo Z (xo Z (xo Z (xo Z (xo Z (xpT Z (xmt Z ?_))))))))
 refine xo Z (xo Z (xo Z (xpT Z (dT Z (xai Z (dRR ?_))))))
 refine FQ.ret1 (v:=(.int _ _)) (Bs:=[]) [] Z Z Z Zt ?_
 first | exact ⟨iE (by unfold Lay.arc; rw [Zp (by omega)]),Z⟩ | exact ⟨iE (by unfold Lay.arc; rw [Zn (by omega)]),Z⟩
theorem zlP {l:Lay} (hl:l.Ok)  : FnD Tryz.prog 137 [layV l] [] (.int .i64 l.free) []:=by
 have hb:=zbJ hl
 refine Fn.enter (Tryz.func137) Z Z (fun w0 R=>?_)
 refine sA (xB 0 Z (fun bk0=>(xai Z (dA (xf 2 ze3 Z (xli 0 zaa Z Z (xai Z (dR ?_))))))))
 refine FQ.ret1 (v:=(.int _ _)) (Bs:=[]) [] Z Z Z Zt ?_
 exact ⟨Z,Z⟩
theorem zsq {l:Lay} (hl:l.Ok) {s f:Int} (hf:0<=f/\f<=8):FnD Tryz.prog 177 [layV l,.int .i64 s,.int .i64 f] [] (.int .i64 (l.of s f)) []:=by
 have hb:=zbJ hl
 refine Fn.enter (Tryz.func177) Z Z (fun w0 R=>?_)
 refine sA (xB 0 Z (fun bk0=>(xai Z (dB (xmi Z (xf 1 zbD Z (xli 0 zaa Z Z (xD [] zbB zdi Z (TL.casesP Z (fun q1=>?_) (fun q1=>?_))))))))))
 refine xnt Z (dF Z (xL3 0 zac Z Z (xD [] (zlP hl) zl2 Z (TL.add _ Z Z (wr64 (by omega)) Z Z (xmi Z (TL.mul _ Z Z (wr64 (by omega)) Z Z (TL.add _ Z Z (wr64 (by omega)) Z Z (xmi Z ?_))))))))
 refine TL.add _ Z Z (wr64 (by omega)) Z Z (xai Z (dR ?_))
 refine FQ.ret1 (v:=(.int _ _)) (Bs:=[]) [] Z Z Z Zt ?_
 first | exact ⟨iE (by unfold Lay.of Lay.free at *; rw [Zp (by omega)]),Z⟩ | exact ⟨iE (by unfold Lay.of Lay.free at *; rw [Zn (by omega)]),Z⟩
 refine xnf Z (dT Z (xai Z (dRR ?_)))
 refine FQ.ret1 (v:=(.int _ _)) (Bs:=[]) [] Z Z Z Zt ?_
 first | exact ⟨iE (by unfold Lay.of Lay.free at *; rw [Zp (by omega)]),Z⟩ | exact ⟨iE (by unfold Lay.of Lay.free at *; rw [Zn (by omega)]),Z⟩
theorem zt1 {l:Lay} (hl:l.Ok) {s:Int}:FnD Tryz.prog 203 [layV l,.int .i64 s] [] (.int .i64 (l.ends s)) []:=by
 have hb:=zbJ hl
 refine Fn.enter (Tryz.func203) Z Z (fun w0 R=>?_)
 refine sA (xB 0 Z (fun bk0=>(xai Z (dA (xL3 0 zac Z Z (xmi Z (xD [] (zsq hl (by omega)) zjR Z (xai Z (dR ?_)))))))))
 refine FQ.ret1 (v:=(.int _ _)) (Bs:=[]) [] Z Z Z Zt ?_
 exact ⟨Z,Z⟩
theorem zlD {l:Lay} (hl:l.Ok) {s:Int}:FnD Tryz.prog 172 [layV l,.int .i64 s] [] (.int .i64 (l.level s)) []:=by
 have hb:=zbJ hl
 refine Fn.enter (Tryz.func172) Z Z (fun w0 R=>?_)
 refine sA (xB 0 Z (fun bk0=>(xai Z (dA (xL3 0 zac Z Z (xmi Z (xD [] (zsq hl (by omega)) zjR Z (xai Z (dR ?_)))))))))
 refine FQ.ret1 (v:=(.int _ _)) (Bs:=[]) [] Z Z Z Zt ?_
 exact ⟨Z,Z⟩
theorem zx8 {l:Lay} (hl:l.Ok) {s d:Int}:FnD Tryz.prog 255 [layV l,.int .i64 s,.int .i64 d] [] (.int .i64 (l.next s d)) []:=by
 have hb:=zbJ hl
 refine Fn.enter (Tryz.func255) Z Z (fun w0 R=>?_)
 refine sA (xB 0 Z (fun bk0=>(xai Z (dB (xmi Z (xD [] zbB zdi Z (TL.casesP Z (fun q1=>?_) (fun q1=>?_))))))))
 refine xnt Z (dF Z (xL3 0 zac Z Z (xmi Z (xmi Z (TL.add _ Z Z (wr64 (by omega)) Z Z (xD [] (zsq hl (by omega)) zjR Z (xai Z (dR ?_))))))))
 refine FQ.ret1 (v:=(.int _ _)) (Bs:=[]) [] Z Z Z Zt ?_
 first | exact ⟨iE (by unfold Lay.next; rw [Zp (by omega)]),rfl⟩ | exact ⟨iE (by unfold Lay.next; rw [Zn (by omega)]),rfl⟩
 refine xnf Z (dT Z (xai Z (dRR ?_)))
 refine FQ.ret1 (v:=(.int _ _)) (Bs:=[]) [] Z Z Z Zt ?_
 first | exact ⟨iE (by unfold Lay.next; rw [Zp (by omega)]),rfl⟩ | exact ⟨iE (by unfold Lay.next; rw [Zn (by omega)]),rfl⟩
theorem zxQ {l:Lay} (hl:l.Ok) {s d:Int}:FnD Tryz.prog 256 [layV l,.int .i64 s,.int .i64 d] [] (.int .i64 (l.prev s d)) []:=by
 have hb:=zbJ hl
 refine Fn.enter (Tryz.func256) Z Z (fun w0 R=>?_)
 refine sA (xB 0 Z (fun bk0=>(xai Z (dB (xmi Z (xD [] zbB zdi Z (TL.casesP Z (fun q1=>?_) (fun q1=>?_))))))))
 refine xnt Z (dF Z (xL3 0 zac Z Z (xmi Z (xmi Z (TL.add _ Z Z (wr64 (by omega)) Z Z (xD [] (zsq hl (by omega)) zjR Z (xai Z (dR ?_))))))))
 refine FQ.ret1 (v:=(.int _ _)) (Bs:=[]) [] Z Z Z Zt ?_
 first | exact ⟨iE (by unfold Lay.prev; rw [Zp (by omega)]),Z⟩ | exact ⟨iE (by unfold Lay.prev; rw [Zn (by omega)]),Z⟩
 refine xnf Z (dT Z (xai Z (dRR ?_)))
 refine FQ.ret1 (v:=(.int _ _)) (Bs:=[]) [] Z Z Z Zt ?_
 first | exact ⟨iE (by unfold Lay.prev; rw [Zp (by omega)]),Z⟩ | exact ⟨iE (by unfold Lay.prev; rw [Zn (by omega)]),Z⟩
theorem zpP {l:Lay} (hl:l.Ok)  : FnD Tryz.prog 166 [layV l] [] (.int .i64 l.heads) []:=by
 have hb:=zbJ hl
 refine Fn.enter (Tryz.func166) Z Z (fun w0 R=>?_)
 refine sA (xB 0 Z (fun bk0=>(xai Z (dS (TC.draw (od [1,7,9,11,2,5,13,15]) [0] fc_m (by kernel_rfl) (xL3 0 zac Z Z (xf 1 zbD Z (xli 0 zaa Z Z (TL.mul _ Z Z (wr64 (by omega)) Z Z ?_)))))))))
 refine xd [] (zlP hl) zl2 Z (kL1 Z Zt) (TL.add _ Z Z (wr64 (by omega)) Z Z (TL.add _ Z Z (wr64 (by omega)) Z Z (xai Z (dR ?_))))
 refine FQ.ret1 (v:=(.int _ _)) (Bs:=[]) [] Z Z Z Zt ?_
 exact ⟨Z,Z⟩
theorem zlL {l:Lay} (hl:l.Ok) {v i:Int}:FnD Tryz.prog 232 [layV l,.int .i64 v,.int .i64 i] [] (.int .i64 (l.head v i)) []:=by
 have hb:=zbJ hl
 refine Fn.enter (Tryz.func232) Z Z (fun w0 R=>?_)
 refine sA (xB 0 Z (fun bk0=>(xai Z (dB (xmi Z (xf 0 zaH Z (xli 0 zaa Z Z (xD [] zbB zdi Z (TL.casesP Z (fun q1=>?_) (fun q1=>?_))))))))))
 refine xnt Z (xmf Z (xmi Z (xL3 0 zac Z Z (xD [] (zcQ hl) zgw Z (xD [] zbB zdi Z (TL.casesP Z (fun q2=>?_) (fun q2=>?_)))))))
 refine xnt Z (xpF Z (TL.done (TQ.then (TC.condF Z (TC.skip (TQ.then (TC.seq (TC.draw (od [1,5,7,15,2,8,11,13,17,19]) [0] fc_m (by kernel_rfl) ?_))))))))
 refine xL3 0 zac Z Z (xmi Z (xL3 0 zac Z Z (xmi Z (xd [] (zpP hl) ztL Z (kL1 Z Zt) (xd [] (zcQ hl) zgw Z (kL1 Z Zt) (TL.mul _ Z Z (wr64 (by have:=zef (a:=v) (A:=16) (b:=l.lev) (B:=5) (by omega) (by omega) (by omega) (by omega); omega)) Z Z (TL.add _ Z Z (wr64 (by have:=zef (a:=v) (A:=16) (b:=l.lev) (B:=5) (by omega) (by omega) (by omega) (by omega); omega)) Z Z (TL.add _ Z Z (wr64 (by have:=zef (a:=v) (A:=16) (b:=l.lev) (B:=5) (by omega) (by omega) (by omega) (by omega); omega)) Z Z ?_))))))))
 refine xai Z (dR ?_)
 refine FQ.ret1 (v:=(.int _ _)) (Bs:=[]) [] Z Z Z Zt ?_
 first | exact ⟨iE (by unfold Lay.head; rw [Zp (by omega)]),Z⟩ | exact ⟨iE (by unfold Lay.head; rw [Zn (by omega)]),Z⟩
 refine xnf Z (xpH Z (dT Z (xai Z (dRR ?_))))
 refine FQ.ret1 (v:=(.int _ _)) (Bs:=[]) [] Z Z Z Zt ?_
 first | exact ⟨iE (by unfold Lay.head; rw [Zp (by omega)]),Z⟩ | exact ⟨iE (by unfold Lay.head; rw [Zn (by omega)]),Z⟩
 refine xnf Z (xmt Z (xo Z (xo Z (xo Z (xo Z (xo Z (xpT Z (dT Z ?_))))))))
 refine xai Z (dRR ?_)
 refine FQ.ret1 (v:=(.int _ _)) (Bs:=[]) [] Z Z Z Zt ?_
 first | exact ⟨iE (by unfold Lay.head; rw [Zp (by omega)]),Z⟩ | exact ⟨iE (by unfold Lay.head; rw [Zn (by omega)]),Z⟩
theorem zp0 {l:Lay} (hl:l.Ok)  : FnD Tryz.prog 122 [layV l] [] (.int .i64 l.edges) []:=by
 have hb:=zbJ hl
 refine Fn.enter (Tryz.func122) Z Z (fun w0 R=>?_)
 refine sA (xB 0 Z (fun bk0=>(xai Z (dS (TC.draw (od [1,5,7,9,2,10,13,15,17]) [0] fc_m (by kernel_rfl) (xL3 0 zac Z Z (xf 0 zaH Z (xli 0 zaa Z Z (xL3 0 zac Z Z ?_)))))))))
 refine xd [] (zpP hl) ztL Z (kL1 Z Zt) (xd [] (zcQ hl) zgw Z (kL1 Z Zt) (TL.mul _ Z Z (wr64 (by omega)) Z Z (TL.add _ Z Z (wr64 (by omega)) Z Z (xai Z (dR ?_)))))
 refine FQ.ret1 (v:=(.int _ _)) (Bs:=[]) [] Z Z Z Zt ?_
 exact ⟨Z,Z⟩
theorem zjZ {l:Lay} (hl:l.Ok) {a b:Int}:FnD Tryz.prog 140 [layV l,.int .i64 a,.int .i64 b] [] (.int .i64 (l.edge a b)) []:=by
 have hb:=zbJ hl
 refine Fn.enter (Tryz.func140) Z Z (fun w0 R=>?_)
 refine sA (xB 0 Z (fun bk0=>(xai Z (dA (xmi Z (xmi Z (TL.min2 Z Z Z Z (xmi Z (xmi Z ?_)))))))))
 refine TL.max2 Z Z Z Z (xai Z (xai Z (dB (xmi Z (xmi Z (TL.eql Z Z Z Z (fun q1=>?_) (fun q1=>?_)))))))
 refine xmt Z (xo Z (xo Z (xo Z (xo Z (xo Z (xpT Z (xmt Z (xo Z ?_))))))))
 refine xo Z (xo Z (xo Z (xo Z (xpT Z (dT Z (xai Z (dRR ?_)))))))
 refine FQ.ret1 (v:=(.int _ _)) (Bs:=[]) [] Z Z Z Zt ?_
 first | exact ⟨iE (by unfold Lay.edge; rw [Zn (by omega)]),Z⟩ | exact ⟨iE (by unfold Lay.edge; rw [Zp (by omega)]),Z⟩
 refine xmf Z (xmi Z (xf 0 zaH Z (xli 0 zaa Z Z (xD [] zbB zdi Z (TL.casesP Z (fun q2=>?_) (fun q2=>?_))))))
 refine xnt Z (xpF Z (xmf Z (xmi Z (xf 0 zaH Z (xli 0 zaa Z Z (xD [] zbB zdi Z (TL.casesP Z (fun q3=>?_) (fun q3=>?_))))))))
 refine xnt Z (xpF Z (TL.done (TQ.then (TC.condF Z (TC.skip (TQ.then (TC.seq (TC.draw (od [1,5,7,9,11,13,15,17,19,21,25,29,2,23,27,31,33,35]) [0] fc_m (by kernel_rfl) ?_))))))))
 refine xL3 0 zac Z Z (xmi Z (xf 0 zaH Z (xli 0 zaa Z Z (TL.mul _ Z Z (wr64 (by omega)) Z Z (xmi Z (TL.sub _ Z Z (wr64 (by omega)) Z Z (TL.sub _ Z Z (wr64 (by omega)) Z Z (TL.mul _ Z Z (wr64 (by have h9:=zgM (x:=min a b) (V:=(l.V:Int)) (by omega) (by omega) (by omega); omega)) Z Z ?_))))))))
 refine TL.quo _ Z Z (by omega) (zrW (by have h9:=zgM (x:=min a b) (V:=(l.V:Int)) (by omega) (by omega) (by omega); omega) (by omega) (by have h9:=zgM (x:=min a b) (V:=(l.V:Int)) (by omega) (by omega) (by omega); omega)) Z Z (xmi Z (xmi Z (xd [] (zp0 hl) ztS Z (kL1 Z Zt) (TL.add _ Z Z (wr64 (by have h9:=zgM (x:=min a b) (V:=(l.V:Int)) (by omega) (by omega) (by omega); omega)) Z Z (TL.add _ Z Z (wr64 (by have h9:=zgM (x:=min a b) (V:=(l.V:Int)) (by omega) (by omega) (by omega); omega)) Z Z ?_)))))
 refine TL.sub _ Z Z (wr64 (by have h9:=zgM (x:=min a b) (V:=(l.V:Int)) (by omega) (by omega) (by omega); omega)) Z Z (TL.sub _ Z Z (wr64 (by have h9:=zgM (x:=min a b) (V:=(l.V:Int)) (by omega) (by omega) (by omega); omega)) Z Z (xai Z (dR ?_)))
 refine FQ.ret1 (v:=(.int _ _)) (Bs:=[]) [] Z Z Z Zt ?_
 first | exact ⟨iE (by unfold Lay.edge; rw [Zn (by omega)]),Z⟩ | exact ⟨iE (by unfold Lay.edge; rw [Zp (by omega)]),Z⟩
 refine xnf Z (xpH Z (dT Z (xai Z (dRR ?_))))
 refine FQ.ret1 (v:=(.int _ _)) (Bs:=[]) [] Z Z Z Zt ?_
 first | exact ⟨iE (by unfold Lay.edge; rw [Zn (by omega)]),Z⟩ | exact ⟨iE (by unfold Lay.edge; rw [Zp (by omega)]),Z⟩
 refine xnf Z (xpH Z (xmt Z (xo Z (xo Z (xo Z (xo Z (xo Z (xpT Z ?_))))))))
 refine dT Z (xai Z (dRR ?_))
 refine FQ.ret1 (v:=(.int _ _)) (Bs:=[]) [] Z Z Z Zt ?_
 first | exact ⟨iE (by unfold Lay.edge; rw [Zn (by omega)]),Z⟩ | exact ⟨iE (by unfold Lay.edge; rw [Zp (by omega)]),Z⟩
theorem zuv {l:Lay} (hl:l.Ok)  : FnD Tryz.prog 90 [layV l] [] (.int .i64 l.base) []:=by
 have hb:=zbJ hl
 refine Fn.enter (Tryz.func90) Z Z (fun w0 R=>?_)
 refine sA (xB 0 Z (fun bk0=>(xai Z (dS (TC.draw (od [1,5,7,9,11,13,15,17,2,19,21]) [0] fc_m (by kernel_rfl) (xL3 0 zac Z Z (xf 0 zaH Z (xli 0 zaa Z Z (xf 0 zaH Z ?_)))))))))
 refine xli 0 zaa Z Z (TL.sub _ Z Z (wr64 (by omega)) Z Z (TL.mul _ Z Z (wr64 (by omega)) Z Z (TL.quo _ Z Z (by omega) (zrW (by omega) (by omega) (by omega)) Z Z (xd [] (zp0 hl) ztS Z (kL1 Z Zt) (TL.add _ Z Z (wr64 (by omega)) Z Z (xai Z (dR ?_)))))))
 refine FQ.ret1 (v:=(.int _ _)) (Bs:=[]) [] Z Z Z Zt ?_
 exact ⟨Z,Z⟩
theorem zba {l:Lay} (hl:l.Ok) {x f:Int}:FnD Tryz.prog 35 [layV l,.int .i64 x,.int .i64 f] [] (.int .i64 (l.field x f)) []:=by
 have hb:=zbJ hl
 refine Fn.enter (Tryz.func35) Z Z (fun w0 R=>?_)
 refine sA (xB 0 Z (fun bk0=>(xai Z (dB (xmi Z (TL.sub _ Z Z (Z) Z Z (xL3 0 zac Z Z (xD [] (zfi hl) zjL Z (xD [] zbB zdi Z ?_)))))))))
 refine TL.casesP Z (fun q1=>?_) (fun q1=>?_)
 refine xnt Z (xmf Z (xmi Z (xD [] zbB zdi Z (TL.casesP Z (fun q2=>?_) (fun q2=>?_)))))
 refine xnt Z (xpF Z (dF Z (xL3 0 zac Z Z (xD [] (zuv hl) zwX Z (xmi Z (TL.sub _ Z Z (Z) Z Z (TL.mul _ Z Z (wr64 (by omega)) Z Z (TL.add _ Z Z (wr64 (by omega)) Z Z ?_))))))))
 refine xmi Z (TL.add _ Z Z (wr64 (by omega)) Z Z (xai Z (dR ?_)))
 refine FQ.ret1 (v:=(.int _ _)) (Bs:=[]) [] Z Z Z Zt ?_
 first | exact ⟨iE (by unfold Lay.field; rw [Zp (by omega)]),Z⟩ | exact ⟨iE (by unfold Lay.field; rw [Zn (by omega)]),Z⟩
 refine xnf Z (xpH Z (dT Z (xai Z (dRR ?_))))
 refine FQ.ret1 (v:=(.int _ _)) (Bs:=[]) [] Z Z Z Zt ?_
 first | exact ⟨iE (by unfold Lay.field; rw [Zp (by omega)]),Z⟩ | exact ⟨iE (by unfold Lay.field; rw [Zn (by omega)]),Z⟩
 refine xnf Z (xmt Z (xo Z (xo Z (xo Z (xpT Z (dT Z (xai Z (dRR ?_))))))))
 refine FQ.ret1 (v:=(.int _ _)) (Bs:=[]) [] Z Z Z Zt ?_
 first | exact ⟨iE (by unfold Lay.field; rw [Zp (by omega)]),Z⟩ | exact ⟨iE (by unfold Lay.field; rw [Zn (by omega)]),Z⟩
theorem zv4 {l:Lay} (hl:l.Ok)  : FnD Tryz.prog 91 [layV l] [] (.int .i64 l.cells) []:=by
 have hb:=zbJ hl
 refine Fn.enter (Tryz.func91) Z Z (fun w0 R=>?_)
 refine sA (xB 0 Z (fun bk0=>(xai Z (dS (TC.draw (od [1,5,2,6,9,11,13]) [0] fc_m (by kernel_rfl) (xL3 0 zac Z Z (xL3 0 zac Z Z (xd [] (zuv hl) zwX Z (kL1 Z Zt) (xd [] (zfi hl) zjL Z (kL1 Z Zt) ?_)))))))))
 refine TL.mul _ Z Z (wr64 (by omega)) Z Z (TL.add _ Z Z (wr64 (by omega)) Z Z (xai Z (dR ?_)))
 refine FQ.ret1 (v:=(.int _ _)) (Bs:=[]) [] Z Z Z Zt ?_
 exact ⟨Z,Z⟩
theorem zhL {l:Lay} (hl:l.Ok) {x:Int}:FnD Tryz.prog 32 [layV l,.int .i64 x] [] (.tuple #[zzW (l.node x).1,.bool (l.node x).2]) []:=by
 have hb:=zbJ hl
 refine Fn.enter (Tryz.func32) Z Z (fun w0 R=>?_)
 refine sA (xB 0 Z (fun bk0=>(TL.alloc 1 (cs:=#[.bool false,.int .i64 0,.int .i64 0,.int .i64 0,.int .i64 0]) zgu Z Z Z (fun _=>Zt) (fun bk1=>(xaf Z (dB (xmi Z (TL.sub _ Z Z (Z) Z Z (xL3 0 zac Z Z (xD [] (zfi hl) zjL Z ?_))))))))))
 refine xD [] zbB zdi Z (TL.casesP Z (fun q1=>?_) (fun q1=>?_))
 refine xnt Z (dF Z (xmi Z (TL.sub _ Z Z (Z) Z Z (xai Z (dS (TC.draw (od [1,5,7,2,9,11]) [0] fc_m (by kernel_rfl) (xL3 0 zac Z Z (xf 0 zaH Z ?_))))))))
 refine xli 0 zaa Z Z (xd [] (zcQ hl) zgw Z (kL1 Z Zt) (TL.mul _ Z Z (wr64 (by omega)) Z Z (xai Z (dB (xmi Z (xmi Z (TL.lss Z Z Z Z (fun q2=>?_) (fun q2=>?_))))))))
 refine TL.done (TQ.then (TC.condT Z (TC.seq (TC.draw (od [1,3,5,7,9,11,13,15,17,18,21]) [0] fc_m (by kernel_rfl) (xmi Z (xf 0 zaH Z (xli 0 zaa Z Z (TL.quo _ Z Z (by omega) (zrW (by omega) (by omega) (by omega)) Z Z ?_))))))))
 refine xmi Z (xf 0 zaH Z (xli 0 zaa Z Z (TL.rem _ Z Z (by omega) (znS (by omega)) Z Z (TL.bld [.bool false,.int .i64 0,.int .i64 0,.int .i64 0,.int .i64 0] [(.int _ _),(.int _ _)] [_,_,_,_,_] zgu ztb ⟨Z,Z,Zt⟩ ⟨Z,Z⟩ Z Z (TL.stW 1 5 [_,_,_,_,_] Z Z Z Z Z Z zcT Z Z (kL1 Z Zt) (xat Z (dRR ?_)))))))
 refine FQ.retG (rs:=[.cell 4 59,.tmp 5]) [(.agg _),(.bool true)] (Bs:=[]) [] Z ⟨⟨_,_,_,_,_,1,Z,Z,.inr ⟨5,[_,_,_,_,_],zcT,Z,Z⟩⟩,Z,Zt⟩ Z Z Zt ?_
 first | exact ⟨by unfold Lay.node; simp only []; rw [Zn (by omega)]; rfl,Z⟩ | exact ⟨by unfold Lay.node; simp only []; rw [Zp (by omega),Zp (by omega)]; rfl,Z⟩ | exact ⟨by unfold Lay.node; simp only []; rw [Zp (by omega),Zn (by omega)]; rfl,Z⟩
 refine dF Z (xmi Z (xmi Z (TL.sub _ Z Z (wr64 (by omega)) Z Z (xai Z (dS (TC.draw (od [1,3,9,11,19,21,4,7,12,15,17,23,24,27]) [0] fc_m (by kernel_rfl) (xmi Z (xL3 0 zac Z Z ?_))))))))
 refine xmi Z (xL3 0 zac Z Z (xmi Z (TL.rem _ Z Z (by omega) (znS (by omega)) Z Z (xd [] (zmd hl) zpT Z (kL1 Z Zt) (TL.quo _ Z Z (by omega) (zrW (by omega) (by omega) (by omega)) Z Z (xd [] (zmd hl) zpT Z (kL1 Z Zt) (TL.rem _ Z Z (by omega) (znS (by omega)) Z Z (TL.quo _ Z Z (by omega) (zrW (Int.emod_nonneg _ (by omega)) (by omega) (by have:=Int.emod_lt_of_pos (IntKind.i64.wrap (x - 1) - l.lev * l.V) (b:=l.arcs) (by omega); omega)) Z Z ?_))))))))
 refine TL.bld [.bool false,.int .i64 0,.int .i64 0,.int .i64 0,.int .i64 0] [(.bool true),(.int _ _),(.int _ _),(.int _ _)] [_,_,_,_,_] zgu ztb ⟨Z,Z,Z,Z,Zt⟩ ⟨Z,Z⟩ Z Z (TL.stW 1 5 [_,_,_,_,_] Z Z Z Z Z Z zcT Z Z (kL1 Z Zt) (xat Z (dR ?_)))
 refine FQ.retG (rs:=[.cell 4 59,.tmp 5]) [(.agg _),(.bool true)] (Bs:=[]) [] Z ⟨⟨_,_,_,_,_,1,Z,Z,.inr ⟨5,[_,_,_,_,_],zcT,Z,Z⟩⟩,Z,Zt⟩ Z Z Zt ?_
 first | exact ⟨by unfold Lay.node; simp only []; rw [Zn (by omega)]; rfl,Z⟩ | exact ⟨by unfold Lay.node; simp only []; rw [Zp (by omega),Zp (by omega)]; rfl,Z⟩ | exact ⟨by unfold Lay.node; simp only []; rw [Zp (by omega),Zn (by omega)]; rfl,Z⟩
 refine xnf Z (dT Z (TL.bld [.bool false,.int .i64 0,.int .i64 0,.int .i64 0,.int .i64 0] [] [_,_,_,_,_] zgu ztb Zt ⟨Z,Z⟩ Z Z (TL.stW 1 5 [_,_,_,_,_] Z Z Z Z Z Z zcT Z Z Zt (xaf Z (dRR ?_)))))
 refine FQ.retG (rs:=[.cell 4 59,.tmp 5]) [(.agg _),(.bool false)] (Bs:=[]) [] Z ⟨⟨_,_,_,_,_,1,Z,Z,.inr ⟨5,[_,_,_,_,_],zcT,Z,Z⟩⟩,Z,Zt⟩ Z Z Zt ?_
 first | exact ⟨by unfold Lay.node; simp only []; rw [Zn (by omega)]; rfl,Z⟩ | exact ⟨by unfold Lay.node; simp only []; rw [Zp (by omega),Zp (by omega)]; rfl,Z⟩ | exact ⟨by unfold Lay.node; simp only []; rw [Zp (by omega),Zn (by omega)]; rfl,Z⟩
theorem zeM {n m:Int}:FnD Tryz.prog 253 [.int .i64 n,.int .i64 m] [] (.bool (decide (0<=n/\n<=m))) []:=by
 refine Fn.enter (Tryz.func253) Z Z (fun w0 R=>?_)
 refine sA (xaf Z (dA (xmi Z (TL.geq Z Z Z Z (fun q1=>?_) (fun q1=>?_)))))
 refine xmt Z (xmi Z (xmi Z (TL.leqV Z Z Z Z (TL.pickT (.bool _) Z Z Z Z (xab Z (dR ?_))))))
 refine FQ.ret1 (v:=(.bool _)) (Bs:=[]) [] Z Z Z Zt ?_
 first | exact ⟨bT (by omega),Z⟩ | exact ⟨bF (by omega),Z⟩ | exact ⟨congrArg Value.bool (decide_eq_decide.2 (by omega)),Z⟩
 refine xmf Z (xo Z (xo Z (xo Z (xpF Z (xaf Z (dR ?_))))))
 refine FQ.ret1 (v:=(.bool false)) (Bs:=[]) [] Z Z Z Zt ?_
 first | exact ⟨bT (by omega),Z⟩ | exact ⟨bF (by omega),Z⟩ | exact ⟨congrArg Value.bool (decide_eq_decide.2 (by omega)),Z⟩
theorem zsi {o m t g:Int}:FnD Tryz.prog 254 [.agg #[.int .i64 o,.int .i64 m,.int .i64 t,.int .i64 g]] [] (.bool (decide (t=0))) []:=by
 refine Fn.enter (Tryz.func254) Z Z (fun w0 R=>?_)
 refine sA (xB 0 Z (fun bk0=>(xaf Z (dA (xf 2 zfs Z (xli 0 zaa Z Z (TL.eqlV Z Z Z Z (xab Z (dR ?_)))))))))
 refine FQ.ret1 (v:=(.bool _)) (Bs:=[]) [] Z Z Z Zt ?_
 exact ⟨Z,Z⟩
theorem zmi {o m t g:Int}:FnD Tryz.prog 228 [.agg #[.int .i64 o,.int .i64 m,.int .i64 t,.int .i64 g]] [] (.bool (⟨o,m,t,g⟩:Wd).right) []:=by
 refine Fn.enter (Tryz.func228) Z Z (fun w0 R=>?_)
 refine sA (xB 0 Z (fun bk0=>(xaf Z (dB (xf 0 zcd Z (xli 0 zaa Z Z (xD [] zeM zh2 Z (TL.casesP Z (fun q1=>?_) (fun q1=>?_)))))))))
 refine xnt Z (xmf Z (xf 1 zcz Z (xli 0 zaa Z Z (xD [] zeM zh2 Z (TL.casesP Z (fun q2=>?_) (fun q2=>?_))))))
 refine xnt Z (xpF Z (xmf Z (xf 2 zfs Z (xli 0 zaa Z Z (xD [] zeM zh2 Z (TL.casesP Z (fun q3=>?_) (fun q3=>?_)))))))
 refine xnt Z (xpF Z (xmf Z (xf 3 zfr Z (xli 0 zaa Z Z (xD [] zeM zh2 Z (TL.casesP Z (fun q4=>?_) (fun q4=>?_)))))))
 refine xnt Z (xpF Z (dF Z (xL4 0 zaF Z Z (xD [] zsi zyS Z (TL.casesP Z (fun q5=>?_) (fun q5=>?_))))))
 refine xnt Z (xmf Z (xf 0 zcd Z (xli 0 zaa Z Z (xf 1 zcz Z (xli 0 zaa Z Z (TL.eql Z Z Z Z (fun q6=>?_) (fun q6=>?_)))))))
 refine xmt Z (xf 3 zfr Z (xli 0 zaa Z Z (TL.eqlV Z Z Z Z (TL.pickT (.bool _) Z Z Z Z (TL.pickF (.bool _) Z Z Z Z (xab Z (dR ?_)))))))
 refine FQ.ret1 (v:=(.bool _)) (Bs:=[]) [] Z Z Z Zt ?_
 exact ⟨congrArg Value.bool (by simp [Wd.right, *]),Z⟩
 refine xmf Z (xo Z (xo Z (xo Z (xpF Z (xpF Z (xaf Z (dR ?_)))))))
 refine FQ.ret1 (v:=(.bool false)) (Bs:=[]) [] Z Z Z Zt ?_
 exact ⟨congrArg Value.bool (by simp [Wd.right, *]),Z⟩
 refine xnf Z (xmt Z (xo Z (xo Z (xo Z (xo Z (xo Z (xo Z (xo Z ?_))))))))
 refine xo Z (xo Z (xo Z (xpT Z (xat Z (dR ?_)))))
 refine FQ.ret1 (v:=(.bool true)) (Bs:=[]) [] Z Z Z Zt ?_
 exact ⟨congrArg Value.bool (by simp [Wd.right, *]),Z⟩
 refine xnf Z (xpH Z (dT Z (xaf Z (dRR ?_))))
 refine FQ.ret1 (v:=(.bool false)) (Bs:=[]) [] Z Z Z Zt ?_
 exact ⟨congrArg Value.bool (by simp [Wd.right, *]),Z⟩
 refine xnf Z (xpH Z (xmt Z (xo Z (xo Z (xo Z (xo Z (xpT Z (dT Z ?_))))))))
 refine xaf Z (dRR ?_)
 refine FQ.ret1 (v:=(.bool false)) (Bs:=[]) [] Z Z Z Zt ?_
 exact ⟨congrArg Value.bool (by simp [Wd.right, *]),Z⟩
 refine xnf Z (xpH Z (xmt Z (xo Z (xo Z (xo Z (xo Z (xpT Z (xmt Z ?_))))))))
 refine xo Z (xo Z (xo Z (xo Z (xpT Z (dT Z (xaf Z (dRR ?_)))))))
 refine FQ.ret1 (v:=(.bool false)) (Bs:=[]) [] Z Z Z Zt ?_
 exact ⟨congrArg Value.bool (by simp [Wd.right, *]),Z⟩
 refine xnf Z (xmt Z (xo Z (xo Z (xo Z (xo Z (xpT Z (xmt Z (xo Z ?_))))))))
 refine xo Z (xo Z (xo Z (xpT Z (xmt Z (xo Z (xo Z (xo Z (xo Z ?_))))))))
 refine xpT Z (dT Z (xaf Z (dRR ?_)))
 refine FQ.ret1 (v:=(.bool false)) (Bs:=[]) [] Z Z Z Zt ?_
 exact ⟨congrArg Value.bool (by simp [Wd.right, *]),Z⟩
theorem zln {o m t g:Int}:FnD Tryz.prog 222 [.agg #[.int .i64 o,.int .i64 m,.int .i64 t,.int .i64 g]] [] (.tuple #[.int .u64 (if (⟨o,m,t,g⟩:Wd).right then (⟨o,m,t,g⟩:Wd).pack else 0),.int .i64 (if (⟨o,m,t,g⟩:Wd).right then 0 else 11)]) []:=by
 refine Fn.enter (Tryz.func222) Z Z (fun w0 R=>?_)
 refine sA (xB 0 rfl (fun bk0=>(xai rfl (xai rfl (dB (xL4 0 zaF rfl rfl (xD [] zmi ztr rfl (TL.cases rfl (fun q1=>?_) (fun q1=>?_)))))))))
 refine xnt Z (dF Z (xf 1 zcz Z (xli 0 zaa Z Z (TL.conv _ Z zgp zbs (Z) Z Z (xf 0 zcd Z (xli 0 zaa Z Z (TL.conv _ Z zgp zbs (Z) Z Z (TL.shl _ Z Z (by decide) Z Z Z ?_))))))))
 refine TL.or _ Z Z Z Z Z (xf 2 zfs Z (xli 0 zaa Z Z (TL.conv _ Z zgp zbs (Z) Z Z (TL.shl _ Z Z (by decide) Z Z Z (TL.or _ Z Z Z Z Z (xf 3 zfr Z (xli 0 zaa Z Z (TL.conv _ Z zgp zbs (Z) Z Z ?_))))))))
 refine TL.shl _ Z Z (by decide) Z Z Z (TL.or _ Z Z Z Z Z (xai Z (xai Z (dR ?_))))
 refine FQ.ret2 (v:=(.int _ _)) (x:=(.int _ _)) (Bs:=[]) [] Z Z Z Z Zt ?_
 exact ⟨by simp only [*,if_true,Bool.false_eq_true,if_false]<;>rfl,Z⟩
 refine xnf Z (dT Z (xai Z (xai Z (dRR ?_))))
 refine FQ.ret2 (v:=(.int _ _)) (x:=(.int _ _)) (Bs:=[]) [] Z Z Z Z Zt ?_
 exact ⟨by simp only [*,if_true,Bool.false_eq_true,if_false]<;>rfl,Z⟩
theorem zoJ {v a n:Int} (ha:0<=a) (hn:0<=n):FnD Tryz.prog 227 [.int .u64 v,.int .i64 a,.int .i64 n] [] (.int .i64 (zkf v a n)) []:=by
 refine Fn.enter (Tryz.func227) Z Z (fun w0 R=>?_)
 refine sA (xai Z (dS (TC.draw (od [1,3,5,7,9,11,13,15,17]) [] fc_m (by kernel_rfl) (xmi Z (xmi Z (TL.shr _ Z Z (by omega) Z Z Z (xmi Z (TL.shl _ Z Z (by omega) Z Z Z ?_))))))))
 refine TL.sub _ Z Z (Z) Z Z (TL.and _ Z Z Z Z Z (TL.conv _ Z zdV zaQ (Z) Z Z (xai Z (dR ?_))))
 refine FQ.ret1 (v:=(.int _ _)) (Bs:=[]) [] Z Z Z Zt ?_
 exact ⟨iE (by unfold zkf andU shrU shlU; rw [Int.one_mul]),Z⟩
theorem zdG {v:Int}:FnD Tryz.prog 195 [.int .u64 v] [] (.tuple #[wdV (zae v).1,.int .i64 (if (zae v).2 then 0 else 21)]) []:=by
 refine Fn.enter (Tryz.func195) Z Z (fun w0 R=>?_)
 refine sA (TL.alloc 0 (cs:=#[.int .i64 0,.int .i64 0,.int .i64 0,.int .i64 0]) zca Z Z Z (fun _=>Zt) (fun bk0=>(xai Z (dA (xmi Z (xD [] (zoJ (by decide) (by decide)) zot Z (xmi Z (xD [] (zoJ (by decide) (by decide)) zot Z (xmi Z ?_)))))))))
 refine xD [] (zoJ (by decide) (by decide)) zot Z (xmi Z (TL.shr _ Z Z (by decide) Z Z Z (TL.conv _ Z zdV zaQ (Z) Z Z (TL.bld [.int .i64 0,.int .i64 0,.int .i64 0,.int .i64 0] [(.int _ _),(.int _ _),(.int _ _),(.int _ _)] [_,_,_,_] zca zhU ⟨Z,Z,Z,Z,Zt⟩ ⟨Z,Z⟩ Z Z (TL.alloc 1 (cs:=#[.int .i64 0,.int .i64 0,.int .i64 0,.int .i64 0]) zca Z Z Z (fun _=>Zt) (fun bk1=>(TL.stW 1 4 [_,_,_,_] Z Z Z Z Z Z zaF Z Z Zt (dB (xL4 1 zaF Z Z ?_)))))))))
 refine xD [] zmi ztr rfl (TL.cases rfl (fun q1=>?_) (fun q1=>?_))
 refine xnt Z (dF Z (xL4 1 zaF Z Z (TL.stW 0 4 [_,_,_,_] Z Z Z Z Z Z zaF Z Z Zt (xai Z (dR ?_)))))
 refine FQ.retG (rs:=[.cell 2 260,.tmp 3]) [(.agg _),(.int _ _)] (Bs:=[]) [] Z ⟨⟨_,_,_,_,_,0,Z,Z,.inr ⟨4,[_,_,_,_],zaF,Z,Z⟩⟩,Z,Zt⟩ Z Z Zt ?_
 first | exact ⟨(by have q:(zc7 v).right=true:=‹(zc7 v).right=true›; simp only [zae,q,if_true]; rfl),Z⟩ | exact ⟨(by have q:(zc7 v).right=false:=‹(zc7 v).right=false›; simp only [zae,q,Bool.false_eq_true,if_false]; rfl),Z⟩
 refine xnf Z (dT Z (TL.bld [.int .i64 0,.int .i64 0,.int .i64 0,.int .i64 0] [] [_,_,_,_] zca zhU Zt ⟨Z,Z⟩ Z Z (TL.stW 0 4 [_,_,_,_] Z Z Z Z Z Z zaF Z Z Zt (xai Z (dRR ?_)))))
 refine FQ.retG (rs:=[.cell 2 260,.tmp 3]) [(.agg _),(.int _ _)] (Bs:=[]) [] Z ⟨⟨_,_,_,_,_,0,Z,Z,.inr ⟨4,[_,_,_,_],zaF,Z,Z⟩⟩,Z,Zt⟩ Z Z Zt ?_
 first | exact ⟨(by have q:(zc7 v).right=true:=‹(zc7 v).right=true›; simp only [zae,q,if_true]; rfl),Z⟩ | exact ⟨(by have q:(zc7 v).right=false:=‹(zc7 v).right=false›; simp only [zae,q,Bool.false_eq_true,if_false]; rfl),Z⟩
theorem zmh {p:Pen} {x o m t g:Int} {b1 b2:Nat}:FnD Tryz.prog 229 [.agg #[.int .i64 o,.int .i64 m,.int .i64 t,.int .i64 g],.pointer (some ⟨b1,0,none⟩),.pointer (some ⟨b2,0,none⟩)] [pt b1 (.cells #[.int .i64 p.thread,.int .i64 p.tag] 137),pt b2 (.cells #[.int .i64 x] 3)] (wdV (p.to x (⟨o,m,t,g⟩:Wd))) [pt b1 (.cells #[.int .i64 p.thread,.int .i64 p.tag] 137),pt b2 (.cells #[.int .i64 x] 3)]:=by
 refine Fn.enter (Tryz.func229) Z Z (fun w0 R=>?_)
 refine sA (xB 2 Z (fun bk2=>(TL.alloc 3 (cs:=#[.int .i64 0,.int .i64 0,.int .i64 0,.int .i64 0]) zca Z Z Z (fun _=>Zt) (fun bk3=>(dB (xf 2 zfs Z (xli 2 zaa Z Z (xf 0 zdB Z (xli 0 zaa Z Z (TL.neq Z Z Z Z (fun q1=>?_) (fun q1=>?_)))))))))))
 refine xmt Z (xo Z (xo Z (xo Z (xo Z (xo Z (xpT Z (TL.done (TQ.then ?_))))))))
 refine TC.condT Z (TC.region (xf 1 zcz Z (xli 2 zaa Z Z (xf 0 zcd Z (TL.st 2 #[_,_,_,_] (.int _ _) Z Z Z Z Z Z zaa Z Z Zt (dA (xf 0 zcd Z (xli 2 zaa Z Z ?_))))))))
 refine xli 1 zaa Z Z (xf 0 zdB Z (xli 0 zaa Z Z (xf 1 zdA Z (xli 0 zaa Z Z (TL.bld [.int .i64 0,.int .i64 0,.int .i64 0,.int .i64 0] [(.int _ _),(.int _ _),(.int _ _),(.int _ _)] [_,_,_,_] zca zhU ⟨Z,Z,Z,Z,Zt⟩ ⟨Z,Z⟩ Z Z (TL.stW 3 4 [_,_,_,_] Z Z Z Z Z Z zaF Z Z Zt (dR ?_)))))))
 refine FQ.retG (rs:=[.cell 4 260]) [(.agg _)] (Bs:=[pt b1 (.cells #[.int .i64 p.thread,.int .i64 p.tag] 137),pt b2 (.cells #[.int .i64 x] 3)]) [0,1] Z ⟨⟨_,_,_,_,_,3,Z,Z,.inr ⟨4,[_,_,_,_],zaF,Z,Z⟩⟩,Zt⟩ Z Z ⟨Z,Z,Zt⟩ ?_
 first | exact ⟨(by unfold Pen.to; dsimp only; rw [Zp (by omega)]; rfl),Z⟩ | exact ⟨(by unfold Pen.to; dsimp only; rw [Zn (by omega)]; rfl),Z⟩
 refine xmf Z (xf 3 zfr Z (xli 2 zaa Z Z (xf 1 zdA Z (xli 0 zaa Z Z (TL.neq Z Z Z Z (fun q2=>?_) (fun q2=>?_))))))
 refine xpH Z (TL.done (TQ.then (TC.condT Z (TC.region (xf 1 zcz Z (xli 2 zaa Z Z (xf 0 zcd Z (TL.st 2 #[_,_,_,_] (.int _ _) Z Z Z Z Z Z zaa Z Z Zt ?_))))))))
 refine dA (xf 0 zcd Z (xli 2 zaa Z Z (xli 1 zaa Z Z (xf 0 zdB Z (xli 0 zaa Z Z (xf 1 zdA Z (xli 0 zaa Z Z (TL.bld [.int .i64 0,.int .i64 0,.int .i64 0,.int .i64 0] [(.int _ _),(.int _ _),(.int _ _),(.int _ _)] [_,_,_,_] zca zhU ⟨Z,Z,Z,Z,Zt⟩ ⟨Z,Z⟩ Z Z ?_))))))))
 refine TL.stW 3 4 [_,_,_,_] Z Z Z Z Z Z zaF Z Z Zt (dR ?_)
 refine FQ.retG (rs:=[.cell 4 260]) [(.agg _)] (Bs:=[pt b1 (.cells #[.int .i64 p.thread,.int .i64 p.tag] 137),pt b2 (.cells #[.int .i64 x] 3)]) [0,1] Z ⟨⟨_,_,_,_,_,3,Z,Z,.inr ⟨4,[_,_,_,_],zaF,Z,Z⟩⟩,Zt⟩ Z Z ⟨Z,Z,Zt⟩ ?_
 first | exact ⟨(by unfold Pen.to; dsimp only; rw [Zp (by omega)]; rfl),Z⟩ | exact ⟨(by unfold Pen.to; dsimp only; rw [Zn (by omega)]; rfl),Z⟩
 refine xpF Z (dF Z (xf 0 zcd Z (xli 2 zaa Z Z (xli 1 zaa Z Z (xf 0 zdB Z (xli 0 zaa Z Z (xf 1 zdA Z (xli 0 zaa Z Z ?_))))))))
 refine TL.bld [.int .i64 0,.int .i64 0,.int .i64 0,.int .i64 0] [(.int _ _),(.int _ _),(.int _ _),(.int _ _)] [_,_,_,_] zca zhU ⟨Z,Z,Z,Z,Zt⟩ ⟨Z,Z⟩ Z Z (TL.stW 3 4 [_,_,_,_] Z Z Z Z Z Z zaF Z Z Zt (dR ?_))
 refine FQ.retG (rs:=[.cell 4 260]) [(.agg _)] (Bs:=[pt b1 (.cells #[.int .i64 p.thread,.int .i64 p.tag] 137),pt b2 (.cells #[.int .i64 x] 3)]) [0,1] Z ⟨⟨_,_,_,_,_,3,Z,Z,.inr ⟨4,[_,_,_,_],zaF,Z,Z⟩⟩,Zt⟩ Z Z ⟨Z,Z,Zt⟩ ?_
 first | exact ⟨(by unfold Pen.to; dsimp only; rw [Zp (by omega)]; rfl),Z⟩ | exact ⟨(by unfold Pen.to; dsimp only; rw [Zn (by omega)]; rfl),Z⟩
theorem zuk {S:Type} [MemLike S] {mt:TypeId} {mv:Value} {A:S->Assn} (hM:MemI Tryz.prog mt mv A) {σ:S} {p:Pen} {c x:Int} {b1 b2:Nat} (h:(zae (MemLike.get σ c)).2=false) (hz:Room (2) σ:=by exact zaB):FnD Tryz.prog 187 [.iface mt mv,.int .i64 c,.func (.func 229) #[] #[.pointer (some ⟨b1,0,none⟩),.pointer (some ⟨b2,0,none⟩)]] [A σ,pt b1 (.cells #[.int .i64 p.thread,.int .i64 p.tag] 137),pt b2 (.cells #[.int .i64 x] 3)] (.tuple #[]) [A (MemLike.ld σ c),pt b1 (.cells #[.int .i64 p.thread,.int .i64 p.tag] 137),pt b2 (.cells #[.int .i64 x] 3)]:=by
 refine Fn.enter (Tryz.func187) Z Z (fun w0 R=>?_)
 refine sA (xmc Z (xmi Z (TL.mload 0 hM Z Z Z Z Z Zt (xD [] zdG zfW Z (xmu Z (TL.ext (.agg _) Z Z Z Z (xei Z Z (TL.alloc 3 (cs:=#[.int .i64 0,.int .i64 0,.int .i64 0,.int .i64 0]) zca Z Z Z (fun _=>Zt) (fun bk3=>?_)))))))))
 refine TL.stW 3 4 [_,_,_,_] Z Z Z Z Z Z zaF Z Z Zt (xai Z (dB (xmi Z (TL.neqT Z Z (by rw [h]; decide) Z Z (TL.done (TQ.then (TC.condT Z (TC.ret ?_))))))))
 refine TQ.thenRet ?_
 refine FQ.ret0 (Bs:=[A (MemLike.ld σ c),pt b1 (.cells #[.int .i64 p.thread,.int .i64 p.tag] 137),pt b2 (.cells #[.int .i64 x] 3)]) [0,1,2] Z Z ⟨Z,Z,Z,Zt⟩ ?_
 exact ⟨Z,Z⟩
theorem zuj {S:Type} [MemLike S] {mt:TypeId} {mv:Value} {A:S->Assn} (hM:MemI Tryz.prog mt mv A) {σ:S} {p:Pen} {c x:Int} {b1 b2:Nat} (h:(zae (MemLike.get σ c)).2=true) (h2:(p.to x (zae (MemLike.get σ c)).1).right=false) (hz:Room (2) σ:=by exact zaB):FnD Tryz.prog 187 [.iface mt mv,.int .i64 c,.func (.func 229) #[] #[.pointer (some ⟨b1,0,none⟩),.pointer (some ⟨b2,0,none⟩)]] [A σ,pt b1 (.cells #[.int .i64 p.thread,.int .i64 p.tag] 137),pt b2 (.cells #[.int .i64 x] 3)] (.tuple #[]) [A (MemLike.ld σ c),pt b1 (.cells #[.int .i64 p.thread,.int .i64 p.tag] 137),pt b2 (.cells #[.int .i64 x] 3)]:=by
 refine Fn.enter (Tryz.func187) Z Z (fun w0 R=>?_)
 refine sA (xmc Z (xmi Z (TL.mload 0 hM Z Z Z Z Z Zt (xD [] zdG zfW Z (xmu Z (TL.ext (.agg _) Z Z Z Z (xei Z Z (TL.alloc 3 (cs:=#[.int .i64 0,.int .i64 0,.int .i64 0,.int .i64 0]) zca Z Z Z (fun _=>Zt) (fun bk3=>?_)))))))))
 refine TL.stW 3 4 [_,_,_,_] Z Z Z Z Z Z zaF Z Z Zt (xai Z (dB (xmi Z (TL.neqF Z Z (by rw [h]; decide) Z Z (dF Z (TL.mv (.func _ _ _) Z Z Z (xL4 3 zaF Z Z (TL.callC (c1:=[]) (c2:=[_,_]) (vs:=[_]) [1,2] [1,2] Z zmh ⟨Z,Zt⟩ ⟨Z,Z,Zt⟩ ztq Z Z Z Z Z Zt ?_))))))))
 refine xD [] zln zlZ Z (xmu Z (xei Z Z (xei Z Z (xai Z (xai Z (dA (xmi Z (TL.eqlF Z Z (by rw [h2]; decide) Z Z ?_))))))))
 refine TL.done (TQ.then (TC.condF Z (TC.skip ?_)))
 refine FQ.end0 (Bs:=[A (MemLike.ld σ c),pt b1 (.cells #[.int .i64 p.thread,.int .i64 p.tag] 137),pt b2 (.cells #[.int .i64 x] 3)]) [0,1,2] Z Z ⟨Z,Z,Z,Zt⟩ ?_
 exact ⟨Z,Z⟩
theorem zui {S:Type} [MemLike S] {mt:TypeId} {mv:Value} {A:S->Assn} (hM:MemI Tryz.prog mt mv A) {σ:S} {p:Pen} {c x:Int} {b1 b2:Nat} (h:(zae (MemLike.get σ c)).2=true) (h2:(p.to x (zae (MemLike.get σ c)).1).right=true) (hz:Room (2) σ:=by exact zaB):FnD Tryz.prog 187 [.iface mt mv,.int .i64 c,.func (.func 229) #[] #[.pointer (some ⟨b1,0,none⟩),.pointer (some ⟨b2,0,none⟩)]] [A σ,pt b1 (.cells #[.int .i64 p.thread,.int .i64 p.tag] 137),pt b2 (.cells #[.int .i64 x] 3)] (.tuple #[]) [A (MemLike.st (MemLike.ld σ c) c (p.to x (zae (MemLike.get σ c)).1).pack),pt b1 (.cells #[.int .i64 p.thread,.int .i64 p.tag] 137),pt b2 (.cells #[.int .i64 x] 3)]:=by
 refine Fn.enter (Tryz.func187) Z Z (fun w0 R=>?_)
 refine sA (xmc Z (xmi Z (TL.mload 0 hM Z Z Z Z Z Zt (xD [] zdG zfW Z (xmu Z (TL.ext (.agg _) Z Z Z Z (xei Z Z (TL.alloc 3 (cs:=#[.int .i64 0,.int .i64 0,.int .i64 0,.int .i64 0]) zca Z Z Z (fun _=>Zt) (fun bk3=>?_)))))))))
 refine TL.stW 3 4 [_,_,_,_] Z Z Z Z Z Z zaF Z Z Zt (xai Z (dB (xmi Z (TL.neqF Z Z (by rw [h]; decide) Z Z (dF Z (TL.mv (.func _ _ _) Z Z Z (xL4 3 zaF Z Z (TL.callC (c1:=[]) (c2:=[_,_]) (vs:=[_]) [1,2] [1,2] Z zmh ⟨Z,Zt⟩ ⟨Z,Z,Zt⟩ ztq Z Z Z Z Z Zt ?_))))))))
 refine xD [] zln zlZ Z (xmu Z (xei Z Z (xei Z Z (xai Z (xai Z (dA (xmi Z (TL.eqlT Z Z (by rw [h2]; decide) Z Z ?_))))))))
 refine TL.done (TQ.then (TC.condT Z (TC.region (xmc Z (xmi Z (xmi Z (TL.mstore 0 hM Z Z Z (by rw [h2]; exact zbA _ _) Z Z Z Zt (TL.done ?_))))))))
 refine FQ.end0 (Bs:=[A _,pt b1 (.cells #[.int .i64 p.thread,.int .i64 p.tag] 137),pt b2 (.cells #[.int .i64 x] 3)]) [0,1,2] Z Z ⟨Z,Z,Z,Zt⟩ ?_
 exact ⟨Z,by rw [h2]; rfl⟩
theorem zul {S:Type} [MemLike S] {mt:TypeId} {mv:Value} {A:S->Assn} (hM:MemI Tryz.prog mt mv A) {σ:S} {p:Pen} {c x:Int} {b1 b2:Nat} (hz:Room 2 σ:=by exact zaB):FnD Tryz.prog 187 [.iface mt mv,.int .i64 c,.func (.func 229) #[] #[.pointer (some ⟨b1,0,none⟩),.pointer (some ⟨b2,0,none⟩)]] [A σ,pt b1 (.cells #[.int .i64 p.thread,.int .i64 p.tag] 137),pt b2 (.cells #[.int .i64 x] 3)] (.tuple #[]) [A (p.write σ c x),pt b1 (.cells #[.int .i64 p.thread,.int .i64 p.tag] 137),pt b2 (.cells #[.int .i64 x] 3)]:=by
 unfold Pen.write
 cases h:(zae (MemLike.get σ c)).2
 ·exact zuk hM h
 ·rw [Zp Z]
  cases h2:(p.to x (zae (MemLike.get σ c)).1).right
  ·exact zuj hM h h2
  ·exact zui hM h h2
theorem zkZ {S:Type} [MemLike S] {mt:TypeId} {mv:Value} {A:S->Assn} (hM:MemI Tryz.prog mt mv A) {σ:S} {p:Pen} {c x:Int} (hz:Room (2) σ:=by exact zaB):FnD Tryz.prog 197 [.agg #[.int .i64 p.thread,.int .i64 p.tag],.iface mt mv,.int .i64 c,.int .i64 x] [A σ] (.tuple #[]) [A (p.write σ c x)]:=by
 refine Fn.enter (Tryz.func197) Z Z (fun w0 R=>?_)
 refine sA (xB 1 Z (fun bk1=>(TL.box1 2 (.int _ _) Z Z Z Z (fun _=>Zt) (fun bk2=>(dG (xmc Z (xmi Z (TL.mf (xs:=[]) (ys:=[_,_]) [] [_,_] Zt ⟨Z,Z,Zt⟩ Z Z (xD [0,1,2] (zul hM) ztG Z (TL.done ?_))))))))))
 refine FQ.end0 (Bs:=[A (p.write σ c x)]) [0] Z Z ⟨Z,Zt⟩ ?_
 exact ⟨Z,Z⟩
theorem zst {S:Type} [MemLike S] {mt:TypeId} {mv:Value} {A:S->Assn} (hM:MemI Tryz.prog mt mv A) {σ:S} {c:Int} (hz:Room (1) σ:=by exact zaB):FnD Tryz.prog 198 [.iface mt mv,.int .i64 c] [A σ] (.int .i64 (pnew σ c)) [A (MemLike.ld σ c)]:=by
 refine Fn.enter (Tryz.func198) Z Z (fun w0 R=>?_)
 refine sA (xai Z (dA (xmc Z (xmi Z (TL.mload 0 hM Z Z Z Z Z Zt (xD [] zdG zfW Z (xmu Z (TL.ext (.agg _) Z Z Z Z ?_))))))))
 refine xei Z Z (TL.alloc 1 (cs:=#[.int .i64 0,.int .i64 0,.int .i64 0,.int .i64 0]) zca Z Z Z (fun _=>Zt) (fun bk1=>(TL.stW 1 4 [_,_,_,_] Z Z Z Z Z Z zaF Z Z Zt (xai Z (dA (xf 1 zcz Z (xli 1 zaa Z Z (xai Z (dR ?_)))))))))
 refine FQ.ret1 (v:=(.int _ _)) (Bs:=[A (MemLike.ld σ c)]) [0] Z Z Z ⟨Z,Zt⟩ ?_
 exact ⟨Z,Z⟩
theorem zd9 {S:Type} [MemLike S] {mt:TypeId} {mv:Value} {A:S->Assn} (hM:MemI Tryz.prog mt mv A) {l:Lay} (hl:l.Ok) {p:Pen} {σ:S} {x f:Int} (hz:Room (1) σ:=by exact zaB):FnD Tryz.prog 250 [zby l mt mv p,.int .i64 x,.int .i64 f] [A σ] (.int .i64 (tget l σ x f)) [A (zdZ l σ x f)]:=by
 refine Fn.enter (Tryz.func250) Z Z (fun w0 R=>?_)
 refine sA (xB 1 Z (fun bk1=>(xai Z (dS (TC.draw (od [1,3,5,7,9,11,15,17,12,18,21,23]) [1] fc_m (by kernel_rfl) (xf 3 zbf Z (xlc 1 zbw Z Z (xf 0 zaE Z (xL3 1 zac Z Z ?_)))))))))
 refine xmi Z (xmi Z (TL.ncI Z Z Z (xmc Z (xd [] (zba hl) zcp Z (kL1 Z Zt) (TL.mload 0 hM Z Z Z Z Z (kL1 Z Zt) (TL.conv _ Z zdV zaQ (Z) Z Z (xai Z (dR ?_))))))))
 refine FQ.ret1 (v:=(.int _ _)) (Bs:=[A _]) [0] Z Z Z ⟨Z,Zt⟩ ?_
 exact ⟨Z,Z⟩
theorem zk4 {S:Type} [MemLike S] {mt:TypeId} {mv:Value} {A:S->Assn} (hM:MemI Tryz.prog mt mv A) {l:Lay} (hl:l.Ok) {p:Pen} {σ:S} {x f v:Int} (hz:Room (1) σ:=by exact zaB):FnD Tryz.prog 184 [zby l mt mv p,.int .i64 x,.int .i64 f,.int .i64 v] [A σ] (.tuple #[]) [A (tput l σ x f v)]:=by
 refine Fn.enter (Tryz.func184) Z Z (fun w0 R=>?_)
 refine sA (xB 1 Z (fun bk1=>(TL.done (TQ.then (TC.draw (od [1,3,5,7,9,11,15,17,19,21,12,22]) [1] fc_m (by kernel_rfl) (xf 3 zbf Z (xlc 1 zbw Z Z (xf 0 zaE Z (xL3 1 zac Z Z ?_)))))))))
 refine xmi Z (xmi Z (xmi Z (TL.conv _ Z zgp zbs (Z) Z Z (TL.ncI Z Z Z (xmc Z (xd [] (zba hl) zcp Z (kL1 Z Zt) (TL.mstore 0 hM Z Z Z (by first | exact zcY _ | exact zbA _ _ | exact MemLike.rng _ _ | decide | assumption) Z Z Z (kL1 Z Zt) (TL.done ?_))))))))
 refine FQ.end0 (Bs:=[A _]) [0] Z Z ⟨Z,Zt⟩ ?_
 exact ⟨Z,Z⟩
theorem zo7 {mt:TypeId} {mv:Value} {l:Lay} (hl:l.Ok) {p:Pen} {x:Int}:FnD Tryz.prog 221 [zby l mt mv p,.int .i64 x] [] (.bool (zbQ l x)) []:=by
 refine Fn.enter (Tryz.func221) Z Z (fun w0 R=>?_)
 refine sA (xB 0 Z (fun bk0=>(xaf Z (dA (xf 0 zaE Z (xL3 0 zac Z Z (xmi Z (xD [] (zhL hl) zkL Z (xmu Z ?_)))))))))
 refine TL.ext (.agg _) Z Z Z Z (TL.ext (.bool _) Z Z Z Z (TL.alloc 1 (cs:=#[.bool false,.int .i64 0,.int .i64 0,.int .i64 0,.int .i64 0]) zgu Z Z Z (fun _=>Zt) (fun bk1=>(TL.stW 1 5 [_,_,_,_,_] Z Z Z Z Z Z zcT Z Z Zt (xab Z (dA (xf 1 zhZ Z (xli 1 zaa Z Z (TL.eqlV Z Z Z Z ?_)))))))))
 refine xab Z (dR ?_)
 refine FQ.ret1 (v:=(.bool _)) (Bs:=[]) [] Z Z Z Zt ?_
 exact ⟨Z,Z⟩
theorem zeQ {S:Type} [MemLike S] {mt:TypeId} {mv:Value} {A:S->Assn} (hM:MemI Tryz.prog mt mv A) {l:Lay} (hl:l.Ok) {p:Pen} {σ:S} {x:Int} (hz:Room (1) σ:=by exact zaB):FnD Tryz.prog 223 [zby l mt mv p,.int .i64 x] [A σ] (.int .i64 (parent l σ x)) [A (zcM l σ x)]:=by
 refine Fn.enter (Tryz.func223) Z Z (fun w0 R=>?_)
 refine sA (xB 1 rfl (fun bk1=>(xai rfl (dB (xL6 1 zab rfl rfl (xmi rfl (xD [] (zo7 hl) zts rfl (TL.cases rfl (fun q1=>?_) (fun q1=>?_)))))))))
 refine TL.done (TQ.then (TC.condT Z (TC.seq (TC.draw (od [1,3,5,7,9,10,12,15]) [1] fc_m (by kernel_rfl) (xf 3 zbf Z (xlc 1 zbw Z Z (xf 0 zaE Z (xL3 1 zac Z Z ?_))))))))
 refine xmi Z (xd [] (zba hl) zcp Z (kL1 Z Zt) (xd [0] (zst hM) zov Z (kL1 Z Zt) (xai Z (dRR ?_))))
 refine FQ.ret1 (v:=(.int _ _)) (Bs:=[A _]) [0] Z Z Z ⟨Z,Zt⟩ ?_
 exact ⟨(by simp only [parent, *,if_true,Bool.false_eq_true,if_false]),Z⟩
 refine dF Z (xL6 1 zab Z Z (xmi Z (xD [0] (zd9 hM hl) zep Z (xai Z (dR ?_)))))
 refine FQ.ret1 (v:=(.int _ _)) (Bs:=[A _]) [0] Z Z Z ⟨Z,Zt⟩ ?_
 exact ⟨(by simp only [parent, *,if_true,Bool.false_eq_true,if_false]),Z⟩
theorem zjv {S:Type} [MemLike S] {mt:TypeId} {mv:Value} {A:S->Assn} (hM:MemI Tryz.prog mt mv A) {l:Lay} (hl:l.Ok) {p:Pen} {σ:S} {x q:Int} (hz:Room (2) σ:=by exact zaB):FnD Tryz.prog 185 [zby l mt mv p,.int .i64 x,.int .i64 q] [A σ] (.tuple #[]) [A (hang l p σ x q)]:=by
 refine Fn.enter (Tryz.func185) Z Z (fun w0 R=>?_)
 refine sA (xB 1 Z (fun bk1=>(dK (sA (xmi Z (TL.eql Z Z Z Z (fun q1=>?_) (fun q1=>?_)))))))
 refine xat Z (TL.done (TQ.then (TC.condT Z (TC.skip (TQ.inBlock ?_)))))
 refine FQ.end0 (Bs:=[A _]) [0] Z Z ⟨Z,Zt⟩ ?_
 first | exact ⟨Z,(by simp only [hang, *,if_true,Bool.false_eq_true,if_false])⟩ | exact ⟨Z,(by simp only [hang]; rw [Zp (by assumption)])⟩
 refine xaf rfl (TL.done (TQ.then (TC.condF rfl (sA (xL6 1 zab rfl rfl (xmi rfl (xD [] (zo7 hl) zts rfl (TL.cases rfl (fun q2=>?_) (fun q2=>?_)))))))))
 refine xat Z (TL.done (TQ.then (TC.condT Z (TC.draw (od [1,3,5,7,9,11,13,17,14,18]) [1] fc_m (by kernel_rfl) (xf 4 zjF Z (xL2 1 za7 Z Z (xf 3 zbf Z (xlc 1 zbw Z Z ?_))))))))
 refine xf 0 zaE Z (xL3 1 zac Z Z (xmi Z (xmi Z (xd [] (zba hl) zcp Z (kL1 Z Zt) (xd [0] (zkZ hM) zow Z (kL1 Z Zt) (TL.done (TQ.inBlock ?_)))))))
 refine FQ.end0 (Bs:=[A _]) [0] Z Z ⟨Z,Zt⟩ ?_
 first | exact ⟨Z,(by simp only [hang, *,if_true,Bool.false_eq_true,if_false])⟩ | exact ⟨Z,(by simp only [hang]; rw [Zp (by assumption)])⟩
 refine xaf Z (TL.done (TQ.then (TC.condF Z (TC.region (xL6 1 zab Z Z (xmi Z (xmi Z (xD [0] (zk4 hM hl) zl1 Z ?_))))))))
 refine TL.done (TQ.inBlock ?_)
 refine FQ.end0 (Bs:=[A _]) [0] Z Z ⟨Z,Zt⟩ ?_
 first | exact ⟨Z,(by simp only [hang, *,if_true,Bool.false_eq_true,if_false])⟩ | exact ⟨Z,(by simp only [hang]; rw [Zp (by assumption)])⟩
theorem zi2 {S:Type} [MemLike S] {mt:TypeId} {mv:Value} {A:S->Assn} (hM:MemI Tryz.prog mt mv A) {l:Lay} (hl:l.Ok) {p:Pen} {σ:S} {x:Int} (hz:Room (1) σ:=by exact zaB):FnD Tryz.prog 276 [zby l mt mv p,.int .i64 x] [A σ] (.int .u64 (tsum l σ x)) [A (zb7 l σ x)]:=by
 refine Fn.enter (Tryz.func276) Z Z (fun w0 R=>?_)
 refine sA (xB 1 Z (fun bk1=>(xai Z (dB (xmi Z (TL.eql Z Z Z Z (fun q1=>?_) (fun q1=>?_)))))))
 refine dT Z (xai Z (dRR ?_))
 refine FQ.ret1 (v:=(.int _ _)) (Bs:=[A _]) [0] Z Z Z ⟨Z,Zt⟩ ?_
 first | exact ⟨(by simp only [tsum]; rw [Zp (by assumption)]),(by simp only [zb7]; rw [Zp (by assumption)])⟩ | exact ⟨(by simp only [tsum]; rw [Zn (by assumption)]),(by simp only [zb7]; rw [Zn (by assumption)])⟩
 refine TL.done (TQ.then (TC.condF Z (TC.skip (TQ.then (TC.seq (TC.draw (od [1,3,5,7,9,13,15,10,16,19]) [1] fc_m (by kernel_rfl) (xf 3 zbf Z (xlc 1 zbw Z Z ?_))))))))
 refine xf 0 zaE Z (xL3 1 zac Z Z (xmi Z (TL.ncI Z Z Z (xmc Z (xd [] (zba hl) zcp Z (kL1 Z Zt) (TL.mload 0 hM Z Z Z Z Z (kL1 Z Zt) (xai Z (dR ?_))))))))
 refine FQ.ret1 (v:=(.int _ _)) (Bs:=[A _]) [0] Z Z Z ⟨Z,Zt⟩ ?_
 first | exact ⟨(by simp only [tsum]; rw [Zp (by assumption)]),(by simp only [zb7]; rw [Zp (by assumption)])⟩ | exact ⟨(by simp only [tsum]; rw [Zn (by assumption)]),(by simp only [zb7]; rw [Zn (by assumption)])⟩
theorem zt7 {v:Int}:FnD Tryz.prog 277 [.int .u64 v] [] (.int .u64 (zp3 v)) []:=by
 refine Fn.enter (Tryz.func277) Z Z (fun w0 R=>?_)
 refine sA (xai Z (dA (xmi Z (TL.and _ Z Z Z Z Z (xai Z (dR ?_))))))
 refine FQ.ret1 (v:=(.int _ _)) (Bs:=[]) [] Z Z Z Zt ?_
 exact ⟨Z,Z⟩
theorem zsC {mt:TypeId} {mv:Value} {l:Lay} (hl:l.Ok) {p:Pen} {x m:Int}:FnD Tryz.prog 186 [zby l mt mv p,.int .i64 x,.int .u64 m] [] (.int .u64 (zfG l x m)) []:=by
 refine Fn.enter (Tryz.func186) Z Z (fun w0 R=>?_)
 refine sA (xB 0 Z (fun bk0=>(xai Z (dA (xmi Z (TL.shl _ Z Z (by decide) Z Z Z (TL.or _ Z Z Z Z Z (xmi Z (TL.shl _ Z Z (by decide) Z Z Z ?_)))))))))
 refine TL.or _ Z Z Z Z Z (xai Z (dB (xf 0 zaE Z (xL3 0 zac Z Z (xmi Z (xD [] (zhL hl) zkL Z (xmu Z (TL.ext (.agg _) Z Z Z Z ?_))))))))
 refine TL.ext (.bool _) Z Z Z Z (TL.alloc 1 (cs:=#[.bool false,.int .i64 0,.int .i64 0,.int .i64 0,.int .i64 0]) zgu Z Z Z (fun _=>Zt) (fun bk1=>(TL.stW 1 5 [_,_,_,_,_] Z Z Z Z Z Z zcT Z Z Zt (xab Z (dA (xf 0 zkH Z (xlb 1 zem Z Z (TL.not _ _ Z Z Z Z (TL.done ?_)))))))))
 refine TQ.then (TC.cond Z (fun q1=>?_) (fun q1=>?_))
 refine TC.region (xmi Z (TL.or _ Z Z Z Z Z (xai Z (dA (xmi Z (xai Z (dR ?_)))))))
 refine FQ.ret1 (v:=(.int _ _)) (Bs:=[]) [] Z Z Z Zt ?_
 first | exact ⟨(by have q:(l.node x).1.arc=false:=(by simpa using ‹(!(l.node x).1.arc)=true›); simp only [zfG,q,Bool.false_eq_true,if_false]; rfl),Z⟩ | exact ⟨(by have q:(l.node x).1.arc=true:=(by simpa using ‹(!(l.node x).1.arc)=false›); simp only [zfG,q,if_true]; rfl),Z⟩
 refine TC.skip (TQ.then (sA (xmi Z (xai Z (dR ?_)))))
 refine FQ.ret1 (v:=(.int _ _)) (Bs:=[]) [] Z Z Z Zt ?_
 first | exact ⟨(by have q:(l.node x).1.arc=false:=(by simpa using ‹(!(l.node x).1.arc)=true›); simp only [zfG,q,Bool.false_eq_true,if_false]; rfl),Z⟩ | exact ⟨(by have q:(l.node x).1.arc=true:=(by simpa using ‹(!(l.node x).1.arc)=false›); simp only [zfG,q,if_true]; rfl),Z⟩
theorem zg2 {S:Type} [MemLike S] {mt:TypeId} {mv:Value} {A:S->Assn} (hM:MemI Tryz.prog mt mv A) {l:Lay} (hl:l.Ok) {p:Pen} {σ:S} {x m:Int} (hz:Room (5) σ:=by exact zaB):FnD Tryz.prog 260 [zby l mt mv p,.int .i64 x,.int .u64 m] [A σ] (.tuple #[]) [A (zfd l σ x m)]:=by
 refine Fn.enter (Tryz.func260) Z Z (fun w0 R=>?_)
 refine sA (xB 1 Z (fun bk1=>(dA (xL6 1 zab Z Z (xmi Z (xmi Z (xD [] (zsC hl) ztH Z (xai Z (dB ?_)))))))))
 refine TL.bldA [.int .i64 0,.int .i64 0] [(.int _ _),(.int _ _)] [_,_] zlS zcb ⟨Z,Z,Zt⟩ ⟨Z,Z⟩ Z Z (xmi Z (dK (TC.loopK (X:=Nat) [1,3,14] [1] (fun i=>[(6,.int .u64 (zce l σ x m i).1),(15,.int .i64 (i:Int))]) (fun i=>[(0,A (zce l σ x m i).2)]) (fun i=>i<=2) (fun i=>2 - i) (0) (by decide) ⟨Z,Z,Zt⟩ ⟨Z,Zt⟩ (fun i hI=>(TC.sub (env':=[(6,_),(15,_),(1,_),(3,_),(14,_)]) (L':=[(0,_),(1,_)]) ⟨Z,Z,Z,Z,Z,Zt⟩ ⟨Z,Z,Zt⟩ (sA (TL.lss Z Z Z Z (fun q1=>?_) (fun q1=>?_))))))))
 refine dS (TC.condT rfl (TC.skip (TQ.then (TC.seq (TC.block (sA (TL.ixA (.int .i64 (3+(i:Int))) rfl rfl zcb zaa (by omega) (by omega) (by have:i=0\/i=1:=(by omega); rcases this with rfl | rfl<;>rfl) rfl rfl (xai rfl ?_))))))))
 refine dS (TC.draw (od [1,3,5,7,8,10,13]) [1] fc_m (by kernel_rfl) (xL6 1 zab Z Z (xL6 1 zab Z Z (xmi Z (xmi Z (xd [0] (zd9 hM hl) zep Z (kL1 Z Zt) (xd [0] (zi2 hM hl) zjM Z (kL1 Z Zt) (xai Z ?_))))))))
 refine dG (xmi Z (xmi Z (xD [] zt7 zyM Z (TL.add _ Z Z (Z) Z Z (xmi Z (TL.shr _ Z Z (by decide) Z Z Z (TL.and _ Z Z Z Z Z (TL.shl _ Z Z (by decide) Z Z Z ?_))))))))
 refine TL.or _ Z Z Z Z Z (xai Z (dI (TL.add _ Z Z (wr64 (by omega)) Z Z (xmi Z (TL.done (TQ.roundK (i+1) ⟨by omega,by omega⟩ ⟨Z,Z,Zt⟩ ⟨Z,Zt⟩ (kE3 Z Z Z Zt) (kL1 Z Zt)))))))
 refine dS (TC.condF Z (TC.exit (TQ.thenExit (TQ.thenExit (TQ.blockHere (TQ.then (TC.draw (od [1,3,5,7,9,13,15,17,10,18]) [1] fc_m (by kernel_rfl) (xf 3 zbf Z ?_))))))))
 refine xlc 1 zbw Z Z (xf 0 zaE Z (xL3 1 zac Z Z (xmi Z (xmi Z (TL.ncI Z Z Z (xmc Z (xd [] (zba hl) zcp Z (kL1 Z Zt) (TL.mstore 0 hM Z Z Z (zqJ _ _ _ _ _) Z Z Z (kL1 Z Zt) ?_))))))))
 refine TL.done ?_
 refine FQ.end0 (Bs:=[A _]) [0] Z Z ⟨Z,Zt⟩ ?_
 obtain rfl:i=2:=by omega
 refine ⟨Z,?_⟩
 unfold zfd
 rfl
theorem zgd {S:Type} [MemLike S] {mt:TypeId} {mv:Value} {A:S->Assn} (hM:MemI Tryz.prog mt mv A) {l:Lay} (hl:l.Ok) {p:Pen} {σ:S} {x:Int} (hz:Room (1) σ:=by exact zaB):FnD Tryz.prog 259 [zby l mt mv p,.int .i64 x] [A σ] (.int .u64 (marks l σ x)) [A (zfR l σ x)]:=by
 refine Fn.enter (Tryz.func259) Z Z (fun w0 R=>?_)
 refine sA (xB 1 Z (fun bk1=>(xai Z (dA (xL6 1 zab Z Z (xmi Z (xD [0] (zi2 hM hl) zjM Z (TL.shr _ Z Z (by decide) Z Z Z (TL.and _ Z Z Z Z Z ?_)))))))))
 refine xai Z (dR ?_)
 refine FQ.ret1 (v:=(.int _ _)) (Bs:=[A _]) [0] Z Z Z ⟨Z,Zt⟩ ?_
 exact ⟨Z,Z⟩
theorem zhy {S:Type} [MemLike S] {mt:TypeId} {mv:Value} {A:S->Assn} (hM:MemI Tryz.prog mt mv A) {l:Lay} (hl:l.Ok) {p:Pen} {σ:S} {x:Int} (hz:Room (5) σ:=by exact zaB):FnD Tryz.prog 147 [zby l mt mv p,.int .i64 x] [A σ] (.tuple #[]) [A (alone l p σ x)]:=by
 refine Fn.enter (Tryz.func147) Z Z (fun w0 R=>?_)
 refine sA (xB 1 Z (fun bk1=>(dA (xL6 1 zab Z Z (xmi Z (xD [0] (zk4 hM hl) zl1 Z (dA (xL6 1 zab Z Z (xmi Z ?_)))))))))
 refine xD [0] (zk4 hM hl) zl1 Z (dA (xL6 1 zab Z Z (xmi Z (xD [0] (zjv hM hl) zjQ Z (TL.done (TQ.then (TC.draw (od [1,3,5,7,9,13,15,19,21,10,16,22]) [1] fc_m (by kernel_rfl) (xf 3 zbf Z ?_))))))))
 refine xlc 1 zbw Z Z (xf 0 zaE Z (xL3 1 zac Z Z (xmi Z (xL6 1 zab Z Z (xmi Z (TL.ncI Z Z Z (xmc Z (xd [] (zba hl) zcp Z (kL1 Z Zt) ?_))))))))
 refine xd [] (zsC hl) ztH Z (kL1 Z Zt) (TL.mstore 0 hM Z Z Z (by first | exact zpG _ _ _) Z Z Z (kL1 Z Zt) (TL.done ?_))
 refine FQ.end0 (Bs:=[A _]) [0] Z Z ⟨Z,Zt⟩ ?_
 exact ⟨Z,Z⟩
theorem zk8 {S:Type} [MemLike S] {mt:TypeId} {mv:Value} {A:S->Assn} (hM:MemI Tryz.prog mt mv A) {l:Lay} (hl:l.Ok) {p:Pen} {σ:S} {x:Int} (hz:Room (1) σ:=by exact zaB):FnD Tryz.prog 261 [zby l mt mv p,.int .i64 x] [A σ] (.int .i64 (size l σ x)) [A (zb7 l σ x)]:=by
 refine Fn.enter (Tryz.func261) Z Z (fun w0 R=>?_)
 refine sA (xB 1 Z (fun bk1=>(xai Z (dA (xL6 1 zab Z Z (xmi Z (xD [0] (zi2 hM hl) zjM Z (TL.and _ Z Z Z Z Z (TL.conv _ Z zdV zaQ (Z) Z Z ?_)))))))))
 refine xai Z (dR ?_)
 refine FQ.ret1 (v:=(.int _ _)) (Bs:=[A _]) [0] Z Z Z ⟨Z,Zt⟩ ?_
 exact ⟨Z,Z⟩
theorem zuT {S:Type} [MemLike S] {mt:TypeId} {mv:Value} {A:S->Assn} (hM:MemI Tryz.prog mt mv A) {l:Lay} (hl:l.Ok) {p:Pen} {σ:S} {x:Int} (hz:Room (1) σ:=by exact zaB):FnD Tryz.prog 263 [zby l mt mv p,.int .i64 x] [A σ] (.int .i64 (verts l σ x)) [A (zb7 l σ x)]:=by
 refine Fn.enter (Tryz.func263) Z Z (fun w0 R=>?_)
 refine sA (xB 1 Z (fun bk1=>(xai Z (dA (xL6 1 zab Z Z (xmi Z (xD [0] (zi2 hM hl) zjM Z (TL.shr _ Z Z (by decide) Z Z Z (TL.and _ Z Z Z Z Z ?_)))))))))
 refine TL.conv _ Z zdV zaQ (Z) Z Z (xai Z (dR ?_))
 refine FQ.ret1 (v:=(.int _ _)) (Bs:=[A _]) [0] Z Z Z ⟨Z,Zt⟩ ?_
 exact ⟨Z,Z⟩
theorem zfc {S:Type} [MemLike S] {mt:TypeId} {mv:Value} {A:S->Assn} (hM:MemI Tryz.prog mt mv A) {l:Lay} (hl:l.Ok) {p:Pen} {σ:S} {x r:Int} {k:Nat} {σ2:S} (h:root l k σ x=some (r,σ2)) (hz:Room (k) σ:=by exact zaB):FnD Tryz.prog 190 [zby l mt mv p,.int .i64 x] [A σ] (.int .i64 r) [A σ2]:=by
 refine Fn.enter (Tryz.func190) Z Z (fun w0 R=>?_)
 refine sA (xB 1 Z (fun bk1=>(xai Z (dS (TC.block (TC.loopK (X:=Nat×S×Int) [2,4] [1] (fun y=>[(1,.int .i64 y.2.2)]) (fun y=>[(0,A y.2.1)]) (fun y=>root l y.1 y.2.1 y.2.2=some (r,σ2)/\Room (y.1) y.2.1) (fun y=>y.1) ((k,σ,x)) ⟨h,zaB⟩ ⟨Z,Zt⟩ ⟨Z,Zt⟩ (fun y hI=>?_)))))))
 obtain ⟨k,σ1,z⟩:=y
 obtain ⟨hI,hzI⟩:=hI
 rcases k with _ | k
 ·simp [root] at hI
 dsimp only at hI hzI
 refine TC.sub (env':=[(1,_),(2,_),(4,_)]) (L':=[(0,_),(1,_)]) ⟨Z,Z,Z,Zt⟩ ⟨Z,Z,Zt⟩ (sB (xmi Z (TL.neq Z Z Z Z (fun q1=>?_) (fun q1=>?_))))
 refine TL.done (TQ.then (TC.condT Z (TC.skip (TQ.then (TC.block (sA (xL6 1 zab Z Z (xmi Z ?_))))))))
 refine xD [0] (zeQ hM hl) zh5 Z (xai Z (dB (xmi Z (TL.eql Z Z Z Z (fun q2=>?_) (fun q2=>?_)))))
 refine TL.done (TQ.then (TC.condT Z (TC.exit (TQ.thenExit (TQ.blockOut Z (TQ.thenExit (TQ.blockHere (TQ.then ?_))))))))
 refine sA (xmi Z (xai Z (dR ?_)))
 refine FQ.ret1 (v:=(.int _ _)) (Bs:=[A _]) [0] Z Z Z ⟨Z,Zt⟩ ?_
 rw [root,Zp q1,Zp q2] at hI; cases hI; exact ⟨rfl,rfl⟩
 refine TL.done (TQ.then (TC.condF Z (TC.skip (TQ.then (TC.region (xmi Z (xai Z (TL.done ?_))))))))
 refine TQ.inBlock (TQ.roundK ((k,zcM l σ1 z,parent l σ1 z)) ⟨⟨(by rw [root,Zp q1,Zn q2] at hI; exact hI),zaB⟩,Nat.lt_succ_self _⟩ ⟨Z,Zt⟩ ⟨Z,Zt⟩ (kE2 Z Z Zt) (kL1 Z Zt))
 refine dE Z (sA (xmi Z (xai Z (dR ?_))))
 refine FQ.ret1 (v:=(.int _ _)) (Bs:=[A _]) [0] Z Z Z ⟨Z,Zt⟩ ?_
 rw [root,Zn q1] at hI; cases hI; exact ⟨rfl,rfl⟩
theorem zlG {S:Type} [MemLike S] {mt:TypeId} {mv:Value} {A:S->Assn} (hM:MemI Tryz.prog mt mv A) {l:Lay} (hl:l.Ok) {p:Pen} {σ:S} {x r:Int} {k:Nat} {σ2:S} (h:index l k σ x=some (r,σ2)) (hz:Room (4 * k+2) σ:=by exact zaB):FnD Tryz.prog 243 [zby l mt mv p,.int .i64 x] [A σ] (.int .i64 r) [A σ2]:=by
 unfold index at h
 dsimp only at h
 refine Fn.enter (Tryz.func243) Z Z (fun w0 R=>?_)
 refine sA (xB 1 Z (fun bk1=>(xai Z (dS (TC.draw (od [1,3,5,6,8,11]) [1] fc_m (by kernel_rfl) (xL6 1 zab Z Z (xL6 1 zab Z Z (xmi Z (xd [0] (zd9 hM hl) zep Z (kL1 Z Zt) ?_)))))))))
 refine xd [0] (zk8 hM hl) zlW Z (kL1 Z Zt) (xai Z (dK (TC.loopK (X:=Nat×S×Int×Int) [2] [1] (fun y=>[(1,.int .i64 y.2.2.1),(5,.int .i64 y.2.2.2)]) (fun y=>[(0,A y.2.1)]) (fun y=>zb2 l y.1 y.2.1 y.2.2.1 y.2.2.2=some (r,σ2)/\Room (4 * y.1) y.2.1) (fun y=>y.1) ((k,zb7 l (zdZ l σ x 3) (tget l σ x 3),x,_)) ⟨h,zaB⟩ ⟨Z,Z,Zt⟩ ⟨Z,Zt⟩ (fun y hI=>?_))))
 obtain ⟨k,σ1,z,n⟩:=y
 obtain ⟨hI,hzI⟩:=hI
 rcases k with _ | k
 ·simp [zb2] at hI
 dsimp only at hI hzI
 refine TC.sub (env':=[(1,_),(5,_),(2,_)]) (L':=[(0,_),(1,_)]) ⟨Z,Z,Z,Zt⟩ ⟨Z,Z,Zt⟩ (TC.block (sA (xL6 1 zab Z Z (xmi Z (xD [0] (zeQ hM hl) zh5 Z (xai Z (dB (xmi Z ?_))))))))
 refine TL.eql Z Z Z Z (fun q1=>?_) (fun q1=>?_)
 refine dT Z (xmi Z (xai Z (dRR (TQ.blockRet (TQ.thenRet (TQ.blockRet ?_))))))
 refine FQ.ret1 (v:=(.int _ _)) (Bs:=[A _]) [0] Z Z Z ⟨Z,Zt⟩ ?_
 rw [zb2,Zp q1] at hI; cases hI; exact ⟨rfl,rfl⟩
 refine TL.done (TQ.then (TC.condF Z (TC.skip (TQ.then (sB (xL6 1 zab Z Z (xmi Z (xD [0] (zd9 hM hl) zep Z ?_))))))))
 refine xmi Z (TL.eql Z Z Z Z (fun q2=>?_) (fun q2=>?_))
 refine TL.done (TQ.then (TC.condT Z (TC.draw (od [1,3,5,7,8,10,13,15,17]) [1] fc_m (by kernel_rfl) (xmi Z (xL6 1 zab Z Z (xL6 1 zab Z Z (xmi Z (xd [0] (zd9 hM hl) zep Z (kL1 Z Zt) ?_))))))))
 refine xd [0] (zk8 hM hl) zlW Z (kL1 Z Zt) (TL.add _ Z Z (Z) Z Z (TL.add _ Z Z (Z) Z Z (xai Z (dG (xmi Z (xai Z (TL.done (TQ.inBlock ?_))))))))
 refine TQ.roundK ((k,zb7 l (zdZ l (zdZ l (zcM l σ1 z) (parent l σ1 z) 4) (parent l σ1 z) 3) (tget l (zdZ l (zcM l σ1 z) (parent l σ1 z) 4) (parent l σ1 z) 3),_,_)) ⟨⟨(by rw [zb2,Zn q1] at hI; dsimp only at hI; rw [Zp q2] at hI; exact hI),zaB⟩,Nat.lt_succ_self _⟩ ⟨Z,Z,Zt⟩ ⟨Z,Zt⟩ (kE1 Z Zt) (kL1 Z Zt)
 refine TL.done (TQ.then (TC.condF Z (TC.skip (TQ.then (TC.region (xmi Z (xai Z (TL.done ?_))))))))
 refine TQ.inBlock (TQ.roundK ((k,zdZ l (zcM l σ1 z) (parent l σ1 z) 4,_,_)) ⟨⟨(by rw [zb2,Zn q1] at hI; dsimp only at hI; rw [Zn q2] at hI; exact hI),zaB⟩,Nat.lt_succ_self _⟩ ⟨Z,Z,Zt⟩ ⟨Z,Zt⟩ (kE1 Z Zt) (kL1 Z Zt))
theorem zo8 {S:Type} [MemLike S] {mt:TypeId} {mv:Value} {A:S->Assn} (hM:MemI Tryz.prog mt mv A) {l:Lay} (hl:l.Ok) {p:Pen} {σ:S} {x f c:Int} (hz:Room (9) σ:=by exact zaB):FnD Tryz.prog 275 [zby l mt mv p,.int .i64 x,.int .i64 f,.int .i64 c] [A σ] (.tuple #[]) [A (setC l p σ x f c)]:=by
 refine Fn.enter (Tryz.func275) Z Z (fun w0 R=>?_)
 refine sA (xB 1 Z (fun bk1=>(dA (xL6 1 zab Z Z (xmi Z (xmi Z (xmi Z (xD [0] (zk4 hM hl) zl1 Z (dA ?_)))))))))
 refine xL6 1 zab Z Z (xmi Z (xmi Z (xD [0] (zjv hM hl) zjQ Z (TL.done (TQ.then (TC.draw (od [1,3,5,7,8,10]) [1] fc_m (by kernel_rfl) (xL6 1 zab Z Z (xmi Z ?_))))))))
 refine xL6 1 zab Z Z (xmi Z (xd [0] (zgd hM hl) zh1 Z (kL1 Z Zt) (xd [0] (zg2 hM hl) zjN Z (kL1 Z Zt) (TL.done ?_))))
 refine FQ.end0 (Bs:=[A _]) [0] Z Z ⟨Z,Zt⟩ ?_
 exact ⟨Z,(by unfold setC zfR; rfl)⟩
theorem zu3 {S:Type} [MemLike S] {mt:TypeId} {mv:Value} {A:S->Assn} (hM:MemI Tryz.prog mt mv A) {l:Lay} (hl:l.Ok) {p:Pen} {σ:S} {x n:Int} {r:Int×Int} {k:Nat} {σ2:S} (h:split l p k σ x n=some (r,σ2)) (hz:Room (12 * k) σ:=by exact zaB):FnD Tryz.prog 262 [zby l mt mv p,.int .i64 x,.int .i64 n] [A σ] (.tuple #[.int .i64 r.1,.int .i64 r.2]) [A σ2]:=by
 induction k generalizing σ x n r σ2
 case zero=>simp [split] at h
 case succ k ih =>
  refine Fn.enter (Tryz.func262) Z Z (fun w0 R=>?_)
  refine sA (xB 1 Z (fun bk1=>(xai Z (xai Z (dB (xmi Z (TL.eql Z Z Z Z (fun q1=>?_) (fun q1=>?_))))))))
  refine dT Z (xai Z (xai Z (dRR ?_)))
  refine FQ.ret2 (v:=(.int _ _)) (x:=(.int _ _)) (Bs:=[A _]) [0] Z Z Z Z ⟨Z,Zt⟩ ?_
  rw [split,Zp q1] at h; cases h; exact ⟨rfl,rfl⟩
  refine dF Z (xL6 1 zab Z Z (xmi Z (xD [0] (zd9 hM hl) zep Z (xai Z (dA (xL6 1 zab Z Z (xmi Z (xD [0] (zk8 hM hl) zlW Z ?_))))))))
  refine xai Z (dB (xmi Z (xmi Z (TL.leq Z Z Z Z (fun q2=>?_) (fun q2=>?_)))))
  refine dT Z (xL6 1 zab Z Z (xmi Z (xmi Z ?_)))
  rw [split,Zn q1] at h
  dsimp only at h
  rw [Zp q2] at h
  obtain ⟨⟨ab,σ3⟩,h1,h9⟩:=Zb h
  refine xD [0] (ih h1 zaB) zoo Z (xmu Z (xei Z Z (xei Z Z (xai Z (xai Z (dA (xL6 1 zab Z Z (xmi Z ?_))))))))
  refine xmi Z (xD [0] (zo8 hM hl) zlV Z (dA (xmi Z (xmi Z (xai Z (xai Z (dRR ?_)))))))
  refine FQ.ret2 (v:=(.int _ _)) (x:=(.int _ _)) (Bs:=[A _]) [0] Z Z Z Z ⟨Z,Zt⟩ ?_
  cases h9; exact ⟨rfl,rfl⟩
  refine TL.done (TQ.then (TC.condF Z (TC.skip (TQ.then (TC.seq (TC.draw (od [1,3,5,9,11,13,15,6,16,19,21,23,25,27]) [1] fc_m (by kernel_rfl) (xL6 1 zab Z Z (xL6 1 zab Z Z ?_))))))))
  refine xmi Z (xmi Z (xmi Z (TL.sub _ Z Z (Z) Z Z (TL.sub _ Z Z (Z) Z Z (xd [0] (zd9 hM hl) zep Z (kL1 Z Zt) ?_)))))
  rw [split,Zn q1] at h
  dsimp only at h
  rw [Zn q2] at h
  obtain ⟨⟨ab,σ3⟩,h1,h9⟩:=Zb h
  refine xd [0] (ih h1 zaB) zoo Z (kL1 Z Zt) (xmu Z (xei Z Z (xei Z Z (xai Z (xai Z (dA (xL6 1 zab Z Z (xmi Z ?_))))))))
  refine xmi Z (xD [0] (zo8 hM hl) zlV Z (dA (xmi Z (xmi Z (xai Z (xai Z (dR ?_)))))))
  refine FQ.ret2 (v:=(.int _ _)) (x:=(.int _ _)) (Bs:=[A _]) [0] Z Z Z Z ⟨Z,Zt⟩ ?_
  cases h9; exact ⟨rfl,rfl⟩
theorem zda {S:Type} [MemLike S] {mt:TypeId} {mv:Value} {A:S->Assn} (hM:MemI Tryz.prog mt mv A) {l:Lay} (hl:l.Ok) {p:Pen} {σ:S} {x n:Int} {r:Int×Int} {k:Nat} {σ2:S} (h:zeu l p k σ x n=some (r,σ2)) (hz:Room (12 * k+5) σ:=by exact zaB):FnD Tryz.prog 244 [zby l mt mv p,.int .i64 x,.int .i64 n] [A σ] (.tuple #[.int .i64 r.1,.int .i64 r.2]) [A σ2]:=by
 obtain ⟨⟨ab,σ3⟩,h1,h9⟩:=Zb h
 cases h9
 refine Fn.enter (Tryz.func244) Z Z (fun w0 R=>?_)
 refine sA (xB 1 Z (fun bk1=>(xai Z (xai Z (dS (TC.draw (od [1,3,5,7,9,11,12,15,16,19,21,23,25,27]) [1] fc_m (by kernel_rfl) (xL6 1 zab Z Z (xmi Z (xmi Z ?_)))))))))
 refine TL.max2 Z Z Z Z (xL6 1 zab Z Z (xmi Z (xd [0] (zk8 hM hl) zlW Z (kL1 Z Zt) (TL.min2 Z Z Z Z (xd [0] (zu3 hM hl h1) zoo Z (kL1 Z Zt) (xmu Z (xei Z Z (xei Z Z ?_))))))))
 refine xai Z (xai Z (dA (xL6 1 zab Z Z (xmi Z (xD [0] (zjv hM hl) zjQ Z (dA (xL6 1 zab Z Z (xmi Z ?_))))))))
 refine xD [0] (zjv hM hl) zjQ Z (dA (xmi Z (xmi Z (xai Z (xai Z (dR ?_))))))
 refine FQ.ret2 (v:=(.int _ _)) (x:=(.int _ _)) (Bs:=[A _]) [0] Z Z Z Z ⟨Z,Zt⟩ ?_
 exact ⟨Z,Z⟩
theorem zwe {S:Type} [MemLike S] {mt:TypeId} {mv:Value} {A:S->Assn} (hM:MemI Tryz.prog mt mv A) {l:Lay} (hl:l.Ok) {p:Pen} {σ:S} {x y:Int} (hz:Room (2) σ:=by exact zaB):FnD Tryz.prog 274 [zby l mt mv p,.int .i64 x,.int .i64 y] [A σ] (.bool (above l σ x y)) [A (zkY l σ x y)]:=by
 refine Fn.enter (Tryz.func274) Z Z (fun w0 R=>?_)
 refine sA (xB 1 Z (fun bk1=>(xaf Z (dS (TC.draw (od [1,3,5,7,9,13,15,19,21,23,25,27,31,33,10,16,28,34,37,39]) [1] fc_m (by kernel_rfl) (xf 3 zbf Z (xlc 1 zbw Z Z (xf 0 zaE Z (xL3 1 zac Z Z ?_)))))))))
 refine xmi Z (TL.ncI Z Z Z (xmc Z (xf 3 zbf Z (xlc 1 zbw Z Z (xf 0 zaE Z (xL3 1 zac Z Z (xmi Z (TL.ncI Z Z Z ?_))))))))
 refine xmc Z (xd [] (zba hl) zcp Z (kL1 Z Zt) (TL.mload 0 hM Z Z Z Z Z (kL1 Z Zt) (xd [] (zba hl) zcp Z (kL1 Z Zt) (TL.mload 0 hM Z Z Z Z Z (kL1 Z Zt) (xai Z (xai Z (dA (xmi Z ?_))))))))
 refine xmi Z (TL.gtr Z Z Z Z (fun q1=>?_) (fun q1=>?_))
 refine xmt Z (xo Z (xo Z (xo Z (xo Z (xo Z (xo Z (xo Z (xo Z ?_))))))))
 refine xpT Z (xat Z (dR ?_))
 refine FQ.ret1 (v:=(.bool true)) (Bs:=[A _]) [0] Z Z Z ⟨Z,Zt⟩ ?_
 first | exact ⟨(by unfold above; dsimp only; rw [Zp q1]),Z⟩ | exact ⟨(by unfold above; dsimp only; rw [Zn q1,Zp q2]),Z⟩ | exact ⟨(by unfold above; dsimp only; rw [Zn q1,Zn q2]),Z⟩
 refine xmf Z (xmi Z (xmi Z (TL.eql Z Z Z Z (fun q2=>?_) (fun q2=>?_))))
 refine xmt Z (xmi Z (xmi Z (TL.lssV Z Z Z Z (TL.pickT (.bool _) Z Z Z Z (TL.pickF (.bool _) Z Z Z Z (xab Z (dR ?_)))))))
 refine FQ.ret1 (v:=(.bool _)) (Bs:=[A _]) [0] Z Z Z ⟨Z,Zt⟩ ?_
 first | exact ⟨(by unfold above; dsimp only; rw [Zp q1]),Z⟩ | exact ⟨(by unfold above; dsimp only; rw [Zn q1,Zp q2]),Z⟩ | exact ⟨(by unfold above; dsimp only; rw [Zn q1,Zn q2]),Z⟩
 refine xmf Z (xo Z (xo Z (xo Z (xpF Z (xpF Z (xaf Z (dR ?_)))))))
 refine FQ.ret1 (v:=(.bool false)) (Bs:=[A _]) [0] Z Z Z ⟨Z,Zt⟩ ?_
 first | exact ⟨(by unfold above; dsimp only; rw [Zp q1]),Z⟩ | exact ⟨(by unfold above; dsimp only; rw [Zn q1,Zp q2]),Z⟩ | exact ⟨(by unfold above; dsimp only; rw [Zn q1,Zn q2]),Z⟩
theorem zvw {S:Type} [MemLike S] {mt:TypeId} {mv:Value} {A:S->Assn} (hM:MemI Tryz.prog mt mv A) {l:Lay} (hl:l.Ok) {p:Pen} {σ:S} {a b r:Int} {k:Nat} {σ2:S} (h:merge l p k σ a b=some (r,σ2)) (hz:Room (12 * k) σ:=by exact zaB):FnD Tryz.prog 258 [zby l mt mv p,.int .i64 a,.int .i64 b] [A σ] (.int .i64 r) [A σ2]:=by
 induction k generalizing σ a b r σ2
 case zero=>simp [merge] at h
 case succ k ih =>
  refine Fn.enter (Tryz.func258) Z Z (fun w0 R=>?_)
  refine sA (xB 1 Z (fun bk1=>(xai Z (dS (TC.block (sA (xmi Z (TL.eql Z Z Z Z (fun q1=>?_) (fun q1=>?_)))))))))
  refine xat Z (dT Z (xmi Z (xai Z (dR (TQ.blockRet (TQ.thenRet ?_))))))
  refine FQ.ret1 (v:=(.int _ _)) (Bs:=[A _]) [0] Z Z Z ⟨Z,Zt⟩ ?_
  rw [merge,Zp q1] at h; cases h; exact ⟨rfl,rfl⟩
  refine xaf Z (TL.done (TQ.then (TC.condF Z (sA (xmi Z (TL.eql Z Z Z Z (fun q2=>?_) (fun q2=>?_)))))))
  refine xat Z (dT Z (xmi Z (xai Z (dR (TQ.blockRet (TQ.thenRet ?_))))))
  refine FQ.ret1 (v:=(.int _ _)) (Bs:=[A _]) [0] Z Z Z ⟨Z,Zt⟩ ?_
  rw [merge,Zn q1,Zp q2] at h; cases h; exact ⟨rfl,rfl⟩
  refine xaf Z (TL.done (TQ.then (TC.condF Z (sA (xL6 1 zab Z Z (xmi Z (xmi Z (xD [0] (zwe hM hl) zyN Z ?_))))))))
  refine TL.cases rfl (fun q3=>?_) (fun q3=>?_)
  refine xat Z (TL.done (TQ.then (TC.condT Z (TC.seq (TC.draw (od [1,3,5,7,9,13,10,14,16]) [1] fc_m (by kernel_rfl) (xL6 1 zab Z Z (xmi Z (xL6 1 zab Z Z ?_))))))))
  refine xL6 1 zab Z Z (xmi Z (xmi Z (xd [0] (zd9 hM hl) zep Z (kL1 Z Zt) ?_)))
  rw [merge,Zn q1,Zn q2] at h
  dsimp only at h
  rw [Zp q3] at h
  obtain ⟨⟨c,σ3⟩,h1,h9⟩:=Zb h
  refine xd [0] (ih h1 zaB) zop Z (kL1 Z Zt) (xd [0] (zo8 hM hl) zlV Z (kL1 Z Zt) (dA (xmi Z (xai Z (dR (TQ.blockRet (TQ.thenRet ?_)))))))
  refine FQ.ret1 (v:=(.int _ _)) (Bs:=[A _]) [0] Z Z Z ⟨Z,Zt⟩ ?_
  cases h9; exact ⟨rfl,rfl⟩
  refine xaf Z (TL.done (TQ.then (TC.condF Z (TC.skip (TQ.inBlock (TQ.then (TC.seq (TC.draw (od [1,3,5,7,9,11,12,14,16]) [1] fc_m (by kernel_rfl) ?_))))))))
  refine xL6 1 zab Z Z (xmi Z (xL6 1 zab Z Z (xmi Z (xL6 1 zab Z Z (xmi Z (xd [0] (zd9 hM hl) zep Z (kL1 Z Zt) ?_))))))
  rw [merge,Zn q1,Zn q2] at h
  dsimp only at h
  rw [Zn (by rw [q3]; decide)] at h
  obtain ⟨⟨c,σ3⟩,h1,h9⟩:=Zb h
  refine xd [0] (ih h1 zaB) zop Z (kL1 Z Zt) (xd [0] (zo8 hM hl) zlV Z (kL1 Z Zt) (dA (xmi Z (xai Z (dR ?_)))))
  refine FQ.ret1 (v:=(.int _ _)) (Bs:=[A _]) [0] Z Z Z ⟨Z,Zt⟩ ?_
  cases h9; exact ⟨rfl,rfl⟩
theorem zeS {S:Type} [MemLike S] {mt:TypeId} {mv:Value} {A:S->Assn} (hM:MemI Tryz.prog mt mv A) {l:Lay} (hl:l.Ok) {p:Pen} {σ:S} {a b r:Int} {k:Nat} {σ2:S} (h:zeA l p k σ a b=some (r,σ2)) (hz:Room (12 * k+2) σ:=by exact zaB):FnD Tryz.prog 239 [zby l mt mv p,.int .i64 a,.int .i64 b] [A σ] (.int .i64 r) [A σ2]:=by
 obtain ⟨⟨c,σ3⟩,h1,h9⟩:=Zb h
 cases h9
 refine Fn.enter (Tryz.func239) Z Z (fun w0 R=>?_)
 refine sA (xB 1 Z (fun bk1=>(xai Z (dA (xL6 1 zab Z Z (xmi Z (xmi Z (xD [0] (zvw hM hl h1) zop Z (xai Z ?_)))))))))
 refine dA (xL6 1 zab Z Z (xmi Z (xD [0] (zjv hM hl) zjQ Z (dA (xmi Z (xai Z (dR ?_)))))))
 refine FQ.ret1 (v:=(.int _ _)) (Bs:=[A _]) [0] Z Z Z ⟨Z,Zt⟩ ?_
 exact ⟨Z,Z⟩
theorem zsw {S:Type} [MemLike S] {mt:TypeId} {mv:Value} {A:S->Assn} (hM:MemI Tryz.prog mt mv A) {l:Lay} (hl:l.Ok) {p:Pen} {σ:S} {x m:Int} {k:Nat} {σ2:S} (h0:0<=m) (h:zgo l k σ x m true=some σ2) (hz:Room (7 * k+7) σ:=by exact zaB):FnD Tryz.prog 241 [zby l mt mv p,.int .i64 x,.int .i64 m,.bool true] [A σ] (.tuple #[]) [A σ2]:=by
 unfold zgo at h
 dsimp only [zkd] at h
 simp only [if_true,Bool.false_eq_true,if_false] at h
 refine Fn.enter (Tryz.func241) Z Z (fun w0 R=>?_)
 refine sA (xB 1 Z (fun bk1=>(dS (TC.draw (od [1,3,7,9,4,11,13]) [1] fc_m (by kernel_rfl) (xL6 1 zab Z Z (xmi Z (xmi Z (TL.shl _ Z Z (by omega) Z Z Z (xd [0] (zgd hM hl) zh1 Z (kL1 Z Zt) ?_)))))))))
 refine TL.andNot _ Z Z Z Z Z (xai Z (dB (xmt Z (TL.done (TQ.then (TC.condT Z (TC.region (xmi Z ?_))))))))
 refine xmi Z (TL.shl _ Z Z (by omega) Z Z Z (TL.or _ Z Z Z Z Z (xai Z (dA (xL6 1 zab Z Z (xmi Z (xmi Z (xD [0] (zg2 hM hl) zjN Z ?_))))))))
 refine dA (xL6 1 zab Z Z (xmi Z (xD [0] (zeQ hM hl) zh5 Z (xai Z (dK (TC.loopK (X:=Nat×S×Int) [4] [1] (fun y=>[(9,.int .i64 y.2.2)]) (fun y=>[(0,A y.2.1)]) (fun y=>zbN l y.1 y.2.1 y.2.2=some σ2/\Room (7 * y.1) y.2.1) (fun y=>y.1) ((k,_,_)) ⟨h,zaB⟩ ⟨Z,Zt⟩ ⟨Z,Zt⟩ (fun y hI=>?_)))))))
 obtain ⟨k,σ1,z⟩:=y
 obtain ⟨hI,hzI⟩:=hI
 rcases k with _ | k
 ·simp [zbN] at hI
 dsimp only at hI hzI
 refine TC.sub (env':=[(9,_),(4,_)]) (L':=[(0,_),(1,_)]) ⟨Z,Z,Zt⟩ ⟨Z,Z,Zt⟩ (sB (xmi Z (TL.neq Z Z Z Z (fun q1=>?_) (fun q1=>?_))))
 refine TL.done (TQ.then (TC.condT Z (TC.skip (TQ.then (TC.seq (TC.block (TC.draw (od [1,3,5,7,8,10]) [1] fc_m (by kernel_rfl) (xL6 1 zab Z Z ?_))))))))
 refine xmi Z (xL6 1 zab Z Z (xmi Z (xd [0] (zgd hM hl) zh1 Z (kL1 Z Zt) (xd [0] (zg2 hM hl) zjN Z (kL1 Z Zt) (dI (xL6 1 zab Z Z (xmi Z (xD [0] (zeQ hM hl) zh5 Z ?_))))))))
 refine xai Z (TL.done (TQ.roundK ((k,_,_)) ⟨⟨(by rw [zbN,Zp q1] at hI; exact hI),zaB⟩,Nat.lt_succ_self _⟩ ⟨Z,Zt⟩ ⟨Z,Zt⟩ (kE1 Z Zt) (kL1 Z Zt)))
 refine TL.done (TQ.then (TC.condF Z (TC.exit (TQ.thenExit (TQ.thenExit (TQ.blockHere ?_))))))
 refine FQ.end0 (Bs:=[A _]) [0] Z Z ⟨Z,Zt⟩ ?_
 rw [zbN,Zn q1] at hI; cases hI; exact ⟨rfl,rfl⟩
theorem zqR {S:Type} [MemLike S] {mt:TypeId} {mv:Value} {A:S->Assn} (hM:MemI Tryz.prog mt mv A) {l:Lay} (hl:l.Ok) {p:Pen} {σ:S} {x m:Int} {k:Nat} {σ2:S} (h0:0<=m) (h:zgo l k σ x m false=some σ2) (hz:Room (7 * k+7) σ:=by exact zaB):FnD Tryz.prog 241 [zby l mt mv p,.int .i64 x,.int .i64 m,.bool false] [A σ] (.tuple #[]) [A σ2]:=by
 unfold zgo at h
 dsimp only [zkd] at h
 simp only [if_true,Bool.false_eq_true,if_false] at h
 refine Fn.enter (Tryz.func241) Z Z (fun w0 R=>?_)
 refine sA (xB 1 Z (fun bk1=>(dS (TC.draw (od [1,3,7,9,4,11,13]) [1] fc_m (by kernel_rfl) (xL6 1 zab Z Z (xmi Z (xmi Z (TL.shl _ Z Z (by omega) Z Z Z (xd [0] (zgd hM hl) zh1 Z (kL1 Z Zt) ?_)))))))))
 refine TL.andNot _ Z Z Z Z Z (xai Z (dB (xmf Z (dF Z (xL6 1 zab Z Z (xmi Z (xmi Z (xD [0] (zg2 hM hl) zjN Z ?_))))))))
 refine dA (xL6 1 zab Z Z (xmi Z (xD [0] (zeQ hM hl) zh5 Z (xai Z (dK (TC.loopK (X:=Nat×S×Int) [4] [1] (fun y=>[(9,.int .i64 y.2.2)]) (fun y=>[(0,A y.2.1)]) (fun y=>zbN l y.1 y.2.1 y.2.2=some σ2/\Room (7 * y.1) y.2.1) (fun y=>y.1) ((k,_,_)) ⟨h,zaB⟩ ⟨Z,Zt⟩ ⟨Z,Zt⟩ (fun y hI=>?_)))))))
 obtain ⟨k,σ1,z⟩:=y
 obtain ⟨hI,hzI⟩:=hI
 rcases k with _ | k
 ·simp [zbN] at hI
 dsimp only at hI hzI
 refine TC.sub (env':=[(9,_),(4,_)]) (L':=[(0,_),(1,_)]) ⟨Z,Z,Zt⟩ ⟨Z,Z,Zt⟩ (sB (xmi Z (TL.neq Z Z Z Z (fun q1=>?_) (fun q1=>?_))))
 refine TL.done (TQ.then (TC.condT Z (TC.skip (TQ.then (TC.seq (TC.block (TC.draw (od [1,3,5,7,8,10]) [1] fc_m (by kernel_rfl) (xL6 1 zab Z Z ?_))))))))
 refine xmi Z (xL6 1 zab Z Z (xmi Z (xd [0] (zgd hM hl) zh1 Z (kL1 Z Zt) (xd [0] (zg2 hM hl) zjN Z (kL1 Z Zt) (dI (xL6 1 zab Z Z (xmi Z (xD [0] (zeQ hM hl) zh5 Z ?_))))))))
 refine xai Z (TL.done (TQ.roundK ((k,_,_)) ⟨⟨(by rw [zbN,Zp q1] at hI; exact hI),zaB⟩,Nat.lt_succ_self _⟩ ⟨Z,Zt⟩ ⟨Z,Zt⟩ (kE1 Z Zt) (kL1 Z Zt)))
 refine TL.done (TQ.then (TC.condF Z (TC.exit (TQ.thenExit (TQ.thenExit (TQ.blockHere ?_))))))
 refine FQ.end0 (Bs:=[A _]) [0] Z Z ⟨Z,Zt⟩ ?_
 rw [zbN,Zn q1] at hI; cases hI; exact ⟨rfl,rfl⟩
theorem zsx {S:Type} [MemLike S] {mt:TypeId} {mv:Value} {A:S->Assn} (hM:MemI Tryz.prog mt mv A) {l:Lay} (hl:l.Ok) {p:Pen} {σ:S} {x m:Int} {on:Bool} {k:Nat} {σ2:S} (h0:0<=m) (h:zgo l k σ x m on=some σ2) (hz:Room (7 * k+7) σ:=by exact zaB):FnD Tryz.prog 241 [zby l mt mv p,.int .i64 x,.int .i64 m,.bool on] [A σ] (.tuple #[]) [A σ2]:=by
 cases on
 ·exact zqR hM hl h0 h
 ·exact zsw hM hl h0 h
theorem zmS {S:Type} [MemLike S] {mt:TypeId} {mv:Value} {A:S->Assn} (hM:MemI Tryz.prog mt mv A) {l:Lay} (hl:l.Ok) {p:Pen} {σ:S} {x m:Int} (h0:0<=m) (hz:Room (1) σ:=by exact zaB):FnD Tryz.prog 257 [zby l mt mv p,.int .i64 x,.int .i64 m] [A σ] (.bool (marked l σ x m)) [A (zfR l σ x)]:=by
 refine Fn.enter (Tryz.func257) Z Z (fun w0 R=>?_)
 refine sA (xB 1 Z (fun bk1=>(xaf Z (dA (xL6 1 zab Z Z (xmi Z (xD [0] (zgd hM hl) zh1 Z (xmi Z (TL.shr _ Z Z (by omega) Z Z Z ?_)))))))))
 refine TL.and _ Z Z Z Z Z (TL.eqlV Z Z Z Z (xab Z (dR ?_)))
 refine FQ.ret1 (v:=(.bool _)) (Bs:=[A _]) [0] Z Z Z ⟨Z,Zt⟩ ?_
 exact ⟨Z,Z⟩
theorem zwN {S:Type} [MemLike S] {mt:TypeId} {mv:Value} {A:S->Assn} (hM:MemI Tryz.prog mt mv A) {l:Lay} (hl:l.Ok) {p:Pen} {σ:S} {x m:Int} (h0:0<=m) (hz:Room (1) σ:=by exact zaB):FnD Tryz.prog 278 [zby l mt mv p,.int .i64 x,.int .i64 m] [A σ] (.bool (has l σ x m)) [A (zb7 l σ x)]:=by
 refine Fn.enter (Tryz.func278) Z Z (fun w0 R=>?_)
 refine sA (xB 1 Z (fun bk1=>(xaf Z (dA (xL6 1 zab Z Z (xmi Z (xD [0] (zi2 hM hl) zjM Z (TL.shr _ Z Z (by decide) Z Z Z (xmi Z ?_)))))))))
 refine TL.shr _ Z Z (by omega) Z Z Z (TL.and _ Z Z Z Z Z (TL.eqlV Z Z Z Z (xab Z (dR ?_))))
 refine FQ.ret1 (v:=(.bool _)) (Bs:=[A _]) [0] Z Z Z ⟨Z,Zt⟩ ?_
 exact ⟨Z,Z⟩
theorem zvO {S:Type} [MemLike S] {mt:TypeId} {mv:Value} {A:S->Assn} (hM:MemI Tryz.prog mt mv A) {l:Lay} (hl:l.Ok) {p:Pen} {σ:S} {x m r:Int} {k:Nat} {σ2:S} (h0:0<=m) (h:first l k σ x m=some (r,σ2)) (hz:Room (4 * k+1) σ:=by exact zaB):FnD Tryz.prog 264 [zby l mt mv p,.int .i64 x,.int .i64 m] [A σ] (.int .i64 r) [A σ2]:=by
 unfold first at h
 refine Fn.enter (Tryz.func264) Z Z (fun w0 R=>?_)
 refine sA (xB 1 Z (fun bk1=>(xai Z (dA (xmi Z (xai Z (dB (xL6 1 zab Z Z (xmi Z ?_)))))))))
 refine xmi rfl (xD [0] (zwN hM hl h0) zti rfl (TL.cases rfl (fun q1=>?_) (fun q1=>?_)))
 refine xnt Z (TL.done (TQ.then (TC.condF Z (TC.skip (TQ.then (TC.block (TC.loopK (X:=Nat×S×Int) [2,3] [1] (fun y=>[(7,.int .i64 y.2.2)]) (fun y=>[(0,A y.2.1)]) (fun y=>zcR l m y.1 y.2.1 y.2.2=some (r,σ2)/\Room (4 * y.1) y.2.1) (fun y=>y.1) ((k,zb7 l σ x,x)) ⟨(by rw [Zp q1] at h; exact h),zaB⟩ ⟨Z,Zt⟩ ⟨Z,Zt⟩ (fun y hI=>?_))))))))
 obtain ⟨k,σ1,z⟩:=y
 obtain ⟨hI,hzI⟩:=hI
 rcases k with _ | k
 ·simp [zcR] at hI
 dsimp only at hI hzI
 refine TC.sub (env':=[(7,_),(2,_),(3,_)]) (L':=[(0,_),(1,_)]) ⟨Z,Z,Z,Zt⟩ ⟨Z,Z,Zt⟩ (TC.block (sA (xL6 1 zab Z Z (xmi Z (xD [0] (zd9 hM hl) zep Z (xai Z (dK (sA ?_))))))))
 refine xL6 1 zab rfl rfl (xmi rfl (xmi rfl (xD [0] (zwN hM hl h0) zti rfl (TL.cases rfl (fun q2=>?_) (fun q2=>?_)))))
 refine xat Z (TL.done (TQ.then (TC.condT Z (TC.region (xmi Z (xai Z (TL.done (TQ.inBlock ?_))))))))
 refine TQ.inBlock (TQ.roundK ((k,zb7 l (zdZ l σ1 z 3) (tget l σ1 z 3),_)) ⟨⟨(by rw [zcR] at hI; dsimp only at hI; rw [Zp q2] at hI; exact hI),zaB⟩,Nat.lt_succ_self _⟩ ⟨Z,Zt⟩ ⟨Z,Zt⟩ (kE2 Z Z Zt) (kL1 Z Zt))
 refine xaf Z (TL.done (TQ.then (TC.condF Z (sA (xL6 1 zab Z Z (xmi Z (xmi Z (xD [0] (zmS hM hl h0) ztk Z ?_))))))))
 refine TL.cases rfl (fun q3=>?_) (fun q3=>?_)
 refine xat Z (dT Z (xmi Z (xai Z (dR (TQ.blockRet (TQ.blockRet (TQ.thenRet (TQ.blockRet ?_))))))))
 refine FQ.ret1 (v:=(.int _ _)) (Bs:=[A _]) [0] Z Z Z ⟨Z,Zt⟩ ?_
 rw [zcR] at hI; dsimp only at hI; rw [Zn (by rw [q2]; decide),Zp q3] at hI; cases hI; exact ⟨rfl,rfl⟩
 refine xaf Z (TL.done (TQ.then (TC.condF Z (TC.region (xL6 1 zab Z Z (xmi Z (xD [0] (zd9 hM hl) zep Z (xai Z ?_))))))))
 refine TL.done (TQ.inBlock (TQ.inBlock (TQ.roundK ((k,zdZ l (zb7 l (zb7 l (zdZ l σ1 z 3) (tget l σ1 z 3)) z) z 4,_)) ⟨⟨(by rw [zcR] at hI; dsimp only at hI; rw [Zn (by rw [q2]; decide),Zn (by rw [q3]; decide)] at hI; exact hI),zaB⟩,Nat.lt_succ_self _⟩ ⟨Z,Zt⟩ ⟨Z,Zt⟩ (kE2 Z Z Zt) (kL1 Z Zt))))
 refine xnf Z (dT Z (xai Z (dRR ?_)))
 refine FQ.ret1 (v:=(.int _ _)) (Bs:=[A _]) [0] Z Z Z ⟨Z,Zt⟩ ?_
 rw [Zn (by rw [q1]; decide)] at h; cases h; exact ⟨rfl,rfl⟩
theorem zqa {S:Type} [MemLike S] {mt:TypeId} {mv:Value} {A:S->Assn} (hM:MemI Tryz.prog mt mv A) {l:Lay} (hl:l.Ok) {p:Pen} {σ:S} {i u r:Int} {k:Nat} {σ2:S} (h:zf1 l p k σ i u=some (r,σ2)) (hz:Room (29 * k+9) σ:=by exact zaB):FnD Tryz.prog 240 [zby l mt mv p,.int .i64 i,.int .i64 u] [A σ] (.int .i64 r) [A σ2]:=by
 unfold zf1 at h
 dsimp only at h
 obtain ⟨⟨a,σa⟩,h1,h⟩:=Zb h
 obtain ⟨⟨j,σb⟩,h2,h⟩:=Zb h
 obtain ⟨⟨s,σc⟩,h3,h4⟩:=Zb h
 dsimp only at h1 h2 h3 h4
 refine Fn.enter (Tryz.func240) Z Z (fun w0 R=>?_)
 refine sA (xB 1 Z (fun bk1=>(xai Z (dA (xf 0 zak Z (xf 0 zaE Z (xL3 1 zac Z Z (xmi Z (xmi Z ?_)))))))))
 refine xD [] (zc6 hl) zfx Z (xai Z (dS (TC.draw (od [1,3,5,7,9,13,15,17,10,18,20,23,25,27,29,31]) [1] fc_m (by kernel_rfl) (xf 0 zak Z (xL6 1 zab Z Z (xf 0 zak Z (xL6 1 zab Z Z (xmi Z ?_))))))))
 refine xf 0 zak Z (xL6 1 zab Z Z (xmi Z (xd [0] (zfc hM hl h1) zfw Z (kL1 Z Zt) (xd [0] (zlG hM hl h2) zoq Z (kL1 Z Zt) (xd [0] (zda hM hl h3) zfu Z (kL1 Z Zt) (xmu Z (xei Z Z (xei Z Z ?_))))))))
 refine xai Z (xai Z (dA (xf 0 zak Z (xL6 1 zab Z Z (xmi Z (xmi Z (xD [0] (zeS hM hl h4) zh3 Z (xai Z ?_))))))))
 refine dR ?_
 refine FQ.ret1 (v:=(.int _ _)) (Bs:=[A _]) [0] Z Z Z ⟨Z,Zt⟩ ?_
 exact ⟨Z,Z⟩
theorem zrK {S:Type} [MemLike S] {mt:TypeId} {mv:Value} {A:S->Assn} (hM:MemI Tryz.prog mt mv A) {l:Lay} (hl:l.Ok) {p:Pen} {σ:S} {i u v:Int} {b:Bool} {k:Nat} {σ2:S} (h:same l k σ i u v=some (b,σ2)) (hz:Room (2 * k) σ:=by exact zaB):FnD Tryz.prog 202 [zby l mt mv p,.int .i64 i,.int .i64 u,.int .i64 v] [A σ] (.bool b) [A σ2]:=by
 unfold same at h
 obtain ⟨⟨a,σa⟩,h1,h⟩:=Zb h
 obtain ⟨⟨c,σb⟩,h2,h⟩:=Zb h
 dsimp only at h1 h2 h
 cases h
 refine Fn.enter (Tryz.func202) Z Z (fun w0 R=>?_)
 refine sA (xB 1 Z (fun bk1=>(xaf Z (dS (TC.draw (od [1,3,5,7,9,11,13,19,21,23,25,27,29,31,14,16,32,34,37,39]) [1] fc_m (by kernel_rfl) (xf 0 zak Z (xL6 1 zab Z Z (xf 0 zak Z (xf 0 zaE Z ?_)))))))))
 refine xL3 1 zac Z Z (xmi Z (xmi Z (xf 0 zak Z (xL6 1 zab Z Z (xf 0 zak Z (xf 0 zaE Z (xL3 1 zac Z Z (xmi Z ?_))))))))
 refine xmi Z (xd [] (zc6 hl) zfx Z (kL1 Z Zt) (xd [0] (zfc hM hl h1) zfw Z (kL1 Z Zt) (xd [] (zc6 hl) zfx Z (kL1 Z Zt) (xd [0] (zfc hM hl h2) zfw Z (kL1 Z Zt) (TL.eqlV Z Z Z Z (xab Z (dR ?_)))))))
 refine FQ.ret1 (v:=(.bool _)) (Bs:=[A _]) [0] Z Z Z ⟨Z,Zt⟩ ?_
 exact ⟨Z,Z⟩
theorem zp4 {S:Type} [MemLike S] {mt:TypeId} {mv:Value} {A:S->Assn} (hM:MemI Tryz.prog mt mv A) {l:Lay} (hl:l.Ok) {p:Pen} {σ:S} {i u r:Int} {k:Nat} {σ2:S} (h:count l k σ i u=some (r,σ2)) (hz:Room (k+1) σ:=by exact zaB):FnD Tryz.prog 245 [zby l mt mv p,.int .i64 i,.int .i64 u] [A σ] (.int .i64 r) [A σ2]:=by
 unfold count at h
 obtain ⟨⟨a,σa⟩,h1,h⟩:=Zb h
 dsimp only at h1 h
 cases h
 refine Fn.enter (Tryz.func245) Z Z (fun w0 R=>?_)
 refine sA (xB 1 Z (fun bk1=>(xai Z (dS (TC.draw (od [1,3,5,7,9,11,13,15,17,18,20,22,25]) [1] fc_m (by kernel_rfl) (xf 0 zak Z (xL6 1 zab Z Z (xf 0 zak Z (xL6 1 zab Z Z ?_)))))))))
 refine xf 0 zak Z (xf 0 zaE Z (xL3 1 zac Z Z (xmi Z (xmi Z (xd [] (zc6 hl) zfx Z (kL1 Z Zt) (xd [0] (zfc hM hl h1) zfw Z (kL1 Z Zt) (xd [0] (zuT hM hl) zyP Z (kL1 Z Zt) (xai Z ?_))))))))
 refine dR ?_
 refine FQ.ret1 (v:=(.int _ _)) (Bs:=[A _]) [0] Z Z Z ⟨Z,Zt⟩ ?_
 exact ⟨Z,Z⟩
theorem zqd {mt:TypeId} {mv:Value} {l:Lay} (hl:l.Ok) {p:Pen} {i s:Int}:FnD Tryz.prog 238 [zby l mt mv p,.int .i64 i,.int .i64 s] [] (.tuple #[.int .i64 (l.arc s i 0),.int .i64 (l.arc s i 1)]) []:=by
 refine Fn.enter (Tryz.func238) Z Z (fun w0 R=>?_)
 refine sA (xB 0 Z (fun bk0=>(xai Z (xai Z (dS (TC.draw (od [1,3,5,7,9,13,15,17,19,21,10,22,25,27]) [0] fc_m (by kernel_rfl) (xf 0 zak Z (xf 0 zaE Z (xL3 0 zac Z Z ?_)))))))))
 refine xmi Z (xmi Z (xf 0 zak Z (xf 0 zaE Z (xL3 0 zac Z Z (xmi Z (xmi Z (xd [] (zuy hl) zor Z (kL1 Z Zt) (xd [] (zuy hl) zor Z (kL1 Z Zt) ?_))))))))
 refine xai Z (xai Z (dR ?_))
 refine FQ.ret2 (v:=(.int _ _)) (x:=(.int _ _)) (Bs:=[]) [] Z Z Z Z Zt ?_
 exact ⟨Z,Z⟩
theorem zsK {S:Type} [MemLike S] {mt:TypeId} {mv:Value} {A:S->Assn} (hM:MemI Tryz.prog mt mv A) {l:Lay} (hl:l.Ok) {p:Pen} {σ:S} {i s u v r:Int} {k:Nat} {σ2:S} (h:link l p k σ i s u v=some (r,σ2)) (hz:Room (94 * k+24) σ:=by exact zaB):FnD Tryz.prog 208 [zby l mt mv p,.int .i64 i,.int .i64 s,.int .i64 u,.int .i64 v] [A σ] (.int .i64 r) [A σ2]:=by
 unfold link at h
 obtain ⟨⟨a,σa⟩,h1,h⟩:=Zb h
 obtain ⟨⟨x,σb⟩,h2,h⟩:=Zb h
 obtain ⟨⟨b,σc⟩,h3,h⟩:=Zb h
 obtain ⟨⟨y,σd⟩,h4,h5⟩:=Zb h
 dsimp only at h1 h2 h3 h4 h5
 refine Fn.enter (Tryz.func208) Z Z (fun w0 R=>?_)
 refine sA (xB 1 Z (fun bk1=>(xai Z (dA (xL6 1 zbW Z Z (xmi Z (xmi Z (xD [] (zqd hl) zto Z (xmu Z ?_)))))))))
 refine xei Z Z (xei Z Z (xai Z (xai Z (dS (TC.draw (od [1,3,5,7,9,13,10,14,17]) [1] fc_m (by kernel_rfl) (xf 0 zak Z (xL6 1 zab Z Z (xL6 1 zbW Z Z ?_))))))))
 refine xmi Z (xmi Z (xmi Z (xd [0] (zqa hM hl h1) ztn Z (kL1 Z Zt) (xd [0] (zeS hM hl h2) zh3 Z (kL1 Z Zt) (xai Z (dS (TC.draw (od [1,3,5,7,9,11,12,14,17]) [1] fc_m (by kernel_rfl) (xf 0 zak Z ?_))))))))
 refine xL6 1 zab Z Z (xmi Z (xL6 1 zbW Z Z (xmi Z (xmi Z (xd [0] (zqa hM hl h3) ztn Z (kL1 Z Zt) (xd [0] (zeS hM hl h4) zh3 Z (kL1 Z Zt) (xai Z (dA ?_))))))))
 refine xf 0 zak Z (xL6 1 zab Z Z (xmi Z (xmi Z (xD [0] (zeS hM hl h5) zh3 Z (xai Z (dR ?_))))))
 refine FQ.ret1 (v:=(.int _ _)) (Bs:=[A _]) [0] Z Z Z ⟨Z,Zt⟩ ?_
 exact ⟨Z,Z⟩
theorem zAX {S:Type} [MemLike S] {mt:TypeId} {mv:Value} {A:S->Assn} (hM:MemI Tryz.prog mt mv A) {l:Lay} (hl:l.Ok) {p:Pen} {σ:S} {i s:Int} {r:Int×Int} {k:Nat} {σ2:S} (h:cut l p k σ i s=some (r,σ2)) (hz:Room (69 * k+36) σ:=by exact zaB):FnD Tryz.prog 212 [zby l mt mv p,.int .i64 i,.int .i64 s] [A σ] (.tuple #[.int .i64 r.1,.int .i64 r.2]) [A σ2]:=by
 unfold cut at h
 dsimp only at h
 obtain ⟨⟨i0,σa⟩,h1,h⟩:=Zb h
 obtain ⟨⟨j0,σb⟩,h2,h⟩:=Zb h
 obtain ⟨⟨rt,σc⟩,h3,h⟩:=Zb h
 obtain ⟨⟨s1,σd⟩,h4,h⟩:=Zb h
 obtain ⟨⟨s2,σe⟩,h5,h⟩:=Zb h
 obtain ⟨⟨s3,σf⟩,h6,h⟩:=Zb h
 obtain ⟨⟨s4,σg⟩,h7,h⟩:=Zb h
 obtain ⟨⟨m,σh⟩,h8,h9⟩:=Zb h
 dsimp only at h1 h2 h3 h4 h5 h6 h7 h8 h9
 cases h9
 refine Fn.enter (Tryz.func212) Z Z (fun w0 R=>?_)
 refine sA (xB 1 Z (fun bk1=>(xai Z (xai Z (dA (xL6 1 zbW Z Z (xmi Z (xmi Z (xD [] (zqd hl) zto Z ?_)))))))))
 refine xmu Z (xei Z Z (xei Z Z (xai Z (xai Z (dS (TC.draw (od [1,3,5,9,11,13,6,14,17,19]) [1] fc_m (by kernel_rfl) (xf 0 zak Z (xL6 1 zab Z Z ?_))))))))
 refine xmi Z (xf 0 zak Z (xL6 1 zab Z Z (xmi Z (xd [0] (zlG hM hl h1) zoq Z (kL1 Z Zt) (xd [0] (zlG hM hl h2) zoq Z (kL1 Z Zt) (xai Z (xai Z (dB ?_))))))))
 refine xmi Z (xmi Z (TL.gtr Z Z Z Z (fun q1=>?_) (fun q1=>?_)))
 refine TL.done (TQ.then (TC.condT Z (TC.region (xmi Z (xmi Z (xai Z (xai Z (dS ?_))))))))
 refine TC.draw (od [1,3,5,7,9,13,10,14,17,19,21,23,25]) [1] fc_m (by kernel_rfl) (xf 0 zak Z (xL6 1 zab Z Z (xf 0 zak Z (xL6 1 zab Z Z (xmi Z (xmi Z (xd [0] (zfc hM hl h3) zfw Z (kL1 Z Zt) (xd [0] (zda hM hl (by rw [Zp q1] at h4; exact h4)) zfu Z (kL1 Z Zt) ?_))))))))
 refine xmu Z (xei Z Z (xei Z Z (xai Z (xai Z (dA (xf 0 zak Z (xL6 1 zab Z Z (xmi Z ?_))))))))
 refine xD [0] (zda hM hl h5) zfu Z (xmu Z (xei Z Z (xei Z Z (xai Z (dA (xf 0 zak Z (xL6 1 zab Z Z (xmi Z ?_))))))))
 refine xmi Z (xD [0] (zda hM hl (by rw [Zp q1] at h6; exact h6)) zfu Z (xmu Z (xei Z Z (xei Z Z (xai Z (xai Z (dA (xf 0 zak Z ?_))))))))
 refine xL6 1 zab Z Z (xmi Z (xD [0] (zda hM hl h7) zfu Z (xmu Z (xei Z Z (xei Z Z (xai Z (dA (xf 0 zak Z ?_))))))))
 refine xL6 1 zab Z Z (xmi Z (xD [0] (zhy hM hl) zjS Z (dA (xf 0 zak Z (xL6 1 zab Z Z (xmi Z (xD [0] (zhy hM hl) zjS Z (dA ?_))))))))
 refine xmi Z (xf 0 zak Z (xL6 1 zab Z Z (xmi Z (xmi Z (xD [0] (zeS hM hl h8) zh3 Z (xai Z (xai Z (dR ?_))))))))
 refine FQ.ret2 (v:=(.int _ _)) (x:=(.int _ _)) (Bs:=[A _]) [0] Z Z Z Z ⟨Z,Zt⟩ ?_
 exact ⟨Z,Z⟩
 refine TL.done (TQ.then (TC.condF Z (TC.skip (TQ.then (TC.seq (TC.draw (od [1,3,5,7,9,13,10,14,17,19,21,23,25]) [1] fc_m (by kernel_rfl) (xf 0 zak Z (xL6 1 zab Z Z ?_))))))))
 refine xf 0 zak Z (xL6 1 zab Z Z (xmi Z (xmi Z (xd [0] (zfc hM hl h3) zfw Z (kL1 Z Zt) (xd [0] (zda hM hl (by rw [Zn q1] at h4; exact h4)) zfu Z (kL1 Z Zt) (xmu Z (xei Z Z (xei Z Z ?_))))))))
 refine xai Z (xai Z (dA (xf 0 zak Z (xL6 1 zab Z Z (xmi Z (xD [0] (zda hM hl h5) zfu Z (xmu Z (xei Z Z ?_))))))))
 refine xei Z Z (xai Z (dA (xf 0 zak Z (xL6 1 zab Z Z (xmi Z (xmi Z (xD [0] (zda hM hl (by rw [Zn q1] at h6; exact h6)) zfu Z (xmu Z ?_))))))))
 refine xei Z Z (xei Z Z (xai Z (xai Z (dA (xf 0 zak Z (xL6 1 zab Z Z (xmi Z (xD [0] (zda hM hl h7) zfu Z ?_))))))))
 refine xmu Z (xei Z Z (xei Z Z (xai Z (dA (xf 0 zak Z (xL6 1 zab Z Z (xmi Z (xD [0] (zhy hM hl) zjS Z ?_))))))))
 refine dA (xf 0 zak Z (xL6 1 zab Z Z (xmi Z (xD [0] (zhy hM hl) zjS Z (dA (xmi Z (xf 0 zak Z (xL6 1 zab Z Z ?_))))))))
 refine xmi Z (xmi Z (xD [0] (zeS hM hl h8) zh3 Z (xai Z (xai Z (dR ?_)))))
 refine FQ.ret2 (v:=(.int _ _)) (x:=(.int _ _)) (Bs:=[A _]) [0] Z Z Z Z ⟨Z,Zt⟩ ?_
 exact ⟨Z,Z⟩
theorem zxd {b:Bool}:FnD Tryz.prog 204 [.bool b] [] (.int .u64 (bit b)) []:=by
 refine Fn.enter (Tryz.func204) Z Z (fun w0 R=>?_)
 refine sA (xai rfl (dB (xmb rfl (TL.cases rfl (fun q1=>?_) (fun q1=>?_)))))
 refine dT Z (xai Z (dRR ?_))
 refine FQ.ret1 (v:=(.int _ _)) (Bs:=[]) [] Z Z Z Zt ?_
 cases b<;>first | exact ⟨rfl,rfl⟩ | (exfalso; simp at q1)
 refine dF Z (xai Z (dR ?_))
 refine FQ.ret1 (v:=(.int _ _)) (Bs:=[]) [] Z Z Z Zt ?_
 cases b<;>first | exact ⟨rfl,rfl⟩ | (exfalso; simp at q1)
theorem zyr {S:Type} [MemLike S] {mt:TypeId} {mv:Value} {A:S->Assn} (hM:MemI Tryz.prog mt mv A) {l:Lay} (hl:l.Ok) {σ:S} {u v:Int} (hz:Room (1) σ:=by exact zaB):FnD Tryz.prog 171 [zjY l mt mv,.int .i64 u,.int .i64 v] [A σ] (.tuple #[.int .i64 (find l σ u v).slot,.bool (find l σ u v).tree,.bool (find l σ u v).ok]) [A (znd l σ u v)]:=by
 refine Fn.enter (Tryz.func171) Z Z (fun w0 R=>?_)
 refine sA (xB 1 Z (fun bk1=>(xai Z (xaf Z (xaf Z (dS (TC.draw (od [1,3,5,7,9,11,15,17,12,18,21]) [1] fc_m (by kernel_rfl) (xf 3 zbF Z (xlc 1 zbw Z Z ?_)))))))))
 refine xf 0 zaK Z (xL3 1 zac Z Z (xmi Z (xmi Z (TL.ncI Z Z Z (xmc Z (xd [] (zjZ hl) zjT Z (kL1 Z Zt) (TL.mload 0 hM Z Z Z Z Z (kL1 Z Zt) (xai Z ?_))))))))
 refine dB (xmi Z (TL.eql Z Z Z Z (fun q1=>?_) (fun q1=>?_)))
 refine dT Z (xai Z (xaf Z (xaf Z (dRR ?_))))
 refine FQ.ret3 (v:=(.int _ _)) (x:=(.bool false)) (y:=(.bool false)) (Bs:=[A _]) [0] Z Z Z Z Z ⟨Z,Zt⟩ ?_
 first | exact ⟨(by unfold find; dsimp only; rw [Zp q1]),Z⟩ | exact ⟨(by unfold find; dsimp only; rw [Zn q1]; rfl),Z⟩
 refine dF Z (xmi Z (TL.shr _ Z Z (by decide) Z Z Z (TL.conv _ Z zdV zaQ (Z) Z Z (TL.sub _ Z Z (Z) Z Z (xmi Z (TL.and _ Z Z Z Z Z (TL.eqlV Z Z Z Z (xai Z ?_))))))))
 refine xab Z (xat Z (dR ?_))
 refine FQ.ret3 (v:=(.int _ _)) (x:=(.bool _)) (y:=(.bool true)) (Bs:=[A _]) [0] Z Z Z Z Z ⟨Z,Zt⟩ ?_
 first | exact ⟨(by unfold find; dsimp only; rw [Zp q1]),Z⟩ | exact ⟨(by unfold find; dsimp only; rw [Zn q1]; rfl),Z⟩
theorem zzA {S:Type} [MemLike S] {mt:TypeId} {mv:Value} {A:S->Assn} (hM:MemI Tryz.prog mt mv A) {l:Lay} (hl:l.Ok) {σ:S} {s u v i:Int} {t:Bool} (hz:Room (3) σ:=by exact zaB):FnD Tryz.prog 161 [zjY l mt mv,.int .i64 s,.int .i64 u,.int .i64 v,.int .i64 i,.bool t] [A σ] (.tuple #[]) [A (eput l σ s u v i t)]:=by
 refine Fn.enter (Tryz.func161) Z Z (fun w0 R=>?_)
 refine sA (xB 1 Z (fun bk1=>(dS (TC.draw (od [1,3,5,7,9,13,15,17,19,21,23,25,27,29,31,33,10,34]) [1] fc_m (by kernel_rfl) (xf 3 zbF Z (xlc 1 zbw Z Z (xf 0 zaK Z (xL3 1 zac Z Z (xmi Z ?_)))))))))
 refine xmi Z (xmi Z (TL.min2 Z Z Z Z (TL.shl _ Z Z (by decide) Z Z Z (xmi Z (xmi Z (TL.max2 Z Z Z Z (TL.or _ Z Z Z Z Z (TL.conv _ Z zgp zbs (Z) Z Z ?_))))))))
 refine TL.ncI Z Z Z (xmc Z (xd [] (zt1 hl) zty Z (kL1 Z Zt) (TL.mstore 0 hM Z Z Z (by first | exact zcY _ | exact zbA _ _ | exact MemLike.rng _ _ | decide | assumption) Z Z Z (kL1 Z Zt) (dS (TC.draw (od [1,3,5,7,9,13,15,17,19,10,20]) [1] fc_m (by kernel_rfl) (xf 3 zbF Z (xlc 1 zbw Z Z (xf 0 zaK Z ?_))))))))
 refine xL3 1 zac Z Z (xmi Z (xmi Z (TL.conv _ Z zgp zbs (Z) Z Z (TL.ncI Z Z Z (xmc Z (xd [] (zlD hl) zoz Z (kL1 Z Zt) (TL.mstore 0 hM Z Z Z (by first | exact zcY _ | exact zbA _ _ | exact MemLike.rng _ _ | decide | assumption) Z Z Z (kL1 Z Zt) (TL.done ?_))))))))
 refine TQ.then (TC.draw (od [1,3,5,7,9,11,15,17,19,21,23,29,31,12,24,27,32]) [1] fc_m (by kernel_rfl) (xf 3 zbF Z (xlc 1 zbw Z Z (xf 0 zaK Z (xL3 1 zac Z Z (xmi Z (xmi Z (xmi Z ?_))))))))
 refine TL.add _ Z Z (Z) Z Z (TL.conv _ Z zgp zbs (Z) Z Z (TL.shl _ Z Z (by decide) Z Z Z (xmb Z (TL.ncI Z Z Z (xmc Z (xd [] (zjZ hl) zjT Z (kL1 Z Zt) (xd [] zxd ztx Z (kL1 Z Zt) (TL.or _ Z Z Z Z Z ?_))))))))
 refine TL.mstore 0 hM Z Z Z (by first | exact zcY _ | exact zbA _ _ | exact MemLike.rng _ _ | decide | assumption) Z Z Z (kL1 Z Zt) (TL.done ?_)
 refine FQ.end0 (Bs:=[A _]) [0] Z Z ⟨Z,Zt⟩ ?_
 exact ⟨Z,Z⟩
theorem zkO {S:Type} [MemLike S] {mt:TypeId} {mv:Value} {A:S->Assn} (hM:MemI Tryz.prog mt mv A) {l:Lay} (hl:l.Ok) {σ:S} {u v:Int} (hz:Room (1) σ:=by exact zaB):FnD Tryz.prog 174 [zjY l mt mv,.int .i64 u,.int .i64 v] [A σ] (.tuple #[]) [A (zcE l σ u v)]:=by
 refine Fn.enter (Tryz.func174) Z Z (fun w0 R=>?_)
 refine sA (xB 1 Z (fun bk1=>(TL.done (TQ.then (TC.draw (od [1,3,5,7,9,11,15,17,12,18]) [1] fc_m (by kernel_rfl) (xf 3 zbF Z (xlc 1 zbw Z Z (xf 0 zaK Z (xL3 1 zac Z Z ?_)))))))))
 refine xmi Z (xmi Z (TL.ncI Z Z Z (xmc Z (xd [] (zjZ hl) zjT Z (kL1 Z Zt) (TL.mstore 0 hM Z Z Z (by first | exact zcY _ | exact zbA _ _ | exact MemLike.rng _ _ | decide | assumption) Z Z Z (kL1 Z Zt) (TL.done ?_))))))
 refine FQ.end0 (Bs:=[A _]) [0] Z Z ⟨Z,Zt⟩ ?_
 exact ⟨Z,Z⟩
theorem zpY {S:Type} [MemLike S] {mt:TypeId} {mv:Value} {A:S->Assn} (hM:MemI Tryz.prog mt mv A) {l:Lay} (hl:l.Ok) {σ:S} {s:Int} (hz:Room (1) σ:=by exact zaB):FnD Tryz.prog 170 [zjY l mt mv,.int .i64 s] [A σ] (.tuple #[.int .i64 (endsU l σ s),.int .i64 (endsV l σ s)]) [A (zht l σ s)]:=by
 refine Fn.enter (Tryz.func170) Z Z (fun w0 R=>?_)
 refine sA (xB 1 Z (fun bk1=>(xai Z (xai Z (dS (TC.draw (od [1,3,5,7,9,13,15,10,16,19,21]) [1] fc_m (by kernel_rfl) (xf 3 zbF Z (xlc 1 zbw Z Z (xf 0 zaK Z ?_)))))))))
 refine xL3 1 zac Z Z (xmi Z (TL.ncI Z Z Z (xmc Z (xd [] (zt1 hl) zty Z (kL1 Z Zt) (TL.mload 0 hM Z Z Z Z Z (kL1 Z Zt) (TL.conv _ Z zdV zaQ (Z) Z Z (xai Z (dA ?_))))))))
 refine xmi Z (TL.shr _ Z Z (by decide) Z Z Z (xmi Z (TL.and _ Z Z Z Z Z (xai Z (xai Z (dR ?_))))))
 refine FQ.ret2 (v:=(.int _ _)) (x:=(.int _ _)) (Bs:=[A _]) [0] Z Z Z Z ⟨Z,Zt⟩ ?_
 exact ⟨Z,Z⟩
theorem zdD {S:Type} [MemLike S] {mt:TypeId} {mv:Value} {A:S->Assn} (hM:MemI Tryz.prog mt mv A) {l:Lay} (hl:l.Ok) {σ:S} {s:Int} (hz:Room (3) σ:=by exact zaB):FnD Tryz.prog 134 [zjY l mt mv,.int .i64 s] [A σ] (edgV (eget l σ s)) [A (zfz l σ s)]:=by
 refine Fn.enter (Tryz.func134) Z Z (fun w0 R=>?_)
 refine sA (xB 1 Z (fun bk1=>(TL.alloc 2 (cs:=#[.int .i64 0,.int .i64 0,.int .i64 0,.bool false]) zdt Z Z Z (fun _=>Zt) (fun bk2=>(dA (xL4 1 za3 Z Z (xmi Z (xD [0] (zpY hM hl) ztK Z (xmu Z (xei Z Z ?_))))))))))
 refine xei Z Z (xai Z (xai Z (dA (xL4 1 za3 Z Z (xmi Z (xmi Z (xD [0] (zyr hM hl) zzc Z (xmu Z ?_))))))))
 refine xei Z Z (TL.ext (.bool _) Z Z Z Z (TL.ext (.bool _) Z Z Z Z (xai Z (xab Z (xab Z (dS (TC.draw (od [1,3,5,7,9,11,13,17,19,25,14,20,23,27,28]) [1] fc_m (by kernel_rfl) (xmi Z ?_))))))))
 refine xmi Z (xf 3 zbF Z (xlc 1 zbw Z Z (xf 0 zaK Z (xL3 1 zac Z Z (xmi Z (TL.ncI Z Z Z (xmc Z (xmb Z ?_))))))))
 refine xd [] (zlD hl) zoz Z (kL1 Z Zt) (TL.mload 0 hM Z Z Z Z Z (kL1 Z Zt) (TL.conv _ Z zdV zaQ (Z) Z Z (TL.bld [.int .i64 0,.int .i64 0,.int .i64 0,.bool false] [(.int _ _),(.int _ _),(.int _ _),(.bool _)] [_,_,_,_] zdt zyD ⟨Z,Z,Z,Z,Zt⟩ ⟨Z,Z⟩ Z Z (TL.stW 2 4 [_,_,_,_] Z Z Z Z Z Z zbV Z Z (kL1 Z Zt) (dR ?_)))))
 refine FQ.retG (rs:=[.cell 4 217]) [(.agg _)] (Bs:=[A _]) [0] Z ⟨⟨_,_,_,_,_,2,Z,Z,.inr ⟨4,[_,_,_,_],zbV,Z,Z⟩⟩,Zt⟩ Z Z ⟨Z,Zt⟩ ?_
 exact ⟨Z,Z⟩
theorem zvR {S:Type} [MemLike S] {mt:TypeId} {mv:Value} {A:S->Assn} (hM:MemI Tryz.prog mt mv A) {l:Lay} (hl:l.Ok) {σ:S} {s:Int} {t:Bool} (hz:Room (2) σ:=by exact zaB):FnD Tryz.prog 207 [zjY l mt mv,.int .i64 s,.bool t] [A σ] (.tuple #[]) [A (zhs l σ s t)]:=by
 refine Fn.enter (Tryz.func207) Z Z (fun w0 R=>?_)
 refine sA (xB 1 Z (fun bk1=>(dA (xL4 1 za3 Z Z (xmi Z (xD [0] (zpY hM hl) ztK Z (xmu Z (xei Z Z (xei Z Z ?_)))))))))
 refine xai Z (xai Z (TL.done (TQ.then (TC.draw (od [1,3,5,7,9,11,15,17,19,21,23,29,31,12,24,27,32]) [1] fc_m (by kernel_rfl) (xf 3 zbF Z (xlc 1 zbw Z Z (xf 0 zaK Z (xL3 1 zac Z Z ?_))))))))
 refine xmi Z (xmi Z (xmi Z (TL.add _ Z Z (Z) Z Z (TL.conv _ Z zgp zbs (Z) Z Z (TL.shl _ Z Z (by decide) Z Z Z (xmb Z (TL.ncI Z Z Z (xmc Z ?_))))))))
 refine xd [] (zjZ hl) zjT Z (kL1 Z Zt) (xd [] zxd ztx Z (kL1 Z Zt) (TL.or _ Z Z Z Z Z (TL.mstore 0 hM Z Z Z (by first | exact zcY _ | exact zbA _ _ | exact MemLike.rng _ _ | decide | assumption) Z Z Z (kL1 Z Zt) (TL.done ?_))))
 refine FQ.end0 (Bs:=[A _]) [0] Z Z ⟨Z,Zt⟩ ?_
 exact ⟨Z,Z⟩
theorem zpZ {S:Type} [MemLike S] {mt:TypeId} {mv:Value} {A:S->Assn} (hM:MemI Tryz.prog mt mv A) {l:Lay} (hl:l.Ok) {σ:S} {s i:Int} (hz:Room (1) σ:=by exact zaB):FnD Tryz.prog 265 [zjY l mt mv,.int .i64 s,.int .i64 i] [A σ] (.tuple #[]) [A (zgK l σ s i)]:=by
 refine Fn.enter (Tryz.func265) Z Z (fun w0 R=>?_)
 refine sA (xB 1 Z (fun bk1=>(TL.done (TQ.then (TC.draw (od [1,3,5,7,9,13,15,17,19,10,20]) [1] fc_m (by kernel_rfl) (xf 3 zbF Z (xlc 1 zbw Z Z (xf 0 zaK Z (xL3 1 zac Z Z ?_)))))))))
 refine xmi Z (xmi Z (TL.conv _ Z zgp zbs (Z) Z Z (TL.ncI Z Z Z (xmc Z (xd [] (zlD hl) zoz Z (kL1 Z Zt) (TL.mstore 0 hM Z Z Z (by first | exact zcY _ | exact zbA _ _ | exact MemLike.rng _ _ | decide | assumption) Z Z Z (kL1 Z Zt) (TL.done ?_)))))))
 refine FQ.end0 (Bs:=[A _]) [0] Z Z ⟨Z,Zt⟩ ?_
 exact ⟨Z,Z⟩
theorem zj8 {S:Type} [MemLike S] {mt:TypeId} {mv:Value} {A:S->Assn} (hM:MemI Tryz.prog mt mv A) {l:Lay} (hl:l.Ok) {p:Pen} {σ:S} {c:Int} (hz:Room (1) σ:=by exact zaB):FnD Tryz.prog 233 [adjV l mt mv p,.int .i64 c] [A σ] (.int .i64 (aget σ c)) [A (MemLike.ld σ c)]:=by
 refine Fn.enter (Tryz.func233) Z Z (fun w0 R=>?_)
 refine sA (xB 1 Z (fun bk1=>(xai Z (dA (xf 6 zaw Z (xf 3 zbF Z (xlc 1 zbw Z Z (xmi Z (TL.mload 0 hM Z Z Z Z Z Zt ?_)))))))))
 refine TL.conv _ Z zdV zaQ (Z) Z Z (xai Z (dR ?_))
 refine FQ.ret1 (v:=(.int _ _)) (Bs:=[A _]) [0] Z Z Z ⟨Z,Zt⟩ ?_
 exact ⟨Z,Z⟩
theorem zfA {S:Type} [MemLike S] {mt:TypeId} {mv:Value} {A:S->Assn} (hM:MemI Tryz.prog mt mv A) {l:Lay} (hl:l.Ok) {p:Pen} {σ:S} {c v:Int} (hz:Room (1) σ:=by exact zaB):FnD Tryz.prog 234 [adjV l mt mv p,.int .i64 c,.int .i64 v] [A σ] (.tuple #[]) [A (MemLike.st σ c (IntKind.u64.wrap v))]:=by
 refine Fn.enter (Tryz.func234) Z Z (fun w0 R=>?_)
 refine sA (xB 1 Z (fun bk1=>(dG (xf 6 zaw Z (xf 3 zbF Z (xlc 1 zbw Z Z (xmi Z (xmi Z (TL.conv _ Z zgp zbs (Z) Z Z ?_)))))))))
 refine TL.mstore 0 hM Z Z Z (by first | exact zcY _ | exact zbA _ _ | exact MemLike.rng _ _ | decide | assumption) Z Z Z Zt (TL.done ?_)
 refine FQ.end0 (Bs:=[A _]) [0] Z Z ⟨Z,Zt⟩ ?_
 exact ⟨Z,Z⟩
theorem zk9 {s d:Int}:FnD Tryz.prog 206 [.int .i64 s,.int .i64 d] [] (.int .i64 (side s d)) []:=by
 refine Fn.enter (Tryz.func206) Z Z (fun w0 R=>?_)
 refine sA (xai Z (dA (xmi Z (TL.mul _ Z Z (Z) Z Z (xmi Z (TL.add _ Z Z (Z) Z Z (TL.add _ Z Z (Z) Z Z (xai Z ?_))))))))
 refine dR ?_
 refine FQ.ret1 (v:=(.int _ _)) (Bs:=[]) [] Z Z Z Zt ?_
 exact ⟨Z,Z⟩
theorem zme {mt:TypeId} {mv:Value} {l:Lay} (hl:l.Ok) {p:Pen} {x:Int}:FnD Tryz.prog 235 [adjV l mt mv p,.int .i64 x] [] (.int .i64 (za5 l x)) []:=by
 refine Fn.enter (Tryz.func235) Z Z (fun w0 R=>?_)
 refine sA (xB 0 Z (fun bk0=>(xai Z (dA (xf 6 zaw Z (xf 0 zaK Z (xL3 0 zac Z Z (xmi Z (TL.sub _ Z Z (Z) Z Z ?_)))))))))
 refine TL.quo _ Z Z (by omega) (quo2 _) Z Z (xmi Z (TL.sub _ Z Z (Z) Z Z (TL.rem _ Z Z (by omega) (Z) Z Z (xD [] (zx8 hl) zyR Z (xai Z (dR ?_))))))
 refine FQ.ret1 (v:=(.int _ _)) (Bs:=[]) [] Z Z Z Zt ?_
 exact ⟨Z,Z⟩
theorem zhw {mt:TypeId} {mv:Value} {l:Lay} (hl:l.Ok) {p:Pen} {x:Int}:FnD Tryz.prog 236 [adjV l mt mv p,.int .i64 x] [] (.int .i64 (zaR l x)) []:=by
 refine Fn.enter (Tryz.func236) Z Z (fun w0 R=>?_)
 refine sA (xB 0 Z (fun bk0=>(xai Z (dA (xf 6 zaw Z (xf 0 zaK Z (xL3 0 zac Z Z (xmi Z (TL.sub _ Z Z (Z) Z Z ?_)))))))))
 refine TL.quo _ Z Z (by omega) (quo2 _) Z Z (xmi Z (TL.sub _ Z Z (Z) Z Z (TL.rem _ Z Z (by omega) (Z) Z Z (xD [] (zxQ hl) zyQ Z (xai Z (dR ?_))))))
 refine FQ.ret1 (v:=(.int _ _)) (Bs:=[]) [] Z Z Z Zt ?_
 exact ⟨Z,Z⟩
theorem zgl {S:Type} [MemLike S] {mt:TypeId} {mv:Value} {A:S->Assn} (hM:MemI Tryz.prog mt mv A) {l:Lay} (hl:l.Ok) {p:Pen} {σ:S} {v i:Int} {k:Nat} {σ2:S} (h:ze7 l k σ v i=some σ2) (hz:Room (7 * k+9) σ:=by exact zaB):FnD Tryz.prog 237 [adjV l mt mv p,.int .i64 v,.int .i64 i] [A σ] (.tuple #[]) [A σ2]:=by
 unfold ze7 at h
 dsimp only at h
 refine Fn.enter (Tryz.func237) Z Z (fun w0 R=>?_)
 refine sA (xB 1 Z (fun bk1=>(dA (xf 6 zaw Z (xf 0 zaK Z (xL3 1 zac Z Z (xmi Z (xmi Z (xD [] (zc6 hl) zfx Z ?_)))))))))
 refine xai Z (dS (TC.draw (od [1,3,5,7,9,11,12,14,17,19]) [1] fc_m (by kernel_rfl) (xL10 1 zan Z Z (xf 6 zaw Z (xf 0 zaK Z (xL3 1 zac Z Z (xmi Z (xmi Z ?_))))))))
 refine xd [] (zlL hl) zlY Z (kL1 Z Zt) (xd [0] (zj8 hM hl) zjP Z (kL1 Z Zt) (TL.neqV Z Z Z Z (xab Z (dA (xmb Z (xf 0 zbe Z (xf 0 zak Z (xL6 1 zab Z Z ?_))))))))
 refine xmi rfl (xD [0] (zmS hM hl (by decide)) ztk rfl (TL.neqB rfl rfl fc_b4 rfl rfl (TL.cases rfl (fun q1=>?_) (fun q1=>?_))))
 refine TL.done (TQ.then (TC.condT Z (TC.region (xf 0 zbe Z (xf 0 zak Z (xL6 1 zab Z Z (xmi Z (xmb Z ?_))))))))
 refine xD [0] (zsx hM hl (by decide) (by rw [Zp (by simpa using q1)] at h; exact h)) ztm Z (TL.done ?_)
 refine FQ.end0 (Bs:=[A _]) [0] Z Z ⟨Z,Zt⟩ ?_
 exact ⟨Z,Z⟩
 refine TL.done (TQ.then (TC.condF Z (TC.skip ?_)))
 refine FQ.end0 (Bs:=[A _]) [0] Z Z ⟨Z,Zt⟩ ?_
 rw [Zn (fun hc=>by revert q1 hc; cases marked l (MemLike.ld σ (l.head v i)) (l.vertex i v) 0<;>simp<;>omega)] at h; cases h; exact ⟨rfl,rfl⟩
theorem zr0 {S:Type} [MemLike S] {mt:TypeId} {mv:Value} {A:S->Assn} (hM:MemI Tryz.prog mt mv A) {l:Lay} (hl:l.Ok) {p:Pen} {σ:S} {x v i:Int} {k:Nat} {σ2:S} (h:push l k σ x v i=some σ2) (hz:Room (7 * k+14) σ:=by exact zaB):FnD Tryz.prog 205 [adjV l mt mv p,.int .i64 x,.int .i64 v,.int .i64 i] [A σ] (.tuple #[]) [A σ2]:=by
 unfold push at h
 dsimp only at h
 refine Fn.enter (Tryz.func205) Z Z (fun w0 R=>?_)
 refine sA (xB 1 Z (fun bk1=>(dA (xf 6 zaw Z (xf 0 zaK Z (xL3 1 zac Z Z (xmi Z (xmi Z (xD [] (zlL hl) zlY Z ?_)))))))))
 refine xai Z (dA (xL10 1 zan Z Z (xmi Z (xD [0] (zj8 hM hl) zjP Z (xai Z (dS (TC.draw (od [1,3,5,9,6,10]) [1] fc_m (by kernel_rfl) (xL10 1 zan Z Z ?_))))))))
 refine xL10 1 zan Z Z (xmi Z (xmi Z (xd [] (zme hl) zos Z (kL1 Z Zt) (xd [0] (zfA hM hl) zfv Z (kL1 Z Zt) (dS (TC.draw (od [1,3,5,6,8]) [1] fc_m (by kernel_rfl) (xL10 1 zan Z Z (xL10 1 zan Z Z ?_))))))))
 refine xmi Z (xd [] (zhw hl) zjO Z (kL1 Z Zt) (xd [0] (zfA hM hl) zfv Z (kL1 Z Zt) (dB (xmi Z (TL.neq Z Z Z Z (fun q1=>?_) (fun q1=>?_))))))
 refine TL.done (TQ.then (TC.condT Z (TC.draw (od [1,3,5,9,6,10]) [1] fc_m (by kernel_rfl) (xL10 1 zan Z Z (xL10 1 zan Z Z (xmi Z (xmi Z (xd [] (zhw hl) zjO Z (kL1 Z Zt) ?_))))))))
 refine xd [0] (zfA hM hl) zfv Z (kL1 Z Zt) (dA (xL10 1 zan Z Z (xmi Z (xmi Z (xD [0] (zfA hM hl) zfv Z (dG (xL10 1 zan Z Z (xmi Z ?_))))))))
 refine xmi Z (xD [0] (zgl hM hl (by rw [Zp q1] at h; exact h)) zh4 Z (TL.done ?_))
 refine FQ.end0 (Bs:=[A _]) [0] Z Z ⟨Z,Zt⟩ ?_
 exact ⟨Z,Z⟩
 refine dF Z (xL10 1 zan Z Z (xmi Z (xmi Z (xD [0] (zfA hM hl) zfv Z (dG (xL10 1 zan Z Z (xmi Z (xmi Z ?_))))))))
 refine xD [0] (zgl hM hl (by rw [Zn q1] at h; exact h)) zh4 Z (TL.done ?_)
 refine FQ.end0 (Bs:=[A _]) [0] Z Z ⟨Z,Zt⟩ ?_
 exact ⟨Z,Z⟩
theorem zr4 {S:Type} [MemLike S] {mt:TypeId} {mv:Value} {A:S->Assn} (hM:MemI Tryz.prog mt mv A) {l:Lay} (hl:l.Ok) {p:Pen} {σ:S} {x v i:Int} {k:Nat} {σ2:S} (h:pull l k σ x v i=some σ2) (hz:Room (7 * k+13) σ:=by exact zaB):FnD Tryz.prog 211 [adjV l mt mv p,.int .i64 x,.int .i64 v,.int .i64 i] [A σ] (.tuple #[]) [A σ2]:=by
 unfold pull at h
 dsimp only at h
 refine Fn.enter (Tryz.func211) Z Z (fun w0 R=>?_)
 refine sA (xB 1 Z (fun bk1=>(dS (TC.draw (od [1,3,5,11,13,15,6,8,16,18,21,23]) [1] fc_m (by kernel_rfl) (xL10 1 zan Z Z (xL10 1 zan Z Z (xmi Z (xL10 1 zan Z Z (xL10 1 zan Z Z ?_)))))))))
 refine xmi Z (xd [] (zhw hl) zjO Z (kL1 Z Zt) (xd [0] (zj8 hM hl) zjP Z (kL1 Z Zt) (xd [] (zme hl) zos Z (kL1 Z Zt) (xd [0] (zj8 hM hl) zjP Z (kL1 Z Zt) (xai Z (xai Z (dB (xmi Z ?_))))))))
 refine TL.eql Z Z Z Z (fun q1=>?_) (fun q1=>?_)
 refine TL.done (TQ.then (TC.condT Z (TC.draw (od [1,3,5,7,9,11,15,12,16]) [1] fc_m (by kernel_rfl) (xL10 1 zan Z Z (xf 6 zaw Z (xf 0 zaK Z (xL3 1 zac Z Z (xmi Z ?_))))))))
 refine xmi Z (xmi Z (xd [] (zlL hl) zlY Z (kL1 Z Zt) (xd [0] (zfA hM hl) zfv Z (kL1 Z Zt) (dB (xmi Z (TL.neq Z Z Z Z (fun q2=>?_) (fun q2=>?_)))))))
 refine TL.done (TQ.then (TC.condT Z (TC.draw (od [1,3,5,9,6,10]) [1] fc_m (by kernel_rfl) (xL10 1 zan Z Z (xL10 1 zan Z Z (xmi Z (xmi Z (xd [] (zhw hl) zjO Z (kL1 Z Zt) ?_))))))))
 refine xd [0] (zfA hM hl) zfv Z (kL1 Z Zt) (dG (xL10 1 zan Z Z (xmi Z (xmi Z (xD [0] (zgl hM hl (by rw [Zp q1,Zp q2] at h; exact h)) zh4 Z (TL.done ?_))))))
 refine FQ.end0 (Bs:=[A _]) [0] Z Z ⟨Z,Zt⟩ ?_
 exact ⟨Z,Z⟩
 refine TL.done (TQ.then (TC.condF Z (TC.skip (TQ.then (TC.region (xL10 1 zan Z Z (xmi Z (xmi Z ?_))))))))
 refine xD [0] (zgl hM hl (by rw [Zp q1,Zn q2] at h; exact h)) zh4 Z (TL.done ?_)
 refine FQ.end0 (Bs:=[A _]) [0] Z Z ⟨Z,Zt⟩ ?_
 exact ⟨Z,Z⟩
 refine TL.done (TQ.then (TC.condF Z (TC.draw (od [1,3,5,9,6,10]) [1] fc_m (by kernel_rfl) (xL10 1 zan Z Z (xL10 1 zan Z Z (xmi Z (xmi Z (xd [] (zme hl) zos Z (kL1 Z Zt) ?_))))))))
 refine xd [0] (zfA hM hl) zfv Z (kL1 Z Zt) (dB (xmi Z (TL.neq Z Z Z Z (fun q2=>?_) (fun q2=>?_))))
 refine TL.done (TQ.then (TC.condT Z (TC.draw (od [1,3,5,9,6,10]) [1] fc_m (by kernel_rfl) (xL10 1 zan Z Z (xL10 1 zan Z Z (xmi Z (xmi Z (xd [] (zhw hl) zjO Z (kL1 Z Zt) ?_))))))))
 refine xd [0] (zfA hM hl) zfv Z (kL1 Z Zt) (dG (xL10 1 zan Z Z (xmi Z (xmi Z (xD [0] (zgl hM hl (by rw [Zn q1,Zp q2] at h; exact h)) zh4 Z (TL.done ?_))))))
 refine FQ.end0 (Bs:=[A _]) [0] Z Z ⟨Z,Zt⟩ ?_
 exact ⟨Z,Z⟩
 refine TL.done (TQ.then (TC.condF Z (TC.skip (TQ.then (TC.region (xL10 1 zan Z Z (xmi Z (xmi Z ?_))))))))
 refine xD [0] (zgl hM hl (by rw [Zn q1,Zn q2] at h; exact h)) zh4 Z (TL.done ?_)
 refine FQ.end0 (Bs:=[A _]) [0] Z Z ⟨Z,Zt⟩ ?_
 exact ⟨Z,Z⟩
theorem zns {S:Type} [MemLike S] {mt:TypeId} {mv:Value} {A:S->Assn} (hM:MemI Tryz.prog mt mv A) {l:Lay} (hl:l.Ok) {p:Pen} {σ:S} {s:Int} {k:Nat} {σ2:S} (h:add l k σ s=some σ2) (hz:Room (14 * k+31) σ:=by exact zaB):FnD Tryz.prog 162 [adjV l mt mv p,.int .i64 s] [A σ] (.tuple #[]) [A σ2]:=by
 unfold add at h
 dsimp only at h
 obtain ⟨σ1,h1,h2⟩:=Zb h
 refine Fn.enter (Tryz.func162) Z Z (fun w0 R=>?_)
 refine sA (xB 1 Z (fun bk1=>(dA (xf 6 zaw Z (xL4 1 za3 Z Z (xmi Z (xD [0] (zdD hM hl) zdC Z (TL.alloc 2 (cs:=#[.int .i64 0,.int .i64 0,.int .i64 0,.bool false]) zdt Z Z Z (fun _=>Zt) (fun bk2=>(TL.stW 2 4 [_,_,_,_] Z Z Z Z Z Z zbV Z Z Zt ?_))))))))))
 refine dS (TC.draw (od [1,3,7,9,11,13,4,14]) [1,2] fc_m (by kernel_rfl) (xL10 1 zan Z Z (xmi Z (xf 0 zbn Z (xli 2 zaa Z Z (xf 2 zbE Z (xli 2 zaa Z Z (xd [] zk9 zl0 Z (kL2 Z Z Zt) ?_))))))))
 refine xd [0] (zr0 hM hl h1) ztw Z (kL2 Z Z Zt) (TL.done (TQ.then (TC.draw (od [1,3,7,9,11,13,4,14]) [1,2] fc_m (by kernel_rfl) (xL10 1 zan Z Z (xmi Z (xf 1 zbm Z (xli 2 zaa Z Z (xf 2 zbE Z ?_))))))))
 refine xli 2 zaa Z Z (xd [] zk9 zl0 Z (kL2 Z Z Zt) (xd [0] (zr0 hM hl h2) ztw Z (kL2 Z Z Zt) (TL.done ?_)))
 refine FQ.end0 (Bs:=[A _]) [0] Z Z ⟨Z,Zt⟩ ?_
 exact ⟨Z,Z⟩
theorem zj6 {S:Type} [MemLike S] {mt:TypeId} {mv:Value} {A:S->Assn} (hM:MemI Tryz.prog mt mv A) {l:Lay} (hl:l.Ok) {p:Pen} {σ:S} {s:Int} {k:Nat} {σ2:S} (h:remove l k σ s=some σ2) (hz:Room (14 * k+29) σ:=by exact zaB):FnD Tryz.prog 173 [adjV l mt mv p,.int .i64 s] [A σ] (.tuple #[]) [A σ2]:=by
 unfold remove at h
 dsimp only at h
 obtain ⟨σ1,h1,h2⟩:=Zb h
 refine Fn.enter (Tryz.func173) Z Z (fun w0 R=>?_)
 refine sA (xB 1 Z (fun bk1=>(dA (xf 6 zaw Z (xL4 1 za3 Z Z (xmi Z (xD [0] (zdD hM hl) zdC Z (TL.alloc 2 (cs:=#[.int .i64 0,.int .i64 0,.int .i64 0,.bool false]) zdt Z Z Z (fun _=>Zt) (fun bk2=>(TL.stW 2 4 [_,_,_,_] Z Z Z Z Z Z zbV Z Z Zt ?_))))))))))
 refine dS (TC.draw (od [1,3,7,9,11,13,4,14]) [1,2] fc_m (by kernel_rfl) (xL10 1 zan Z Z (xmi Z (xf 0 zbn Z (xli 2 zaa Z Z (xf 2 zbE Z (xli 2 zaa Z Z (xd [] zk9 zl0 Z (kL2 Z Z Zt) ?_))))))))
 refine xd [0] (zr4 hM hl h1) ztu Z (kL2 Z Z Zt) (TL.done (TQ.then (TC.draw (od [1,3,7,9,11,13,4,14]) [1,2] fc_m (by kernel_rfl) (xL10 1 zan Z Z (xmi Z (xf 1 zbm Z (xli 2 zaa Z Z (xf 2 zbE Z ?_))))))))
 refine xli 2 zaa Z Z (xd [] zk9 zl0 Z (kL2 Z Z Zt) (xd [0] (zr4 hM hl h2) ztu Z (kL2 Z Z Zt) (TL.done ?_)))
 refine FQ.end0 (Bs:=[A _]) [0] Z Z ⟨Z,Zt⟩ ?_
 exact ⟨Z,Z⟩
theorem zuH {S:Type} [MemLike S] {mt:TypeId} {mv:Value} {A:S->Assn} (hM:MemI Tryz.prog mt mv A) {l:Lay} (hl:l.Ok) {p:Pen} {σ:S} {v i:Int} (hz:Room (1) σ:=by exact zaB):FnD Tryz.prog 248 [adjV l mt mv p,.int .i64 v,.int .i64 i] [A σ] (.tuple #[.int .i64 (afirst l σ v i).1,.bool (afirst l σ v i).2]) [A (zgR l σ v i)]:=by
 refine Fn.enter (Tryz.func248) Z Z (fun w0 R=>?_)
 refine sA (xB 1 Z (fun bk1=>(xai Z (xaf Z (dS (TC.draw (od [1,3,5,7,9,11,12,14,17]) [1] fc_m (by kernel_rfl) (xL10 1 zan Z Z (xf 6 zaw Z (xf 0 zaK Z ?_)))))))))
 refine xL3 1 zac Z Z (xmi Z (xmi Z (xd [] (zlL hl) zlY Z (kL1 Z Zt) (xd [0] (zj8 hM hl) zjP Z (kL1 Z Zt) (xai Z (dB (xmi Z (TL.eql Z Z Z Z (fun q1=>?_) (fun q1=>?_)))))))))
 refine dT Z (xai Z (xaf Z (dRR ?_)))
 refine FQ.ret2 (v:=(.int _ _)) (x:=(.bool false)) (Bs:=[A _]) [0] Z Z Z Z ⟨Z,Zt⟩ ?_
 first | exact ⟨(by unfold afirst; dsimp only; rw [Zp q1]),Z⟩ | exact ⟨(by unfold afirst; dsimp only; rw [Zn q1]),Z⟩
 refine dF Z (xmi Z (TL.sub _ Z Z (Z) Z Z (TL.quo _ Z Z (by omega) (quo2 _) Z Z (xai Z (xat Z (dR ?_))))))
 refine FQ.ret2 (v:=(.int _ _)) (x:=(.bool true)) (Bs:=[A _]) [0] Z Z Z Z ⟨Z,Zt⟩ ?_
 first | exact ⟨(by unfold afirst; dsimp only; rw [Zp q1]),Z⟩ | exact ⟨(by unfold afirst; dsimp only; rw [Zn q1]),Z⟩
theorem zlz {S:Type} [MemLike S] {mt:TypeId} {mv:Value} {A:S->Assn} (hM:MemI Tryz.prog mt mv A) {l:Lay} (hl:l.Ok) {p:Pen} {σ:S} {s i:Int} {on:Bool} {k:Nat} {σ2:S} (h:lmark l k σ s i on=some σ2) (hz:Room (7 * k+7) σ:=by exact zaB):FnD Tryz.prog 209 [adjV l mt mv p,.int .i64 s,.int .i64 i,.bool on] [A σ] (.tuple #[]) [A σ2]:=by
 unfold lmark at h
 refine Fn.enter (Tryz.func209) Z Z (fun w0 R=>?_)
 refine sA (xB 1 Z (fun bk1=>(TL.done (TQ.then (TC.draw (od [1,3,5,7,9,11,13,15,17,19,23,20,24]) [1] fc_m (by kernel_rfl) (xf 0 zao Z (xf 0 zbe Z (xf 0 zak Z (xL6 1 zab Z Z ?_)))))))))
 refine xf 0 zao Z (xf 6 zaw Z (xf 0 zaK Z (xL3 1 zac Z Z (xmi Z (xmi Z (xmb Z (xd [] (zuy hl) zor Z (kL1 Z Zt) (xd [0] (zsx hM hl (by decide) h) ztm Z (kL1 Z Zt) ?_))))))))
 refine TL.done ?_
 refine FQ.end0 (Bs:=[A _]) [0] Z Z ⟨Z,Zt⟩ ?_
 exact ⟨Z,Z⟩
theorem zpn {S:Type} [MemLike S] {mt:TypeId} {mv:Value} {A:S->Assn} (hM:MemI Tryz.prog mt mv A) {l:Lay} (hl:l.Ok) {p:Pen} {σ:S} {s:Int} {k:Nat} {σ2:S} (h:plant l p k σ s=some σ2) (hz:Room (7 * k+12+k * (94 * k+24)) σ:=by exact zaB):FnD Tryz.prog 163 [adjV l mt mv p,.int .i64 s] [A σ] (.tuple #[]) [A σ2]:=by
 unfold plant at h
 dsimp only at h
 obtain ⟨σ1,h1,h2⟩:=Zb h
 refine Fn.enter (Tryz.func163) Z Z (fun w0 R=>?_)
 refine sA (xB 1 Z (fun bk1=>(dA (xf 0 zao Z (xf 6 zaw Z (xL4 1 za3 Z Z (xmi Z (xD [0] (zdD hM hl) zdC Z (TL.alloc 2 (cs:=#[.int .i64 0,.int .i64 0,.int .i64 0,.bool false]) zdt Z Z Z (fun _=>Zt) (fun bk2=>?_))))))))))
 refine TL.stW 2 4 [_,_,_,_] Z Z Z Z Z Z zbV Z Z Zt (dA (xf 0 zao Z (xf 6 zaw Z (xL4 1 za3 Z Z (xmi Z (xD [0] (zvR hM hl) zy5 Z (dB (xf 2 zbE Z ?_))))))))
 refine xli 2 zaa Z Z (TL.add _ Z Z (Z) Z Z (xmi Z (dK (TC.loopK (X:=Nat×S×Int) [1,2,4,18] [1,2] (fun y=>[(19,.int .i64 y.2.2)]) (fun y=>[(0,A y.2.1)]) (fun y=>zc2 l p s (eget l σ s).u (eget l σ s).v y.1 k y.2.1 y.2.2 (IntKind.i64.wrap ((eget l σ s).level+1))=some σ1/\Room (y.1 * (94 * k+24)+(7 * k+7)) y.2.1) (fun y=>y.1) ((k,_,0)) ⟨h1,zaB⟩ ⟨Z,Zt⟩ ⟨Z,Zt⟩ (fun y hI=>?_)))))
 obtain ⟨j,σ3,z⟩:=y
 obtain ⟨hI,hzI⟩:=hI
 rcases j with _ | j
 ·simp [zc2] at hI
 dsimp only at hI hzI
 rw [Nat.add_one_mul] at hzI
 refine TC.sub (env':=[(19,_),(1,_),(2,_),(4,_),(18,_)]) (L':=[(0,_),(1,_),(2,_)]) ⟨Z,Z,Z,Z,Z,Zt⟩ ⟨Z,Z,Z,Zt⟩ (sA (TL.lss Z Z Z Z (fun q1=>?_) (fun q1=>?_)))
 refine dS (TC.condT Z (TC.skip (TQ.then (TC.seq (TC.block (sA (xmi Z (xai Z ?_))))))))
 refine dG (xf 0 zao Z (xf 0 zbe Z (xL6 1 zbW Z Z (xmi Z (xmi Z (xf 0 zbn Z (xli 2 zaa Z Z (xf 1 zbm Z ?_))))))))
 refine xli 2 zaa Z Z ?_
 rw [zc2,Zp q1] at hI
 obtain ⟨⟨r,σ4⟩,h3,h4⟩:=Zb hI
 refine xD [0] (zsK hM hl h3) ztv Z (dI (TL.add _ Z Z (Z) Z Z (xmi Z (TL.done (TQ.roundK ((j,_,_)) ⟨⟨h4,zaB⟩,Nat.lt_succ_self _⟩ ⟨Z,Zt⟩ ⟨Z,Zt⟩ (kE4 Z Z Z Z Zt) (kL2 Z Z Zt))))))
 refine dS (TC.condF Z (TC.exit (TQ.thenExit (TQ.thenExit (TQ.blockHere (TQ.then (TC.region (xL10 1 zaZ Z Z ?_))))))))
 refine xmi Z (xf 2 zbE Z (xli 2 zaa Z Z ?_))
 rw [zc2,Zn q1] at hI
 cases hI
 refine xD [0] (zlz hM hl h2) zou Z (TL.done ?_)
 refine FQ.end0 (Bs:=[A _]) [0] Z Z ⟨Z,Zt⟩ ?_
 exact ⟨Z,Z⟩
theorem zyt {S:Type} [MemLike S] {mt:TypeId} {mv:Value} {A:S->Assn} (hM:MemI Tryz.prog mt mv A) {l:Lay} (hl:l.Ok) {p:Pen} {σ:S} {s:Int} {k:Nat} {σ2:S} (h:fell l p k σ s=some σ2) (hz:Room (3+k * (69 * k+36)) σ:=by exact zaB):FnD Tryz.prog 175 [adjV l mt mv p,.int .i64 s] [A σ] (.tuple #[]) [A σ2]:=by
 unfold fell at h
 refine Fn.enter (Tryz.func175) Z Z (fun w0 R=>?_)
 refine sA (xB 1 Z (fun bk1=>(dA (xf 0 zao Z (xf 6 zaw Z (xL4 1 za3 Z Z (xmi Z (xD [0] (zdD hM hl) zdC Z (TL.fv 2 3 (.int _ _) Z zhr zaa Z Z Z ?_)))))))))
 refine TL.add _ Z Z (Z) Z Z (xmi Z (dK (TC.loopK (X:=Nat×S×Int) [1,2,11] [1] (fun y=>[(12,.int .i64 y.2.2)]) (fun y=>[(0,A y.2.1)]) (fun y=>zfp l p s y.1 k y.2.1 y.2.2 (IntKind.i64.wrap ((eget l σ s).level+1))=some σ2/\Room (y.1 * (69 * k+36)) y.2.1) (fun y=>y.1) ((k,_,0)) ⟨h,zaB⟩ ⟨Z,Zt⟩ ⟨Z,Zt⟩ (fun y hI=>?_))))
 obtain ⟨j,σ3,z⟩:=y
 obtain ⟨hI,hzI⟩:=hI
 rcases j with _ | j
 ·simp [zfp] at hI
 dsimp only at hI hzI
 rw [Nat.add_one_mul] at hzI
 refine TC.sub (env':=[(12,_),(1,_),(2,_),(11,_)]) (L':=[(0,_),(1,_)]) ⟨Z,Z,Z,Z,Zt⟩ ⟨Z,Z,Zt⟩ (sA (TL.lss Z Z Z Z (fun q1=>?_) (fun q1=>?_)))
 refine dS (TC.condT Z (TC.skip (TQ.then (TC.seq (TC.block (sA (xmi Z (xai Z ?_))))))))
 refine dG (xf 0 zao Z (xf 0 zbe Z (xL6 1 zbW Z Z (xmi Z (xmi Z ?_)))))
 rw [zfp,Zp q1] at hI
 obtain ⟨⟨r,σ4⟩,h3,h4⟩:=Zb hI
 refine xD [0] (zAX hM hl h3) zy4 Z (dI (TL.add _ Z Z (Z) Z Z (xmi Z (TL.done (TQ.roundK ((j,_,_)) ⟨⟨h4,zaB⟩,Nat.lt_succ_self _⟩ ⟨Z,Zt⟩ ⟨Z,Zt⟩ (kE3 Z Z Z Zt) (kL1 Z Zt))))))
 refine dS (TC.condF Z (TC.exit (TQ.thenExit (TQ.thenExit (TQ.blockHere ?_)))))
 refine FQ.end0 (Bs:=[A _]) [0] Z Z ⟨Z,Zt⟩ ?_
 rw [zfp,Zn q1] at hI; cases hI; exact ⟨rfl,rfl⟩
theorem zro {S:Type} [MemLike S] {mt:TypeId} {mv:Value} {A:S->Assn} (hM:MemI Tryz.prog mt mv A) {l:Lay} (hl:l.Ok) {p:Pen} {σ:S} {s:Int} {k:Nat} {σ2:S} (h:treeUp l p k σ s=some σ2) (hz:Room (108 * k+42) σ:=by exact zaB):FnD Tryz.prog 247 [adjV l mt mv p,.int .i64 s] [A σ] (.tuple #[]) [A σ2]:=by
 unfold treeUp at h
 dsimp only at h
 obtain ⟨σ1,h1,h⟩:=Zb h
 obtain ⟨⟨r,σ3⟩,h2,h3⟩:=Zb h
 dsimp only at h3
 refine Fn.enter (Tryz.func247) Z Z (fun w0 R=>?_)
 refine sA (xB 1 Z (fun bk1=>(dA (xf 0 zao Z (xf 6 zaw Z (xL4 1 za3 Z Z (xmi Z (xD [0] (zdD hM hl) zdC Z (TL.alloc 2 (cs:=#[.int .i64 0,.int .i64 0,.int .i64 0,.bool false]) zdt Z Z Z (fun _=>Zt) (fun bk2=>?_))))))))))
 refine TL.stW 2 4 [_,_,_,_] Z Z Z Z Z Z zbV Z Z Zt (dA (xL10 1 zaZ Z Z (xmi Z (xf 2 zbE Z (xli 2 zaa Z Z (xD [0] (zlz hM hl h1) zou Z (dA (xf 0 zao Z ?_))))))))
 refine xf 6 zaw Z (xL4 1 za3 Z Z (xmi Z (xf 2 zbE Z (xli 2 zaa Z Z (TL.add _ Z Z (Z) Z Z (xD [0] (zpZ hM hl) ztj Z (dA (xf 0 zao Z ?_))))))))
 refine xf 0 zbe Z (xL6 1 zbW Z Z (xf 2 zbE Z (xli 2 zaa Z Z (TL.add _ Z Z (Z) Z Z (xmi Z (xf 0 zbn Z (xli 2 zaa Z Z (xf 1 zbm Z ?_))))))))
 refine xli 2 zaa Z Z (xD [0] (zsK hM hl h2) ztv Z (dG (xL10 1 zaZ Z Z (xmi Z (xf 2 zbE Z (xli 2 zaa Z Z (TL.add _ Z Z (Z) Z Z (xD [0] (zlz hM hl h3) zou Z ?_))))))))
 refine TL.done ?_
 refine FQ.end0 (Bs:=[A _]) [0] Z Z ⟨Z,Zt⟩ ?_
 exact ⟨Z,Z⟩
theorem zvq {S:Type} [MemLike S] {mt:TypeId} {mv:Value} {A:S->Assn} (hM:MemI Tryz.prog mt mv A) {l:Lay} (hl:l.Ok) {p:Pen} {σ:S} {s:Int} {k:Nat} {σ2:S} (h:plain l k σ s=some σ2) (hz:Room (28 * k+64) σ:=by exact zaB):FnD Tryz.prog 249 [adjV l mt mv p,.int .i64 s] [A σ] (.tuple #[]) [A σ2]:=by
 unfold plain at h
 dsimp only at h
 obtain ⟨σ1,h1,h2⟩:=Zb h
 refine Fn.enter (Tryz.func249) Z Z (fun w0 R=>?_)
 refine sA (xB 1 Z (fun bk1=>(dA (xf 0 zao Z (xf 6 zaw Z (xL4 1 za3 Z Z (xmi Z (xD [0] (zdD hM hl) zdC Z (TL.fv 2 3 (.int _ _) Z zhr zaa Z Z Z ?_)))))))))
 refine xai Z (dA (xf 0 zao Z (xL10 1 zan Z Z (xmi Z (xD [0] (zj6 hM hl h1) zoy Z (dA (xf 0 zao Z (xf 6 zaw Z ?_))))))))
 refine xL4 1 za3 Z Z (xmi Z (xmi Z (TL.add _ Z Z (Z) Z Z (xD [0] (zpZ hM hl) ztj Z (dG (xf 0 zao Z (xL10 1 zan Z Z (xmi Z ?_))))))))
 refine xD [0] (zns hM hl h2) ztN Z (TL.done ?_)
 refine FQ.end0 (Bs:=[A _]) [0] Z Z ⟨Z,Zt⟩ ?_
 exact ⟨Z,Z⟩
theorem zhi {S:Type} [MemLike S] {mt:TypeId} {mv:Value} {A:S->Assn} (hM:MemI Tryz.prog mt mv A) {l:Lay} (hl:l.Ok) {p:Pen} {σ:S} {i v m r:Int} {k:Nat} {σ2:S} (h0:0<=m) (h:lfirst l k σ i v m=some (r,σ2)) (hz:Room (5 * k+1) σ:=by exact zaB):FnD Tryz.prog 246 [adjV l mt mv p,.int .i64 i,.int .i64 v,.int .i64 m] [A σ] (.int .i64 r) [A σ2]:=by
 unfold lfirst at h
 obtain ⟨⟨a,σ1⟩,h1,h2⟩:=Zb h
 refine Fn.enter (Tryz.func246) Z Z (fun w0 R=>?_)
 refine sA (xB 1 Z (fun bk1=>(xai Z (dS (TC.draw (od [1,3,5,7,9,11,13,15,17,19,21,23,25,27,33,28,30,34,37]) [1] fc_m (by kernel_rfl) (xf 0 zao Z (xf 0 zbe Z (xf 0 zak Z (xL6 1 zab Z Z ?_)))))))))
 refine xf 0 zao Z (xf 0 zbe Z (xf 0 zak Z (xL6 1 zab Z Z (xf 0 zao Z (xf 6 zaw Z (xf 0 zaK Z (xL3 1 zac Z Z (xmi Z ?_))))))))
 refine xmi Z (xmi Z (xd [] (zc6 hl) zfx Z (kL1 Z Zt) (xd [0] (zfc hM hl h1) zfw Z (kL1 Z Zt) (xd [0] (zvO hM hl h0 h2) zyO Z (kL1 Z Zt) (xai Z (dR ?_))))))
 refine FQ.ret1 (v:=(.int _ _)) (Bs:=[A _]) [0] Z Z Z ⟨Z,Zt⟩ ?_
 exact ⟨Z,Z⟩
theorem zuU {S:Type} [MemLike S] {mt:TypeId} {mv:Value} {A:S->Assn} (hM:MemI Tryz.prog mt mv A) {l:Lay} (hl:l.Ok) {p:Pen} {σ:S} {i v:Int} {k:Nat} {σ2:S} (h:trees l p k σ i v=some σ2) (hz:Room (5 * k+1+k * (113 * k+43)) σ:=by exact zaB):FnD Tryz.prog 214 [adjV l mt mv p,.int .i64 i,.int .i64 v] [A σ] (.tuple #[]) [A σ2]:=by
 unfold trees at h
 obtain ⟨⟨a,σ1⟩,h1,h2⟩:=Zb h
 dsimp only at h2
 refine Fn.enter (Tryz.func214) Z Z (fun w0 R=>?_)
 refine sA (xB 1 Z (fun bk1=>(dA (xL10 1 zaZ Z Z (xmi Z (xmi Z (xD [0] (zhi hM hl (by decide) h1) zlX Z (xai Z (dK ?_)))))))))
 refine TC.loopK (X:=Nat×S×Int) [1,2,3] [1] (fun y=>[(6,.int .i64 y.2.2)]) (fun y=>[(0,A y.2.1)]) (fun y=>zc1 l p i v y.1 k y.2.1 y.2.2=some σ2/\Room (y.1 * (113 * k+43)) y.2.1) (fun y=>y.1) ((k,_,_)) ⟨h2,zaB⟩ ⟨Z,Zt⟩ ⟨Z,Zt⟩ (fun y hI=>?_)
 obtain ⟨j,σ3,z⟩:=y
 obtain ⟨hI,hzI⟩:=hI
 rcases j with _ | j
 ·simp [zc1] at hI
 dsimp only at hI hzI
 rw [Nat.add_one_mul] at hzI
 refine TC.sub (env':=[(6,_),(1,_),(2,_),(3,_)]) (L':=[(0,_),(1,_)]) ⟨Z,Z,Z,Z,Zt⟩ ⟨Z,Z,Zt⟩ (sB (xmi Z (TL.neq Z Z Z Z (fun q1=>?_) (fun q1=>?_))))
 refine TL.done (TQ.then (TC.condT Z (TC.skip (TQ.then (TC.seq (TC.block (sA (xf 0 zao Z ?_))))))))
 refine xf 6 zaw Z (xf 0 zaK Z (xL3 1 zac Z Z (xmi Z (xD [] (zhL hl) zkL Z (xmu Z (TL.ext (.agg _) Z Z Z Z (TL.ext (.bool _) Z Z Z Z (TL.alloc 2 (cs:=#[.bool false,.int .i64 0,.int .i64 0,.int .i64 0,.int .i64 0]) zgu Z Z Z (fun _=>Zt) (fun bk2=>?_)))))))))
 refine TL.stW 2 5 [_,_,_,_,_] Z Z Z Z Z Z zcT Z Z Zt (xab Z (dG (xL10 1 zaZ Z Z (xf 3 zq1 Z (xli 2 zaa Z Z ?_)))))
 rw [zc1,Zp q1] at hI
 obtain ⟨σ4,h3,hI⟩:=Zb hI
 obtain ⟨⟨r,σ5⟩,h5,h6⟩:=Zb hI
 refine xD [0] (zro hM hl h3) zyW Z (dI (xL10 1 zaZ Z Z (xmi Z (xmi Z (xD [0] (zhi hM hl (by decide) h5) zlX Z (xai Z (TL.done (TQ.roundK ((j,_,_)) ⟨⟨h6,zaB⟩,Nat.lt_succ_self _⟩ ⟨Z,Zt⟩ ⟨Z,Zt⟩ (kE3 Z Z Z Zt) (kL1 Z Zt)))))))))
 refine TL.done (TQ.then (TC.condF Z (TC.exit (TQ.thenExit (TQ.thenExit (TQ.blockHere ?_))))))
 refine FQ.end0 (Bs:=[A _]) [0] Z Z ⟨Z,Zt⟩ ?_
 rw [zc1,Zn q1] at hI; cases hI; exact ⟨rfl,rfl⟩
theorem zxE {S:Type} [MemLike S] {mt:TypeId} {mv:Value} {A:S->Assn} (hM:MemI Tryz.prog mt mv A) {l:Lay} (hl:l.Ok) {p:Pen} {σ:S} {i v:Int} {r:Int×Bool} {k:Nat} {σ2:S} (h:seek l k σ i v=some (r,σ2)) (hz:Room (5 * k+1+k * (35 * k+69)) σ:=by exact zaB):FnD Tryz.prog 215 [adjV l mt mv p,.int .i64 i,.int .i64 v] [A σ] (.tuple #[.int .i64 r.1,.bool r.2]) [A σ2]:=by
 unfold seek at h
 obtain ⟨⟨a,σ1⟩,h1,h2⟩:=Zb h
 dsimp only at h2
 refine Fn.enter (Tryz.func215) Z Z (fun w0 R=>?_)
 refine sA (xB 1 Z (fun bk1=>(xai Z (xaf Z (dB (xL10 1 zaZ Z Z (xmi Z (xmi Z (xD [0] (zhi hM hl (by decide) h1) zlX Z ?_)))))))))
 refine xai Z (dK (TC.loopK (X:=Nat×S×Int) [1,2,3] [1] (fun y=>[(8,.int .i64 y.2.2),(6,.int .i64 0),(7,.bool false)]) (fun y=>[(0,A y.2.1)]) (fun y=>zes l i v y.1 k y.2.1 y.2.2=some (r,σ2)/\Room (y.1 * (35 * k+69)) y.2.1) (fun y=>y.1) ((k,_,_)) ⟨h2,zaB⟩ ⟨Z,Z,Z,Zt⟩ ⟨Z,Zt⟩ (fun y hI=>?_)))
 obtain ⟨j,σ3,z⟩:=y
 obtain ⟨hI,hzI⟩:=hI
 rcases j with _ | j
 ·simp [zes] at hI
 dsimp only at hI hzI
 rw [Nat.add_one_mul] at hzI
 refine TC.sub (env':=[(8,_),(6,_),(7,_),(1,_),(2,_),(3,_)]) (L':=[(0,_),(1,_)]) ⟨Z,Z,Z,Z,Z,Z,Zt⟩ ⟨Z,Z,Zt⟩ (sB (xmi Z (TL.neq Z Z Z Z (fun q1=>?_) (fun q1=>?_))))
 refine TL.done (TQ.then (TC.condT Z (TC.skip (TQ.then (TC.seq (TC.block (sA (xf 0 zao Z ?_))))))))
 refine xf 6 zaw Z (xf 0 zaK Z (xL3 1 zac Z Z (xmi Z (xD [] (zhL hl) zkL Z (xmu Z (TL.ext (.agg _) Z Z Z Z (TL.ext (.bool _) Z Z Z Z (TL.alloc 2 (cs:=#[.bool false,.int .i64 0,.int .i64 0,.int .i64 0,.int .i64 0]) zgu Z Z Z (fun _=>Zt) (fun bk2=>?_)))))))))
 refine TL.stW 2 5 [_,_,_,_,_] Z Z Z Z Z Z zcT Z Z Zt (xab Z (dA (xf 0 zao Z (xL10 1 zan Z Z (xf 2 zq2 Z (xli 2 zaa Z Z (xmi Z (xD [0] (zuH hM hl) zyV Z ?_))))))))
 refine xmu Z (xei Z Z (TL.ext (.bool _) Z Z Z Z (xai Z (xab Z (dB (xf 0 zao Z (xf 6 zaw Z (xL4 1 za3 Z Z ?_))))))))
 refine xmi Z (xD [0] (zdD hM hl) zdC Z (TL.alloc 3 (cs:=#[.int .i64 0,.int .i64 0,.int .i64 0,.bool false]) zdt Z Z Z (fun _=>Zt) (fun bk3=>(TL.stW 3 4 [_,_,_,_] Z Z Z Z Z Z zbV Z Z Zt (dA (xf 0 zao Z (xf 0 zbe Z (xL6 1 zbW Z Z (xmi Z ?_)))))))))
 refine xf 0 zbn Z (xli 3 zaa Z Z (xf 1 zbm Z (xli 3 zaa Z Z ?_)))
 rw [zes,Zp q1] at hI
 dsimp only at hI
 obtain ⟨⟨b,σ4⟩,h3,hI⟩:=Zb hI
 dsimp only at hI
 refine xD [0] (zrK hM hl h3) ztz rfl (TL.cases rfl (fun q2=>?_) (fun q2=>?_))
 refine xnt Z (TL.done (TQ.then (TC.condF Z (TC.skip (TQ.then (TC.region (xL10 1 zaZ Z Z (xmi Z ?_))))))))
 rw [Zp (by simpa using q2)] at hI
 obtain ⟨σ5,h4,hI⟩:=Zb hI
 obtain ⟨⟨r2,σ6⟩,h5,h6⟩:=Zb hI
 refine xD [0] (zvq hM hl h4) zyU Z (dI (xL10 1 zaZ Z Z (xmi Z (xmi Z (xD [0] (zhi hM hl (by decide) h5) zlX Z (xai Z (TL.done (TQ.roundK ((j,_,_)) ⟨⟨h6,zaB⟩,Nat.lt_succ_self _⟩ ⟨Z,Z,Z,Zt⟩ ⟨Z,Zt⟩ (kE3 Z Z Z Zt) (kL1 Z Zt)))))))))
 refine xnf Z (dT Z (xmi Z (xai Z (xat Z (dRR (TQ.blockRet (TQ.thenRet (TQ.thenRet ?_))))))))
 refine TQ.blockRet (TQ.thenRet ?_)
 refine FQ.ret2 (v:=(.int _ _)) (x:=(.bool true)) (Bs:=[A _]) [0] Z Z Z Z ⟨Z,Zt⟩ ?_
 rw [Zn (by simpa using q2)] at hI; cases hI; exact ⟨rfl,rfl⟩
 refine dE Z (sA (xai Z (xaf Z (dR ?_))))
 refine FQ.ret2 (v:=(.int _ _)) (x:=(.bool false)) (Bs:=[A _]) [0] Z Z Z Z ⟨Z,Zt⟩ ?_
 rw [zes,Zn q1] at hI; cases hI; exact ⟨rfl,rfl⟩
theorem zqA {S:Type} [MemLike S] {mt:TypeId} {mv:Value} {A:S->Assn} (hM:MemI Tryz.prog mt mv A) {l:Lay} (hl:l.Ok) {p:Pen} {σ:S} {i u v r:Int} {k:Nat} {σ2:S} (h:smaller l k σ i u v=some (r,σ2)) (hz:Room (2 * k+2) σ:=by exact zaB):FnD Tryz.prog 213 [adjV l mt mv p,.int .i64 i,.int .i64 u,.int .i64 v] [A σ] (.int .i64 r) [A σ2]:=by
 unfold smaller at h
 obtain ⟨⟨a,σ1⟩,h1,h⟩:=Zb h
 obtain ⟨⟨b,σ3⟩,h2,h⟩:=Zb h
 dsimp only at h2 h
 cases h
 refine Fn.enter (Tryz.func213) Z Z (fun w0 R=>?_)
 refine sA (xB 1 Z (fun bk1=>(xai Z (dS (TC.seq (TC.draw (od [1,3,5,7,9,13,15,17,19,21,10,22,25]) [1] fc_m (by kernel_rfl) (xf 0 zao Z (xf 0 zbe Z (xL6 1 zbW Z Z ?_)))))))))
 refine xmi Z (xmi Z (xf 0 zao Z (xf 0 zbe Z (xL6 1 zbW Z Z (xmi Z (xmi Z (xd [0] (zp4 hM hl h1) ztl Z (kL1 Z Zt) (xd [0] (zp4 hM hl h2) ztl Z (kL1 Z Zt) ?_))))))))
 refine TL.lss Z Z Z Z (fun q1=>?_) (fun q1=>?_)
 refine dT Z (xmi Z (xai Z (dRR ?_)))
 refine FQ.ret1 (v:=(.int _ _)) (Bs:=[A _]) [0] Z Z Z ⟨Z,Zt⟩ ?_
 first | exact ⟨iE (by rw [Zp q1]),Z⟩ | exact ⟨iE (by rw [Zn q1]),Z⟩
 refine dF Z (xmi Z (xai Z (dR ?_)))
 refine FQ.ret1 (v:=(.int _ _)) (Bs:=[A _]) [0] Z Z Z ⟨Z,Zt⟩ ?_
 first | exact ⟨iE (by rw [Zp q1]),Z⟩ | exact ⟨iE (by rw [Zn q1]),Z⟩
theorem zhl {mt:TypeId} {mv:Value} {l:Lay} {p:Pen}:FnD Tryz.prog 133 [layV l,.iface mt mv,.agg #[.int .i64 p.thread,.int .i64 p.tag]] [] (adjV l mt mv p) []:=by
 refine Fn.enter (Tryz.func133) Z Z (fun w0 R=>?_)
 refine sA (xB 0 Z (fun bk0=>(xB 1 Z (fun bk1=>(TL.alloc 2 (cs:=#[.int .i64 0,.int .i64 0,.int .i64 0,.nilIface,.int .i64 0,.int .i64 0,.int .i64 0,.int .i64 0,.int .i64 0,.nilIface]) zs7 Z Z Z (fun _=>Zt) (fun bk2=>(dA (xL3 0 zac Z Z (xmc Z (xL2 1 za7 Z Z (TL.bld [.int .i64 0,.int .i64 0,.int .i64 0,.nilIface,.int .i64 0,.int .i64 0] [(.agg _),(.iface _ _),(.agg _)] [_,_,_,_,_,_] zjB zom ⟨Z,Z,Z,Zt⟩ ⟨Z,Z⟩ Z Z ?_)))))))))))
 refine TL.bld [.int .i64 0,.int .i64 0,.int .i64 0,.nilIface,.int .i64 0,.int .i64 0] [(.agg _)] [_,_,_,_,_,_] zs8 zyJ ⟨Z,Zt⟩ ⟨Z,Z⟩ Z Z (TL.alloc 3 (cs:=#[.int .i64 0,.int .i64 0,.int .i64 0,.nilIface,.int .i64 0,.int .i64 0]) zs8 Z Z Z (fun _=>Zt) (fun bk3=>(TL.stW 3 6 [_,_,_,_,_,_] Z Z Z Z Z Z zbW Z Z Zt (dA (xL6 3 zbW Z Z (xL3 0 zac Z Z (xmc Z (TL.bld [.int .i64 0,.int .i64 0,.int .i64 0,.nilIface] [(.agg _),(.iface _ _)] [_,_,_,_] zyz zyI ⟨Z,Z,Zt⟩ ⟨Z,Z⟩ Z Z ?_))))))))
 refine TL.bld [.int .i64 0,.int .i64 0,.int .i64 0,.nilIface,.int .i64 0,.int .i64 0,.int .i64 0,.int .i64 0,.int .i64 0,.nilIface] [(.agg _),(.agg _)] [_,_,_,_,_,_,_,_,_,_] zyy zyH ⟨Z,Z,Zt⟩ ⟨Z,Z⟩ Z Z (TL.bld [.int .i64 0,.int .i64 0,.int .i64 0,.nilIface,.int .i64 0,.int .i64 0,.int .i64 0,.int .i64 0,.int .i64 0,.nilIface] [(.agg _)] [_,_,_,_,_,_,_,_,_,_] zyx zyG ⟨Z,Zt⟩ ⟨Z,Z⟩ Z Z (TL.bld [.int .i64 0,.int .i64 0,.int .i64 0,.nilIface,.int .i64 0,.int .i64 0,.int .i64 0,.int .i64 0,.int .i64 0,.nilIface] [(.agg _)] [_,_,_,_,_,_,_,_,_,_] zs7 zyF ⟨Z,Zt⟩ ⟨Z,Z⟩ Z Z ?_))
 refine TL.stW 2 10 [_,_,_,_,_,_,_,_,_,_] Z Z Z Z Z Z zck Z Z Zt (dR ?_)
 refine FQ.retG (rs:=[.cell 6 196]) [(.agg _)] (Bs:=[]) [] Z ⟨⟨_,_,_,_,_,2,Z,Z,.inr ⟨10,[_,_,_,_,_,_,_,_,_,_],zck,Z,Z⟩⟩,Zt⟩ Z Z Zt ?_
 exact ⟨Z,Z⟩
theorem zsP {S:Type} [MemLike S] {mt:TypeId} {mv:Value} {A:S->Assn} (hM:MemI Tryz.prog mt mv A) {l:Lay} (hl:l.Ok) {p:Pen} {σ:S} {u v:Int} {b:Bool} {k:Nat} {σ2:S} (h:same l k σ 0 u v=some (b,σ2)) (hz:Room (2 * k) σ:=by exact zaB):FnD Tryz.prog 160 [adjV l mt mv p,.int .i64 u,.int .i64 v] [A σ] (.bool b) [A σ2]:=by
 refine Fn.enter (Tryz.func160) Z Z (fun w0 R=>?_)
 refine sA (xB 1 Z (fun bk1=>(xaf Z (dA (xf 0 zaX Z (xf 0 zao Z (xf 0 zbe Z (xL6 1 zbW Z Z (xmi Z ?_)))))))))
 refine xmi Z (xD [0] (zrK hM hl h) ztz Z (xab Z (dR ?_)))
 refine FQ.ret1 (v:=(.bool _)) (Bs:=[A _]) [0] Z Z Z ⟨Z,Zt⟩ ?_
 exact ⟨Z,Z⟩
theorem zqX {S:Type} [MemLike S] {mt:TypeId} {mv:Value} {A:S->Assn} (hM:MemI Tryz.prog mt mv A) {l:Lay} (hl:l.Ok) {p:Pen} {σ:S} {s u v:Int} {b:Bool} {k:Nat} {σ2:S} (h:zbu l p k σ s u v=some (b,σ2)) (hz:Room (23 * k+46+k * (94 * k+24)) σ:=by exact zaB):FnD Tryz.prog 120 [adjV l mt mv p,.int .i64 s,.int .i64 u,.int .i64 v] [A σ] (.bool b) [A σ2]:=by
 unfold zbu at h
 obtain ⟨⟨j,σ1⟩,h1,h⟩:=Zb h
 dsimp only at h
 refine Fn.enter (Tryz.func120) Z Z (fun w0 R=>?_)
 refine sA (xB 1 Z (fun bk1=>(xaf Z (dA (xL10 1 zck Z Z (xmi Z (xmi Z (xD [0] (zsP hM hl h1) zzf Z (xab Z ?_)))))))))
 refine dA (xf 0 zaX Z (xf 0 zao Z (xf 6 zaw Z (xL4 1 za3 Z Z (xmi Z (xmi Z (xmi Z (xD [0] (zzA hM hl) zze Z ?_))))))))
 refine dB (xmb rfl (TL.cases rfl (fun q1=>?_) (fun q1=>?_)))
 refine TL.done (TQ.then (TC.condT Z (TC.region (xf 0 zaX Z (xf 0 zao Z (xL10 1 zan Z Z (xmi Z ?_)))))))
 rw [Zp (by simpa using q1)] at h
 obtain ⟨σ3,h2,h3⟩:=Zb h
 cases h3
 refine xD [0] (zns hM hl h2) ztN Z (dA (xmb Z (TL.not _ _ Z Z Z Z (xab Z (dR ?_)))))
 refine FQ.ret1 (v:=(.bool _)) (Bs:=[A _]) [0] Z Z Z ⟨Z,Zt⟩ ?_
 first | exact ⟨by rw [q1]; rfl,Z⟩ | exact ⟨by simp [*],Z⟩
 refine TL.done (TQ.then (TC.condF Z (TC.region (xf 0 zaX Z (xL10 1 zaZ Z Z (xmi Z ?_))))))
 rw [Zn (by simpa using q1)] at h
 obtain ⟨σ3,h2,h3⟩:=Zb h
 cases h3
 refine xD [0] (zpn hM hl h2) ztM Z (dA (xmb Z (TL.not _ _ Z Z Z Z (xab Z (dR ?_)))))
 refine FQ.ret1 (v:=(.bool _)) (Bs:=[A _]) [0] Z Z Z ⟨Z,Zt⟩ ?_
 first | exact ⟨by rw [q1]; rfl,Z⟩ | exact ⟨by simp [*],Z⟩
theorem zqI {S:Type} [MemLike S] {mt:TypeId} {mv:Value} {A:S->Assn} (hM:MemI Tryz.prog mt mv A) {l:Lay} (hl:l.Ok) {p:Pen} {σ:S} {i u v:Int} {r:Int×Bool} {k:Nat} {σ2:S} (h:replace l p k σ i u v=some (r,σ2)) (hz:Room (33 * k+45+k * (113 * k+43)+k * (35 * k+69)+k * (94 * k+24)) σ:=by exact zaB):FnD Tryz.prog 176 [adjV l mt mv p,.int .i64 i,.int .i64 u,.int .i64 v] [A σ] (.tuple #[.int .i64 r.1,.bool r.2]) [A σ2]:=by
 unfold replace at h
 refine Fn.enter (Tryz.func176) Z Z (fun w0 R=>?_)
 refine sA (xB 1 Z (fun bk1=>(xai Z (xaf Z (dB (xmi Z (TL.add _ Z Z (Z) Z Z (xf 0 zaX Z (xf 0 zao Z ?_)))))))))
 refine xf 6 zaw Z (xf 0 zaK Z (xL3 1 zac Z Z (xD [] (zcQ hl) zgw Z (TL.geq Z Z Z Z (fun q1=>?_) (fun q1=>?_)))))
 refine dT Z (xai Z (xaf Z (dRR ?_)))
 refine FQ.ret2 (v:=(.int _ _)) (x:=(.bool false)) (Bs:=[A _]) [0] Z Z Z Z ⟨Z,Zt⟩ ?_
 first | (rw [Zp (by omega)] at h; cases h; exact ⟨rfl,rfl⟩) | exact ⟨by dsimp only at q2; rw [q2],rfl⟩ | (rw [Zn (by simpa using q2)] at h; cases h; exact ⟨by simp_all,rfl⟩)
 refine dF Z (xf 0 zaX Z (xL10 1 zaZ Z Z (xmi Z (xmi Z (xmi Z ?_)))))
 rw [Zn (by omega)] at h
 obtain ⟨⟨w,σ3⟩,h1,h⟩:=Zb h
 obtain ⟨σ4,h2,h⟩:=Zb h
 obtain ⟨⟨⟨b,ok⟩,σ5⟩,h3,h⟩:=Zb h
 dsimp only at h2 h3 h
 refine xD [0] (zqA hM hl h1) zy3 Z (xai Z (dA (xf 0 zaX Z (xL10 1 zaZ Z Z (xmi Z (xmi Z (xD [0] (zuU hM hl h2) zy2 Z (dB ?_))))))))
 refine xf 0 zaX Z (xL10 1 zaZ Z Z (xmi Z (xmi Z (xD [0] (zxE hM hl h3) zy1 Z (xmu Z (xei Z Z (TL.ext (.bool _) Z Z Z Z (xai Z ?_))))))))
 refine xab rfl (dA (xmb rfl (TL.cases rfl (fun q2=>?_) (fun q2=>?_))))
 refine dT Z (xf 0 zaX Z (xf 0 zao Z (xL10 1 zan Z Z (xmi Z ?_))))
 rw [Zp (by simpa using q2)] at h
 obtain ⟨σ6,h4,h⟩:=Zb h
 obtain ⟨σ7,h5,h6⟩:=Zb h
 cases h6
 refine xD [0] (zj6 hM hl h4) zoy Z (dG (xf 0 zaX Z (xL10 1 zaZ Z Z (xmi Z (xD [0] (zpn hM hl h5) ztM Z (dA (xmi Z (xmb Z ?_))))))))
 refine xai Z (xab Z (dR ?_))
 refine FQ.ret2 (v:=(.int _ _)) (x:=(.bool _)) (Bs:=[A _]) [0] Z Z Z Z ⟨Z,Zt⟩ ?_
 first | (rw [Zp (by omega)] at h; cases h; exact ⟨rfl,rfl⟩) | exact ⟨by dsimp only at q2; rw [q2],rfl⟩ | (rw [Zn (by simpa using q2)] at h; cases h; exact ⟨by simp_all,rfl⟩)
 refine dF Z (xmi Z (xmb Z (xai Z (xab Z (dR ?_)))))
 refine FQ.ret2 (v:=(.int _ _)) (x:=(.bool _)) (Bs:=[A _]) [0] Z Z Z Z ⟨Z,Zt⟩ ?_
 first | (rw [Zp (by omega)] at h; cases h; exact ⟨rfl,rfl⟩) | exact ⟨by dsimp only at q2; rw [q2],rfl⟩ | (rw [Zn (by simpa using q2)] at h; cases h; exact ⟨by simp_all,rfl⟩)
theorem zeU {S:Type} [MemLike S] {mt:TypeId} {mv:Value} {A:S->Assn} (hM:MemI Tryz.prog mt mv A) {l:Lay} (hl:l.Ok) {p:Pen} {σ:S} {s b:Int} {t o:Bool} {k:Nat} {σ2:S} (h:zbv l p k σ s=some ((t,b,o),σ2)) (hz:Room (14 * k+37+k * (69 * k+36)+k * (33 * k+45+k * (113 * k+43)+k * (35 * k+69)+k * (94 * k+24))) σ:=by exact zaB):FnD Tryz.prog 135 [adjV l mt mv p,.int .i64 s] [A σ] (.tuple #[.bool t,.int .i64 b,.bool o]) [A σ2]:=by
 unfold zbv at h
 dsimp only at h
 refine Fn.enter (Tryz.func135) Z Z (fun w0 R=>?_)
 refine sA (xB 1 Z (fun bk1=>(xaf Z (xai Z (xaf Z (dA (xf 0 zaX Z (xf 0 zao Z (xf 6 zaw Z ?_)))))))))
 refine xL4 1 za3 Z Z (xmi Z (xD [0] (zdD hM hl) zdC Z (TL.alloc 2 (cs:=#[.int .i64 0,.int .i64 0,.int .i64 0,.bool false]) zdt Z Z Z (fun _=>Zt) (fun bk2=>(TL.stW 2 4 [_,_,_,_] Z Z Z Z Z Z zbV Z Z Zt (dB (xf 3 zon Z (xlb 2 zem Z Z (TL.not _ _ Z Z Z Z ?_)))))))))
 refine TL.done (TQ.then (TC.cond Z (fun q1=>?_) (fun q1=>?_)))
 refine sA (xf 0 zaX Z (xf 0 zao Z (xL10 1 zan Z Z (xmi Z ?_))))
 rw [Zn (by simpa using q1)] at h
 obtain ⟨σ3,h1,h2⟩:=Zb h
 cases h2
 refine xD [0] (zj6 hM hl h1) zoy Z (dA (xf 0 zaX Z (xf 0 zao Z (xf 6 zaw Z (xL4 1 za3 Z Z (xf 0 zbn Z (xli 2 zaa Z Z (xf 1 zbm Z ?_))))))))
 refine xli 2 zaa Z Z (xD [0] (zkO hM hl) ztJ Z (dA (xaf Z (xai Z (xaf Z (dRR ?_))))))
 refine FQ.ret3 (v:=(.bool false)) (x:=(.int _ _)) (y:=(.bool false)) (Bs:=[A _]) [0] Z Z Z Z Z ⟨Z,Zt⟩ ?_
 exact ⟨Z,Z⟩
 refine TC.skip (TQ.then (sA (xf 0 zaX Z (xL10 1 zaZ Z Z (xmi Z ?_)))))
 rw [Zp (by simpa using q1)] at h
 obtain ⟨σ3,h1,h⟩:=Zb h
 obtain ⟨⟨⟨b2,o2⟩,σ4⟩,h2,h3⟩:=Zb h
 dsimp only at h2 h3
 cases h3
 refine xD [0] (zyt hM hl h1) zzb Z (dA (xf 0 zaX Z (xf 0 zao Z (xf 6 zaw Z (xL4 1 za3 Z Z (xf 0 zbn Z (xli 2 zaa Z Z (xf 1 zbm Z ?_))))))))
 refine xli 2 zaa Z Z (xD [0] (zkO hM hl) ztJ Z (dB (xf 2 zbE Z (xli 2 zaa Z Z (xai Z (dK (TC.loopK (X:=Nat×S×Int×Int×Bool) [2,4,7] [1,2] (fun y=>[(8,.int .i64 y.2.2.1),(5,.int .i64 y.2.2.2.1),(6,.bool y.2.2.2.2)]) (fun y=>[(0,A y.2.1)]) (fun y=>zbp l p (eget l σ s).u (eget l σ s).v y.1 k y.2.1 y.2.2.1 (y.2.2.2.1,y.2.2.2.2)=some ((b,o),σ2)/\Room (y.1 * (33 * k+45+k * (113 * k+43)+k * (35 * k+69)+k * (94 * k+24))) y.2.1) (fun y=>y.1) ((k,_,_,0,false)) ⟨h2,zaB⟩ ⟨Z,Z,Z,Zt⟩ ⟨Z,Zt⟩ (fun y hI=>?_))))))))
 obtain ⟨j,σ5,z,b4,o4⟩:=y
 obtain ⟨hI,hzI⟩:=hI
 rcases j with _ | j
 ·simp [zbp] at hI
 dsimp only at hI hzI
 rw [Nat.add_one_mul] at hzI
 refine TC.sub (env':=[(8,_),(5,_),(6,_),(2,_),(4,_),(7,_)]) (L':=[(0,_),(1,_),(2,_)]) ⟨Z,Z,Z,Z,Z,Z,Zt⟩ ⟨Z,Z,Z,Zt⟩ (sB (xmi Z (TL.geq Z Z Z Z (fun q2=>?_) (fun q2=>?_))))
 refine TL.done (TQ.then (TC.condT Z (TC.skip (TQ.then (TC.seq (TC.block (sA (xL10 1 zck Z Z ?_))))))))
 refine xmi Z (xf 0 zbn Z (xli 2 zaa Z Z (xf 1 zbm Z (xli 2 zaa Z Z ?_))))
 rw [zbp,Zp q2] at hI
 obtain ⟨⟨⟨b3,o3⟩,σ6⟩,h4,hI⟩:=Zb hI
 dsimp only at h4 hI
 refine xD [0] (zqI hM hl h4) zza rfl (xmu rfl (xei rfl rfl (TL.ext (.bool _) rfl rfl rfl rfl (xai rfl (xab rfl (dA (xmb rfl (TL.cases rfl (fun q3=>?_) (fun q3=>?_)))))))))
 refine TL.done (TQ.then (TC.condT Z (TC.exit (TQ.blockOut Z (TQ.thenExit (TQ.thenExit (TQ.blockHere (TQ.then ?_))))))))
 refine sA (xmi Z (xmb Z (xat Z (xai Z (xab Z (dR ?_))))))
 refine FQ.ret3 (v:=(.bool true)) (x:=(.int _ _)) (y:=(.bool _)) (Bs:=[A _]) [0] Z Z Z Z Z ⟨Z,Zt⟩ ?_
 rw [Zp (by simpa using q3)] at hI; cases hI; exact ⟨rfl,rfl⟩
 refine TL.done (TQ.then (TC.condF Z (TC.skip (TQ.inBlock (TQ.then (TC.region (xmi Z (TL.sub _ Z Z (Z) Z Z ?_))))))))
 refine xai Z (TL.done (TQ.roundK ((j,_,_,_,_)) ⟨⟨(by rw [Zn (by simpa using q3)] at hI; exact hI),zaB⟩,Nat.lt_succ_self _⟩ ⟨Z,Z,Z,Zt⟩ ⟨Z,Zt⟩ (kE3 Z Z Z Zt) (kL2 Z Z Zt)))
 refine dE Z (sA (xmi Z (xmb Z (xat Z (xai Z (xab Z (dR ?_)))))))
 refine FQ.ret3 (v:=(.bool true)) (x:=(.int _ _)) (y:=(.bool _)) (Bs:=[A _]) [0] Z Z Z Z Z ⟨Z,Zt⟩ ?_
 rw [zbp,Zn q2] at hI; cases hI; exact ⟨rfl,rfl⟩
theorem at_Li {ab mb N cap:Nat} {c:Cnt} {i:Int} (h0:0<=i) (h1:i<N):FnD Tryz.prog 82 [.pointer (some ⟨ab,0,none⟩),.int .i64 i,.pointer (some ⟨ab,1,none⟩)] [arO ab mb (N) cap 139 c] (.pointer (some ⟨mb,0+i.toNat * 1,none⟩)) [arO ab mb (N) cap 139 c.ld]:=by
 refine Fn.enter (Tryz.func82) Z Z (fun w0 R=>?_)
 refine sA (TL.asg (.pointer none) Z Z Z (dB (xmi Z (TL.lssF Z Z (by omega) Z Z (xmf Z (xmi Z (xmp Z (xN0 Z ?_))))))))
 refine xf 0 zcC Z (xls 0 zgv Z Z (xz zaM Z (TL.geqF Z Z (by omega) Z Z (xpF Z (dF Z (xmp Z (xN0 Z (xli 0 zaa Z Z ?_))))))))
 refine TL.add _ Z Z (Z) Z Z (xN0 Z (TL.st 0 #[_,_,_,_,_,_] (.int _ _) Z Z Z Z Z Z zaa Z Z Zt (dA (xmp Z (xN0 Z (xf 0 zcC Z (xls 0 zgv Z Z (xmi Z ?_))))))))
 refine TL.ia _ Z Z zaM (by omega) (by omega) Z Z Z (xap Z (dR ?_))
 refine FQ.ret1 (v:=(.pointer (some ⟨_,_,none⟩))) (Bs:=[_]) [0] Z Z Z ⟨Z,Zt⟩ ?_
 exact ⟨Z,Z⟩
theorem at_Si {ab mb N cap:Nat} {c:Cnt} {i:Int} (h0:0<=i) (h1:i<N):FnD Tryz.prog 82 [.pointer (some ⟨ab,0,none⟩),.int .i64 i,.pointer (some ⟨ab,2,none⟩)] [arO ab mb (N) cap 139 c] (.pointer (some ⟨mb,0+i.toNat * 1,none⟩)) [arO ab mb (N) cap 139 c.st]:=by
 refine Fn.enter (Tryz.func82) Z Z (fun w0 R=>?_)
 refine sA (TL.asg (.pointer none) Z Z Z (dB (xmi Z (TL.lssF Z Z (by omega) Z Z (xmf Z (xmi Z (xmp Z (xN0 Z ?_))))))))
 refine xf 0 zcC Z (xls 0 zgv Z Z (xz zaM Z (TL.geqF Z Z (by omega) Z Z (xpF Z (dF Z (xmp Z (xN0 Z (xli 0 zaa Z Z ?_))))))))
 refine TL.add _ Z Z (Z) Z Z (xN0 Z (TL.st 0 #[_,_,_,_,_,_] (.int _ _) Z Z Z Z Z Z zaa Z Z Zt (dA (xmp Z (xN0 Z (xf 0 zcC Z (xls 0 zgv Z Z (xmi Z ?_))))))))
 refine TL.ia _ Z Z zaM (by omega) (by omega) Z Z Z (xap Z (dR ?_))
 refine FQ.ret1 (v:=(.pointer (some ⟨_,_,none⟩))) (Bs:=[_]) [0] Z Z Z ⟨Z,Zt⟩ ?_
 exact ⟨Z,Z⟩
theorem at_o {ab mb N cap k:Nat} {c:Cnt} {i:Int} (h:¬(0<=i/\i<N)):FnD Tryz.prog 82 [.pointer (some ⟨ab,0,none⟩),.int .i64 i,.pointer (some ⟨ab,k,none⟩)] [arO ab mb (N) cap 139 c] (.pointer none) [arO ab mb (N) cap 139 c]:=by
 refine Fn.enter (Tryz.func82) Z Z (fun w0 R=>?_)
 refine sA (TL.asg (.pointer none) Z Z Z (dB (xmi Z (TL.lss Z Z Z Z (fun q1=>?_) (fun q1=>?_)))))
 refine xmt Z (xo Z (xo Z (xo Z (xo Z (xo Z (xo Z (xo Z (xpT Z ?_))))))))
 refine dT Z (TL.asg (.pointer none) Z Z Z (dRR ?_))
 refine FQ.ret1 (v:=(.pointer none)) (Bs:=[_]) [0] Z Z Z ⟨Z,Zt⟩ ?_
 exact ⟨Z,Z⟩
 refine xmf Z (xmi Z (xmp Z (xN0 Z (xf 0 zcC Z (xls 0 zgv Z Z (xz zaM Z (TL.geq Z Z Z Z (fun q2=>?_) (fun q2=>?_))))))))
 refine xpH Z (dT Z (TL.asg (.pointer none) Z Z Z (dRR ?_)))
 refine FQ.ret1 (v:=(.pointer none)) (Bs:=[_]) [0] Z Z Z ⟨Z,Zt⟩ ?_
 exact ⟨Z,Z⟩
 refine xpF Z (TL.done (TQ.then (TC.condF Z (TC.skip (TQ.then (TC.seq ?_))))))
 exact absurd (by omega:False) id
theorem zzQ {ab mb cap:Nat} {rs:Array Value} {σ:Array UInt64} {c:Cnt} {i:Int} (h0:0<=i) (h1:i<σ.size):FnD Tryz.prog 23 [.pointer (some ⟨ab,0,none⟩),.int .i64 i] [arO ab mb (σ.size) cap 139 c,pt mb (.cells (encM (σ)++rs) 29)] (.tuple #[.int .u64 (MemLike.get σ i),.int .i64 0]) [arO ab mb (σ.size) cap 139 c.ld,pt mb (.cells (encM (σ)++rs) 29)]:=by
 refine Fn.enter (Tryz.func23) Z Z (fun w0 R=>?_)
 refine sA (xai Z (xai Z (dA (xmp Z (xmi Z (xmp Z (xN0 Z (xf 1 zeo Z ?_))))))))
 refine xf 0 zjJ Z (xD [0] (at_Li h0 h1) zpU Z (xap Z (dB (xmp Z (TL.nilP false Z Z zlT Z Z Z (dF Z (xmp Z (xN0 Z ?_))))))))
 refine TL.ldM 1 Z Z (by omega) (by omega) zik Z Z (xai Z (xai Z (dR ?_)))
 refine FQ.ret2 (v:=(.int _ _)) (x:=(.int _ _)) (Bs:=[_,_]) [0,1] Z Z Z Z ⟨Z,Z,Zt⟩ ?_
 exact ⟨Z,Z⟩
theorem zzP {ab mb cap:Nat} {rs:Array Value} {σ:Array UInt64} {c:Cnt} {i:Int} (h:¬(0<=i/\i<σ.size)):FnD Tryz.prog 23 [.pointer (some ⟨ab,0,none⟩),.int .i64 i] [arO ab mb (σ.size) cap 139 c,pt mb (.cells (encM (σ)++rs) 29)] (.tuple #[.int .u64 (MemLike.get σ i),.int .i64 20]) [arO ab mb (σ.size) cap 139 c,pt mb (.cells (encM (σ)++rs) 29)]:=by
 refine Fn.enter (Tryz.func23) Z Z (fun w0 R=>?_)
 refine sA (xai Z (xai Z (dA (xmp Z (xmi Z (xmp Z (xN0 Z (xf 1 zeo Z ?_))))))))
 refine xf 0 zjJ Z (xD [0] (at_o h) zpU Z (TL.asg (.pointer none) Z Z Z (dB (TL.mv (.pointer none) Z Z Z (TL.nilP true Z Z zlT Z Z Z (dT Z (xai Z (xai Z ?_))))))))
 refine dRR ?_
 refine FQ.ret2 (v:=(.int _ _)) (x:=(.int _ _)) (Bs:=[_,_]) [0,1] Z Z Z Z ⟨Z,Z,Zt⟩ ?_
 exact ⟨by rw [zf2,Zn h],Z⟩
theorem zwj {ab mb cap:Nat} {rs:Array Value} {σ:Array UInt64} {c:Cnt} {i:Int} (h0:0<=i) (h1:i<σ.size) {y:Int} (hv:0<=y/\y<18446744073709551616):FnD Tryz.prog 17 [.pointer (some ⟨ab,0,none⟩),.int .i64 i,.int .u64 y] [arO ab mb (σ.size) cap 139 c,pt mb (.cells (encM (σ)++rs) 29)] (.int .i64 0) [arO ab mb (σ.size) cap 139 c.st,pt mb (.cells (encM (MemLike.st σ i y)++rs) 29)]:=by
 refine Fn.enter (Tryz.func17) Z Z (fun w0 R=>?_)
 refine sA (xai Z (dA (xmp Z (xmi Z (xmp Z (xN0 Z (xf 1 zeo Z (xf 1 zjI Z ?_))))))))
 refine xD [0] (at_Si h0 h1) zpU Z (xap Z (dB (xmp Z (TL.nilP false Z Z zlT Z Z Z (dF Z (xmp Z (xmi Z (xN0 Z ?_))))))))
 refine TL.stM 1 Z Z Z (by omega) (by omega) (by omega) zik Z Z Zt (dA (xai Z (dR ?_)))
 refine FQ.ret1 (v:=(.int _ _)) (Bs:=[_,_]) [0,1] Z Z Z ⟨Z,Z,Zt⟩ ?_
 exact ⟨Z,Z⟩
theorem zwi {ab mb cap:Nat} {rs:Array Value} {σ:Array UInt64} {c:Cnt} {i:Int} (h:¬(0<=i/\i<σ.size)) {y:Int} (hv:0<=y/\y<18446744073709551616):FnD Tryz.prog 17 [.pointer (some ⟨ab,0,none⟩),.int .i64 i,.int .u64 y] [arO ab mb (σ.size) cap 139 c,pt mb (.cells (encM (σ)++rs) 29)] (.int .i64 20) [arO ab mb (σ.size) cap 139 c,pt mb (.cells (encM (MemLike.st σ i y)++rs) 29)]:=by
 have hst:(MemLike.st σ i y:Array UInt64)=σ:=by rw [zj7,Zn h]
 refine Fn.enter (Tryz.func17) Z Z (fun w0 R=>?_)
 refine sA (xai Z (dA (xmp Z (xmi Z (xmp Z (xN0 Z (xf 1 zeo Z (xf 1 zjI Z ?_))))))))
 refine xD [0] (at_o h) zpU Z (TL.asg (.pointer none) Z Z Z (dB (TL.mv (.pointer none) Z Z Z (TL.nilP true Z Z zlT Z Z Z (dT Z (xai Z (dRR ?_)))))))
 refine FQ.ret1 (v:=(.int _ _)) (Bs:=[_,_]) [0,1] Z Z Z ⟨Z,Z,Zt⟩ ?_
 exact ⟨Z,by rw [hst]⟩
theorem zuG {ab mb:Nat} {σ:Array UInt64} {c:Cnt} {i:Int}:FnD Tryz.prog 23 [.pointer (some ⟨ab,0,none⟩),.int .i64 i] [arenaC ab mb 139 29 (σ) (c)] (.tuple #[.int .u64 (MemLike.get σ i),.int .i64 (if 0<=i/\i<σ.size then 0 else 20)]) [arenaC ab mb 139 29 (σ) (cntL σ i c)]:=by
 unfold cntL
 by_cases h:0<=i/\i<σ.size
 ·rw [Zp h,Zp h]; exact Fn.arenaC Z fun cap rs=>zzQ h.1 h.2
 ·rw [Zn h,Zn h]; exact Fn.arenaC Z fun cap rs=>zzP h
theorem zre {ab mb:Nat} {σ:Array UInt64} {c:Cnt} {i v:Int} (hv:0<=v/\v<18446744073709551616):FnD Tryz.prog 17 [.pointer (some ⟨ab,0,none⟩),.int .i64 i,.int .u64 v] [arenaC ab mb 139 29 (σ) (c)] (.int .i64 (if 0<=i/\i<σ.size then 0 else 20)) [arenaC ab mb 139 29 (MemLike.st σ i v) (cntS σ i c)]:=by
 unfold cntS
 by_cases h:0<=i/\i<σ.size
 ·rw [Zp h,Zp h]; exact Fn.arenaC (zgQ _ _ _) fun cap rs=>zwj h.1 h.2 hv
 ·rw [Zn h,Zn h]; exact Fn.arenaC (zgQ _ _ _) fun cap rs=>zwi h hv
theorem ziU {ab mb:Nat} {σ:Array UInt64} {i:Int}:FnD Tryz.prog 23 [.pointer (some ⟨ab,0,none⟩),.int .i64 i] [zap ab mb 139 29 (σ)] (.tuple #[.int .u64 (MemLike.get σ i),.int .i64 (if 0<=i/\i<σ.size then 0 else 20)]) [zap ab mb 139 29 (σ)]:=Fn.arena fun _=>⟨_,zuG⟩
theorem ze6 {ab mb:Nat} {σ:Array UInt64} {i v:Int} (hv:0<=v/\v<18446744073709551616):FnD Tryz.prog 17 [.pointer (some ⟨ab,0,none⟩),.int .i64 i,.int .u64 v] [zap ab mb 139 29 (σ)] (.int .i64 (if 0<=i/\i<σ.size then 0 else 20)) [zap ab mb 139 29 (MemLike.st σ i v)]:=Fn.arena fun _=>⟨_,zre hv⟩
theorem zvj {ab mb:Nat} {σ:Array UInt64} {i:Int}:FnD Tryz.prog 301 [.agg #[.pointer (some ⟨ab,0,none⟩)],.int .i64 i] [zap ab mb 139 29 (σ)] (.int .u64 (MemLike.get σ i)) [zap ab mb 139 29 (σ)]:=by
 refine Fn.enter (Tryz.func301) Z Z (fun w0 R=>?_)
 refine sA (xB 1 Z (fun bk1=>(xai Z (dA (xf 0 zjG Z (xlp 1 zdl Z Z (xmi Z (xD [0] ziU zpW Z (xmu Z ?_)))))))))
 refine xei Z Z (xei Z Z (xai Z (xai Z (dA (xmi Z (xai Z (dR ?_)))))))
 refine FQ.ret1 (v:=(.int _ _)) (Bs:=[zap ab mb 139 29 (σ)]) [0] Z Z Z ⟨Z,Zt⟩ ?_
 exact ⟨Z,Z⟩
theorem zr8 {ab mb:Nat} {σ:Array UInt64} {i:Int} {y:Int} (hv:0<=y/\y<18446744073709551616):FnD Tryz.prog 302 [.agg #[.pointer (some ⟨ab,0,none⟩)],.int .i64 i,.int .u64 y] [zap ab mb 139 29 (σ)] (.tuple #[]) [zap ab mb 139 29 (MemLike.st σ i y)]:=by
 refine Fn.enter (Tryz.func302) Z Z (fun w0 R=>?_)
 refine sA (xB 1 Z (fun bk1=>(dG (xf 0 zjG Z (xlp 1 zdl Z Z (xmi Z (xmi Z (xD [0] (ze6 hv) zkN Z (TL.done ?_)))))))))
 refine FQ.end0 (Bs:=[_]) [0] Z Z ⟨Z,Zt⟩ ?_
 exact ⟨Z,Z⟩
theorem zfD {ab mb:Nat}:MemI (S:=Array UInt64) Tryz.prog 149 (.agg #[.pointer (some ⟨ab,0,none⟩)]) (zap ab mb 139 29) :=
 ⟨⟨301,_,ziG (by kernel_rfl) (by kernel_rfl),fun _ _ _=>zvj⟩,⟨302,_,ziG (by kernel_rfl) (by kernel_rfl),fun _ _ _ hv _=>zr8 hv⟩⟩
theorem zzM {N:Nat} (hN:N<=16384):Go.Eng.Fn Tryz.prog 16 [.int .i64 ((N:Nat):Int)] [] (fun v Bs=>∃ ab mb,v=.tuple #[.pointer (some ⟨ab,0,none⟩),.int .i64 0]/\Bs=[arenaC ab mb 139 29 (Array.replicate N 0) (⟨0,0,0,0,0⟩)]):=by
 refine Fn.enter (Tryz.func16) Z Z (fun w0 R=>?_)
 refine sA (TL.asg (.pointer none) Z Z Z (xai Z (dB (xmi Z (TL.lssF Z Z (by omega) Z Z (xmf Z (xmi Z (TL.gtrF Z Z (by omega) Z Z ?_))))))))
 refine xpF Z (dF Z (xmi Z (TL.mkS 0 Z Z zjD zAA Z (by omega) Z Z (fun bk0=>⟨Zt,?_⟩))))
 refine TL.bld [.slice none 0 0,.int .i64 0,.int .i64 0,.int .i64 0,.int .i64 0,.int .i64 0] [(.slice _ _ _)] [_,_,_,_,_,_] zta ztc ⟨Z,Zt⟩ ⟨Z,Z⟩ Z Z (xB 1 Z (fun bk1=>(xap Z (xai Z (dR (TQ.conseq 0 (B:=pt _ (.cells (encM (Array.replicate N 0)++#[]) 29)) Z (fun h hh=>by rw [<-zvX,Array.append_empty]; exact hh) (TQ.arenaC 1 0 (N:=N) (c:=⟨0,0,0,0,0⟩) (by simp) Z Z (by decide) ?_)))))))
 refine FQ.ret2 (v:=(.pointer (some ⟨_,_,none⟩))) (x:=(.int _ _)) (Bs:=[_]) [1] Z Z Z Z ⟨Z,Zt⟩ ?_
 exact ⟨_,_,Z,Z⟩
theorem zfj {ab:Nat}:FnD Tryz.prog 85 [.pointer (some ⟨ab,0,none⟩)] [] (.agg #[.pointer (some ⟨ab,0,none⟩)]) []:=by
 refine Fn.enter (Tryz.func85) Z Z (fun w0 R=>?_)
 refine sA (TL.alloc 0 (cs:=#[.pointer none]) zs9 Z Z Z (fun _=>Zt) (fun bk0=>(dA (xmp Z (TL.bld [.pointer none] [(.pointer (some ⟨_,_,none⟩))] [_] zs9 zyK ⟨Z,Zt⟩ ⟨Z,Z⟩ Z Z (TL.stW 0 1 [_] Z Z Z Z Z Z znh Z Z Zt (dR ?_)))))))
 refine FQ.retG (rs:=[.cell 2 149]) [(.agg _)] (Bs:=[]) [] Z ⟨⟨_,_,_,_,_,0,Z,Z,.inr ⟨1,[_],znh,Z,Z⟩⟩,Zt⟩ Z Z Zt ?_
 exact ⟨Z,Z⟩
theorem zzS {x:Int}:FnD Tryz.prog 189 [.int .i64 x] [] (wdV (wofI x)) []:=by
 refine Fn.enter (Tryz.func189) Z Z (fun w0 R=>?_)
 refine sA (TL.alloc 0 (cs:=#[.int .i64 0,.int .i64 0,.int .i64 0,.int .i64 0]) zca Z Z Z (fun _=>Zt) (fun bk0=>(dA (xmi Z (TL.max2 Z Z Z Z (TL.min2 Z Z Z Z (xai Z (dA (xmi Z ?_)))))))))
 refine xmi Z (TL.bld [.int .i64 0,.int .i64 0,.int .i64 0,.int .i64 0] [(.int _ _),(.int _ _)] [_,_,_,_] zca zhU ⟨Z,Z,Zt⟩ ⟨Z,Z⟩ Z Z (TL.stW 0 4 [_,_,_,_] Z Z Z Z Z Z zaF Z Z Zt (dR ?_)))
 refine FQ.retG (rs:=[.cell 2 260]) [(.agg _)] (Bs:=[]) [] Z ⟨⟨_,_,_,_,_,0,Z,Z,.inr ⟨4,[_,_,_,_],zaF,Z,Z⟩⟩,Zt⟩ Z Z Zt ?_
 exact ⟨Z,Z⟩
theorem zxy {tag:Int} {dn:Bool} (h:0<=tag/\tag<=16777215):FnD Tryz.prog 231 [.int .i64 tag,.bool dn] [] (.tuple #[.int .u64 (zaV tag dn),.int .i64 0]) []:=by
 refine Fn.enter (Tryz.func231) Z Z (fun w0 R=>?_)
 refine sA (xai Z (xai Z (dB (xmi Z (xD [] zeM zh2 Z ?_)))))
 rw [decide_eq_true h]
 refine xnt rfl (dF rfl (xmi rfl (TL.conv _ rfl zgp zbs (rfl) rfl rfl (TL.shl _ rfl rfl (by decide) rfl rfl rfl (xai rfl (dB (xmb rfl (TL.cases rfl (fun q1=>?_) (fun q1=>?_)))))))))
 refine TL.done (TQ.then (TC.condT Z (TC.region (xmi Z (TL.or _ Z Z Z Z Z (xai Z (dA (xmi Z ?_))))))))
 refine xai Z (xai Z (dR ?_))
 refine FQ.ret2 (v:=(.int _ _)) (x:=(.int _ _)) (Bs:=[]) [] Z Z Z Z Zt ?_
 first | exact ⟨by unfold zaV; rw [Zp q1]; rfl,Z⟩ | exact ⟨by unfold zaV; rw [Zn (by rw [q1]; decide)]; rfl,Z⟩
 refine dF Z (xmi Z (xai Z (xai Z (dR ?_))))
 refine FQ.ret2 (v:=(.int _ _)) (x:=(.int _ _)) (Bs:=[]) [] Z Z Z Z Zt ?_
 first | exact ⟨by unfold zaV; rw [Zp q1]; rfl,Z⟩ | exact ⟨by unfold zaV; rw [Zn (by rw [q1]; decide)]; rfl,Z⟩
theorem zxx {tag:Int} {dn:Bool} (h:¬(0<=tag/\tag<=16777215)):FnD Tryz.prog 231 [.int .i64 tag,.bool dn] [] (.tuple #[.int .u64 0,.int .i64 11]) []:=by
 refine Fn.enter (Tryz.func231) Z Z (fun w0 R=>?_)
 refine sA (xai Z (xai Z (dB (xmi Z (xD [] zeM zh2 Z ?_)))))
 rw [decide_eq_false h]
 refine xnf Z (dT Z (xai Z (xai Z (dRR ?_))))
 refine FQ.ret2 (v:=(.int _ _)) (x:=(.int _ _)) (Bs:=[]) [] Z Z Z Z Zt ?_
 exact ⟨Z,Z⟩
theorem zmY {l:Lay} (hl:l.Ok) {t:Int}:FnD Tryz.prog 70 [layV l,.int .i64 t] [] (.int .i64 (l.state t)) []:=by
 have hb:=zbJ hl
 refine Fn.enter (Tryz.func70) Z Z (fun w0 R=>?_)
 refine sA (xB 0 Z (fun bk0=>(xai Z (dB (xmi Z (TL.sub _ Z Z (Z) Z Z (xf 2 ze3 Z (xli 0 zaa Z Z (xD [] zbB zdi Z ?_)))))))))
 refine TL.casesP Z (fun q1=>?_) (fun q1=>?_)
 refine xnt Z (dF Z (xmi Z (TL.sub _ Z Z (Z) Z Z (xai Z (dR ?_)))))
 refine FQ.ret1 (v:=(.int _ _)) (Bs:=[]) [] Z Z Z Zt ?_
 first | exact ⟨iE (by unfold Lay.state; rw [Zp (by omega)]),Z⟩ | exact ⟨iE (by unfold Lay.state; rw [Zn (by omega)]),Z⟩
 refine xnf Z (dT Z (xai Z (dRR ?_)))
 refine FQ.ret1 (v:=(.int _ _)) (Bs:=[]) [] Z Z Z Zt ?_
 first | exact ⟨iE (by unfold Lay.state; rw [Zp (by omega)]),Z⟩ | exact ⟨iE (by unfold Lay.state; rw [Zn (by omega)]),Z⟩
theorem zpH {l:Lay} (hl:l.Ok) {s:Int}:FnD Tryz.prog 138 [layV l,.int .i64 s] [] (.int .i64 (l.of s 0)) []:=by
 have hb:=zbJ hl
 refine Fn.enter (Tryz.func138) Z Z (fun w0 R=>?_)
 refine sA (xB 0 Z (fun bk0=>(xai Z (dA (xL3 0 zac Z Z (xmi Z (xD [] (zsq hl (by omega)) zjR Z (xai Z (dR ?_)))))))))
 refine FQ.ret1 (v:=(.int _ _)) (Bs:=[]) [] Z Z Z Zt ?_
 exact ⟨Z,Z⟩
theorem znp {o m t g:Int}:FnD Tryz.prog 188 [.agg #[.int .i64 o,.int .i64 m,.int .i64 t,.int .i64 g]] [] (wdV (wofI m)) []:=by
 refine Fn.enter (Tryz.func188) Z Z (fun w0 R=>?_)
 refine sA (xB 0 Z (fun bk0=>(TL.alloc 1 (cs:=#[.int .i64 0,.int .i64 0,.int .i64 0,.int .i64 0]) zca Z Z Z (fun _=>Zt) (fun bk1=>(dA (xf 1 zcz Z (xli 0 zaa Z Z (xD [] zzS zy9 Z (TL.stW 1 4 [_,_,_,_] Z Z Z Z Z Z zaF Z Z Zt (dR ?_))))))))))
 refine FQ.retG (rs:=[.cell 2 260]) [(.agg _)] (Bs:=[]) [] Z ⟨⟨_,_,_,_,_,1,Z,Z,.inr ⟨4,[_,_,_,_],zaF,Z,Z⟩⟩,Zt⟩ Z Z Zt ?_
 exact ⟨Z,Z⟩
theorem zuo {S:Type} [MemLike S] {mt:TypeId} {mv:Value} {A:S->Assn} (hM:MemI Tryz.prog mt mv A) {σ:S} {c:Int} (h:(zae (MemLike.get σ c)).2=false) (hz:Room (2) σ:=by exact zaB):FnD Tryz.prog 187 [.iface mt mv,.int .i64 c,.func (.func 188) #[] #[]] [A σ] (.tuple #[]) [A (MemLike.ld σ c)]:=by
 refine Fn.enter (Tryz.func187) Z Z (fun w0 R=>?_)
 refine sA (xmc Z (xmi Z (TL.mload 0 hM Z Z Z Z Z Zt (xD [] zdG zfW Z (xmu Z (TL.ext (.agg _) Z Z Z Z (xei Z Z (TL.alloc 1 (cs:=#[.int .i64 0,.int .i64 0,.int .i64 0,.int .i64 0]) zca Z Z Z (fun _=>Zt) (fun bk1=>?_)))))))))
 refine TL.stW 1 4 [_,_,_,_] Z Z Z Z Z Z zaF Z Z Zt (xai Z (dB (xmi Z (TL.neqT Z Z (by rw [h]; decide) Z Z (TL.done (TQ.then (TC.condT Z (TC.ret ?_))))))))
 refine TQ.thenRet ?_
 refine FQ.ret0 (Bs:=[A (MemLike.ld σ c)]) [0] Z Z ⟨Z,Zt⟩ ?_
 exact ⟨Z,Z⟩
theorem zun {S:Type} [MemLike S] {mt:TypeId} {mv:Value} {A:S->Assn} (hM:MemI Tryz.prog mt mv A) {σ:S} {c:Int} (h:(zae (MemLike.get σ c)).2=true) (h2:(wofI (zae (MemLike.get σ c)).1.new).right=false) (hz:Room (2) σ:=by exact zaB):FnD Tryz.prog 187 [.iface mt mv,.int .i64 c,.func (.func 188) #[] #[]] [A σ] (.tuple #[]) [A (MemLike.ld σ c)]:=by
 refine Fn.enter (Tryz.func187) Z Z (fun w0 R=>?_)
 refine sA (xmc Z (xmi Z (TL.mload 0 hM Z Z Z Z Z Zt (xD [] zdG zfW Z (xmu Z (TL.ext (.agg _) Z Z Z Z (xei Z Z (TL.alloc 1 (cs:=#[.int .i64 0,.int .i64 0,.int .i64 0,.int .i64 0]) zca Z Z Z (fun _=>Zt) (fun bk1=>?_)))))))))
 refine TL.stW 1 4 [_,_,_,_] Z Z Z Z Z Z zaF Z Z Zt (xai Z (dB (xmi Z (TL.neqF Z Z (by rw [h]; decide) Z Z (dF Z (TL.mv (.func _ _ _) Z Z Z (xL4 1 zaF Z Z (TL.callC (c1:=[]) (c2:=[]) (vs:=[_]) [] [] Z znp ⟨Z,Zt⟩ Zt ztF Z Z Z Z Z Zt ?_))))))))
 refine xD [] zln zlZ Z (xmu Z (xei Z Z (xei Z Z (xai Z (xai Z (dA (xmi Z (TL.eqlF Z Z (by rw [h2]; decide) Z Z ?_))))))))
 refine TL.done (TQ.then (TC.condF Z (TC.skip ?_)))
 refine FQ.end0 (Bs:=[A (MemLike.ld σ c)]) [0] Z Z ⟨Z,Zt⟩ ?_
 exact ⟨Z,Z⟩
theorem zum {S:Type} [MemLike S] {mt:TypeId} {mv:Value} {A:S->Assn} (hM:MemI Tryz.prog mt mv A) {σ:S} {c:Int} (h:(zae (MemLike.get σ c)).2=true) (h2:(wofI (zae (MemLike.get σ c)).1.new).right=true) (hz:Room (2) σ:=by exact zaB):FnD Tryz.prog 187 [.iface mt mv,.int .i64 c,.func (.func 188) #[] #[]] [A σ] (.tuple #[]) [A (MemLike.st (MemLike.ld σ c) c (wofI (zae (MemLike.get σ c)).1.new).pack)]:=by
 refine Fn.enter (Tryz.func187) Z Z (fun w0 R=>?_)
 refine sA (xmc Z (xmi Z (TL.mload 0 hM Z Z Z Z Z Zt (xD [] zdG zfW Z (xmu Z (TL.ext (.agg _) Z Z Z Z (xei Z Z (TL.alloc 1 (cs:=#[.int .i64 0,.int .i64 0,.int .i64 0,.int .i64 0]) zca Z Z Z (fun _=>Zt) (fun bk1=>?_)))))))))
 refine TL.stW 1 4 [_,_,_,_] Z Z Z Z Z Z zaF Z Z Zt (xai Z (dB (xmi Z (TL.neqF Z Z (by rw [h]; decide) Z Z (dF Z (TL.mv (.func _ _ _) Z Z Z (xL4 1 zaF Z Z (TL.callC (c1:=[]) (c2:=[]) (vs:=[_]) [] [] Z znp ⟨Z,Zt⟩ Zt ztF Z Z Z Z Z Zt ?_))))))))
 refine xD [] zln zlZ Z (xmu Z (xei Z Z (xei Z Z (xai Z (xai Z (dA (xmi Z (TL.eqlT Z Z (by rw [h2]; decide) Z Z ?_))))))))
 refine TL.done (TQ.then (TC.condT Z (TC.region (xmc Z (xmi Z (xmi Z (TL.mstore 0 hM Z Z Z (by rw [h2]; exact zbA _ _) Z Z Z Zt (TL.done ?_))))))))
 refine FQ.end0 (Bs:=[A _]) [0] Z Z ⟨Z,Zt⟩ ?_
 exact ⟨Z,by rw [h2]; rfl⟩
theorem zq7 {S:Type} [MemLike S] {mt:TypeId} {mv:Value} {A:S->Assn} (hM:MemI Tryz.prog mt mv A) {σ:S} {c:Int} (hz:Room (2) σ:=by exact zaB):FnD Tryz.prog 187 [.iface mt mv,.int .i64 c,.func (.func 188) #[] #[]] [A σ] (.tuple #[]) [A (zbq σ c)]:=by
 unfold zbq
 cases h:(zae (MemLike.get σ c)).2
 ·exact zuo hM h
 ·rw [Zp Z]
  cases h2:(wofI (zae (MemLike.get σ c)).1.new).right
  ·exact zun hM h h2
  ·exact zum hM h h2
theorem zp6 {S:Type} [MemLike S] {mt:TypeId} {mv:Value} {A:S->Assn} (hM:MemI Tryz.prog mt mv A) {σ:S} {p:Pen} {c:Int} (hz:Room (2) σ:=by exact zaB):FnD Tryz.prog 148 [.agg #[.int .i64 p.thread,.int .i64 p.tag],.iface mt mv,.int .i64 c] [A σ] (.tuple #[]) [A (zbq σ c)]:=by
 refine Fn.enter (Tryz.func148) Z Z (fun w0 R=>?_)
 refine sA (xB 1 Z (fun bk1=>(dG (xmc Z (xmi Z (xD [0] (zq7 hM) ztG Z (TL.done ?_)))))))
 refine FQ.end0 (Bs:=[A (zbq σ c)]) [0] Z Z ⟨Z,Zt⟩ ?_
 exact ⟨Z,Z⟩
theorem zvf {S:Type} [MemLike S] {mt:TypeId} {mv:Value} {A:S->Assn} (hM:MemI Tryz.prog mt mv A) {fS:FuncId} (hfS:zg9 Tryz.prog mt "Store" fS=true) {l:Lay} (hl:l.Ok) {p:Pen} {σ:S} {tag:Int} {dn:Bool} (h:0<=tag/\tag<=16777215) (hz:Room (1) σ:=by exact zaB):FnD Tryz.prog 201 [.agg #[.int .i64 p.thread,.int .i64 p.tag],.iface mt mv,layV l,.int .i64 tag,.bool dn] [A σ] (.tuple #[]) [A (MemLike.st σ (l.state p.thread) (zaV tag dn))]:=by
 refine Fn.enter (Tryz.func201) Z Z (fun w0 R=>?_)
 refine sA (xB 1 Z (fun bk1=>(xB 2 Z (fun bk2=>(dA (xmi Z (xmb Z (xD [] (zxy h) ztp Z (xmu Z (xei Z Z ?_))))))))))
 refine xei Z Z (xai Z (xai Z (dA (xmi Z (TL.eqlT Z Z (by decide) Z Z (TL.done (TQ.then (TC.condT Z ?_))))))))
 refine TC.draw (od [1,3,5,7,11,13,15,17,8,18]) [1,2] fc_m (by kernel_rfl) (xmc Z (xL3 2 zac Z Z (xf 0 zdB Z (xli 1 zaa Z Z (xmi Z (TL.mf (xs:=[_]) (ys:=[]) [_] [] ⟨Z,Zt⟩ Zt Z Z (TL.ncM hfS Z Z Z (xmc Z ?_))))))))
 refine xd [] (zmY hl) zwZ Z (kL2 Z Z Zt) (TL.mstore 0 hM Z Z Z (zf5 h _) Z Z Z (kL2 Z Z Zt) (TL.done ?_))
 refine FQ.end0 (Bs:=[A _]) [0] Z Z ⟨Z,Zt⟩ ?_
 exact ⟨Z,Z⟩
theorem zve {S:Type} [MemLike S] {mt:TypeId} {mv:Value} {A:S->Assn} (hM:MemI Tryz.prog mt mv A) {fS:FuncId} (hfS:zg9 Tryz.prog mt "Store" fS=true) {l:Lay} (hl:l.Ok) {p:Pen} {σ:S} {tag:Int} {dn:Bool} (h:¬(0<=tag/\tag<=16777215)) (hz:Room (1) σ:=by exact zaB):FnD Tryz.prog 201 [.agg #[.int .i64 p.thread,.int .i64 p.tag],.iface mt mv,layV l,.int .i64 tag,.bool dn] [A σ] (.tuple #[]) [A (σ)]:=by
 refine Fn.enter (Tryz.func201) Z Z (fun w0 R=>?_)
 refine sA (xB 1 Z (fun bk1=>(xB 2 Z (fun bk2=>(dA (xmi Z (xmb Z (xD [] (zxx h) ztp Z (xmu Z (xei Z Z ?_))))))))))
 refine xei Z Z (xai Z (xai Z (dA (xmi Z (TL.eqlF Z Z (by decide) Z Z (TL.done (TQ.then (TC.condF Z ?_))))))))
 refine TC.skip ?_
 refine FQ.end0 (Bs:=[A _]) [0] Z Z ⟨Z,Zt⟩ ?_
 exact ⟨Z,Z⟩
theorem zmH {S:Type} [MemLike S] {mt:TypeId} {mv:Value} {A:S->Assn} (hM:MemI Tryz.prog mt mv A) {fS:FuncId} (hfS:zg9 Tryz.prog mt "Store" fS=true) {l:Lay} (hl:l.Ok) {p:Pen} {σ:S} {tag:Int} {dn:Bool} (hz:Room (1) σ:=by exact zaB):FnD Tryz.prog 201 [.agg #[.int .i64 p.thread,.int .i64 p.tag],.iface mt mv,layV l,.int .i64 tag,.bool dn] [A σ] (.tuple #[]) [A (za0 l p σ tag dn)]:=by
 unfold za0
 by_cases h:0<=tag/\tag<=16777215
 ·rw [Zp h]; exact zvf hM hfS hl h
 ·rw [Zn h]; exact zve hM hfS hl h
theorem zqM {S:Type} [MemLike S] {mt:TypeId} {mv:Value} {A:S->Assn} (hM:MemI Tryz.prog mt mv A) {fS:FuncId} (hfS:zg9 Tryz.prog mt "Store" fS=true) {l:Lay} (hl:l.Ok) {p:Pen} {σ:S} (hz:Room (1) σ:=by exact zaB):FnD Tryz.prog 156 [.agg #[.int .i64 p.thread,.int .i64 p.tag],.iface mt mv,layV l] [A σ] (.tuple #[]) [A (za0 l p σ p.tag true)]:=by
 refine Fn.enter (Tryz.func156) Z Z (fun w0 R=>?_)
 refine sA (xB 1 Z (fun bk1=>(xB 2 Z (fun bk2=>(dG (xL2 1 za7 Z Z (xmc Z (xL3 2 zac Z Z (xf 1 zdA Z (xli 1 zaa Z Z ?_))))))))))
 refine xD [0] (zmH hM hfS hl) ztA Z (TL.done ?_)
 refine FQ.end0 (Bs:=[A (za0 l p σ p.tag true)]) [0] Z Z ⟨Z,Zt⟩ ?_
 exact ⟨Z,Z⟩
theorem zxV {S:Type} [MemLike S] {mt:TypeId} {mv:Value} {A:S->Assn} (hM:MemI Tryz.prog mt mv A) {fS:FuncId} (hfS:zg9 Tryz.prog mt "Store" fS=true) {l:Lay} (hl:l.Ok) {p:Pen} {σ:S} (hz:Room (1) σ:=by exact zaB):FnD Tryz.prog 158 [.agg #[.int .i64 p.thread,.int .i64 p.tag],.iface mt mv,layV l] [A σ] (.tuple #[]) [A (za0 l p σ (IntKind.i64.wrap (p.tag+1)) false)]:=by
 refine Fn.enter (Tryz.func158) Z Z (fun w0 R=>?_)
 refine sA (xB 1 Z (fun bk1=>(xB 2 Z (fun bk2=>(dG (xL2 1 za7 Z Z (xmc Z (xL3 2 zac Z Z (xf 1 zdA Z (xli 1 zaa Z Z ?_))))))))))
 refine TL.add _ Z Z (Z) Z Z (xD [0] (zmH hM hfS hl) ztA Z (TL.done ?_))
 refine FQ.end0 (Bs:=[A (za0 l p σ (IntKind.i64.wrap (p.tag+1)) false)]) [0] Z Z ⟨Z,Zt⟩ ?_
 exact ⟨Z,Z⟩
theorem zsA {l:Lay} (hl:l.Ok)  : FnD Tryz.prog 114 [layV l] [] (.bool true) []:=by
 have hb:=zbJ hl
 refine Fn.enter (Tryz.func114) Z Z (fun w0 R=>?_)
 refine sA (xB 0 Z (fun bk0=>(xaf Z (dA (xf 0 zaH Z (xli 0 zaa Z Z (TL.sub _ Z Z (wr64 (by omega)) Z Z (xD [] zbB zdi Z (TL.casesP Z (fun q1=>?_) (fun q1=>?_))))))))))
 refine xmt Z (xf 1 zbD Z (xli 0 zaa Z Z (xD [] zbB zdi Z (TL.casesP Z (fun q2=>?_) (fun q2=>?_)))))
 refine xpT Z (xmt Z (xf 2 ze3 Z (xli 0 zaa Z Z (TL.sub _ Z Z (wr64 (by omega)) Z Z (xD [] zbB zdi Z (TL.pickT (.bool _) Z Z Z Z (xab Z (dR ?_))))))))
 refine FQ.ret1 (v:=(.bool _)) (Bs:=[]) [] Z Z Z Zt ?_
 first | exact ⟨congrArg Value.bool (decide_eq_true (by omega)),Z⟩ | (exfalso; omega)
 refine xpG Z (xmf Z (xo Z (xo Z (xo Z (xo Z (xpF Z (xaf Z (dR ?_))))))))
 refine FQ.ret1 (v:=(.bool false)) (Bs:=[]) [] Z Z Z Zt ?_
 first | exact ⟨congrArg Value.bool (decide_eq_true (by omega)),Z⟩ | (exfalso; omega)
 refine xmf Z (xo Z (xo Z (xo Z (xpF Z (xmf Z (xo Z (xo Z (xo Z ?_))))))))
 refine xo Z (xpF Z (xaf Z (dR ?_)))
 refine FQ.ret1 (v:=(.bool false)) (Bs:=[]) [] Z Z Z Zt ?_
 first | exact ⟨congrArg Value.bool (decide_eq_true (by omega)),Z⟩ | (exfalso; omega)
theorem zu5 {mt:TypeId} {mv:Value} {A:Array UInt64->Assn} (hM:MemI Tryz.prog mt mv A) {fS:FuncId} (hfS:zg9 Tryz.prog mt "Store" fS=true) {l:Lay} (hl:l.Ok) {σ:Array UInt64}:FnD Tryz.prog 115 [.iface mt mv,layV l] [A σ] (.tuple #[]) [A (zir l σ)]:=by
 have hb:=zbJ hl
 refine Fn.enter (Tryz.func115) Z Z (fun w0 R=>?_)
 refine sA (xB 1 Z (fun bk1=>(dB (xf 1 zbD Z (xli 1 zaa Z Z (xmi Z (dK (TC.loopK (X:=Nat) [0,3,6] [1] (fun s=>[(7,.int .i64 ((s:Nat):Int))]) (fun s=>[(0,A (zeP l s σ))]) (fun s=>s<=l.S) (fun s=>l.S - s) (0) (Nat.zero_le _) ⟨Z,Zt⟩ ⟨Z,Zt⟩ (fun s hI=>(TC.sub (env':=[(7,_),(0,_),(3,_),(6,_)]) (L':=[(0,_),(1,_)]) ⟨Z,Z,Z,Z,Zt⟩ ⟨Z,Z,Zt⟩ ?_))))))))))
 refine sA (TL.lss Z Z Z Z (fun q1=>?_) (fun q1=>?_))
 refine dS (TC.condT Z (TC.skip (TQ.then (TC.seq (TC.block (sA (xmi Z (xai Z ?_))))))))
 refine TL.done (TQ.then (TC.draw (od [1,3,5,9,11,13,15,17,19,6,20]) [1] fc_m (by kernel_rfl) (xmc Z (xL3 1 zac Z Z (xmi Z (xmi Z (TL.add _ Z Z (wr64 (by omega)) Z Z (TL.conv _ Z zgp zbs (zuP (by omega)) Z Z ?_))))))))
 refine TL.mf (xs:=[_]) (ys:=[]) [_] [] ⟨Z,Zt⟩ Zt Z Z (TL.ncM hfS Z Z Z (xmc Z (xd [] (zpH hl) ztR Z (kL1 Z Zt) (TL.mstore 0 hM Z Z Z (by first | decide | omega) Z Z Z (kL1 Z Zt) (dI (TL.add (((s+1:Nat):Int)) Z Z (wrN (by omega)) Z Z (xmi Z (TL.done ?_))))))))
 refine TQ.roundK (s+1) ⟨(by omega),(by omega)⟩ ⟨Z,Zt⟩ ⟨Z,Zt⟩ (kE3 Z Z Z Zt) (kL1 Z Zt)
 refine dS (TC.condF Z (TC.exit (TQ.thenExit (TQ.thenExit (TQ.blockHere (TQ.then (sB (xf 1 zbD Z ?_))))))))
 refine xli 1 zaa Z Z (TL.eql Z Z Z Z (fun q2=>?_) (fun q2=>?_))
 refine TL.done (TQ.then (TC.condT Z (TC.seq (TC.draw (od [1,3,7,9,11,4,12]) [1] fc_m (by kernel_rfl) (xmc Z (xL3 1 zac Z Z (TL.mf (xs:=[_]) (ys:=[]) [_] [] ⟨Z,Zt⟩ Zt Z Z (TL.ncM hfS Z Z Z ?_))))))))
 refine xmc Z (xd [] (zlP hl) zl2 Z (kL1 Z Zt) (TL.mstore 0 hM Z Z Z (by first | decide | omega) Z Z Z (kL1 Z Zt) (dRR ?_)))
 refine FQ.ret0 (Bs:=[A _]) [0] Z Z ⟨Z,Zt⟩ ?_
 obtain rfl:s=l.S:=by omega
 have e0:l.S=0:=by omega
 exact ⟨Z,by rw [zxC e0,e0,zeP]⟩
 refine TL.done (TQ.then (TC.condF Z (TC.skip (TQ.then (TC.seq (TC.draw (od [1,3,5,7,9,13,15,17,10,18]) [1] fc_m (by kernel_rfl) (xmc Z (xL3 1 zac Z Z ?_))))))))
 refine xf 1 zbD Z (xli 1 zaa Z Z (TL.sub _ Z Z (wr64 (by omega)) Z Z (TL.mf (xs:=[_]) (ys:=[]) [_] [] ⟨Z,Zt⟩ Zt Z Z (TL.ncM hfS Z Z Z (xmc Z (xd [] (zpH hl) ztR Z (kL1 Z Zt) (TL.mstore 0 hM Z Z Z (by first | decide | omega) Z Z Z (kL1 Z Zt) (TL.done ?_))))))))
 refine TQ.then (TC.draw (od [1,3,7,9,11,4,12]) [1] fc_m (by kernel_rfl) (xmc Z (xL3 1 zac Z Z (TL.mf (xs:=[_]) (ys:=[]) [_] [] ⟨Z,Zt⟩ Zt Z Z (TL.ncM hfS Z Z Z (xmc Z (xd [] (zlP hl) zl2 Z (kL1 Z Zt) (TL.mstore 0 hM Z Z Z (by first | decide | omega) Z Z Z (kL1 Z Zt) ?_))))))))
 refine TL.done ?_
 refine FQ.end0 (Bs:=[A _]) [0] Z Z ⟨Z,Zt⟩ ?_
 obtain rfl:s=l.S:=by omega
 exact ⟨Z,by rw [zxB (by omega)]⟩
theorem ziT {mt:TypeId} {mv:Value} {A:Array UInt64->Assn} (hM:MemI Tryz.prog mt mv A) {l:Lay} (hl:l.Ok) {p:Pen} {σ:Array UInt64} {x y:Int} (hy:0<=y/\y<18446744073709551616)  : FnD Tryz.prog 116 [zby l mt mv p,.int .i64 x,.int .u64 y] [A σ] (.tuple #[]) [A (zfZ l p σ x y)]:=by
 refine Fn.enter (Tryz.func116) Z Z (fun w0 R=>?_)
 refine sA (xB 1 Z (fun bk1=>(dS (TC.draw (od [1,3,5,7,9,13,15,17,10,18]) [1] fc_m (by kernel_rfl) (xf 3 zbf Z (xlc 1 zbw Z Z (xf 0 zaE Z (xL3 1 zac Z Z (xmi Z ?_)))))))))
 refine xmi Z (TL.ncI Z Z Z (xmc Z (xd [] (zba hl) zcp Z (kL1 Z Zt) (TL.mstore 0 hM Z Z Z (by first | exact hy | decide) Z Z Z (kL1 Z Zt) (dA (xL6 1 zab Z Z (xmi Z (xD [0] (zhy hM hl) zjS Z ?_))))))))
 refine dS (TC.draw (od [1,3,5,7,9,11,13,14,16]) [1] fc_m (by kernel_rfl) (xf 4 zjF Z (xL2 1 za7 Z Z (xf 3 zbf Z (xlc 1 zbw Z Z (xf 0 zaE Z (xL3 1 zac Z Z (xmi Z ?_))))))))
 refine xd [] (zba hl) zcp Z (kL1 Z Zt) (xd [0] (zp6 hM) ztQ Z (kL1 Z Zt) (dA (xai Z (dB (xf 0 zaE Z (xL3 1 zac Z Z (xmi Z (xD [] (zhL hl) zkL Z ?_))))))))
 refine xmu Z (TL.ext (.agg _) Z Z Z Z (TL.ext (.bool _) Z Z Z Z (TL.alloc 2 (cs:=#[.bool false,.int .i64 0,.int .i64 0,.int .i64 0,.int .i64 0]) zgu Z Z Z (fun _=>Zt) (fun bk2=>(TL.stW 2 5 [_,_,_,_,_] Z Z Z Z Z Z zcT Z Z Zt (xab Z (dA (xf 0 zkH Z (xlb 2 zem Z Z ?_)))))))))
 refine TL.not _ _ rfl rfl rfl rfl (xmb rfl (TL.cases rfl (fun q1=>?_) (fun q1=>?_)))
 refine xf 1 zhZ Z (xli 2 zaa Z Z (TL.eql Z Z Z Z (fun q2=>?_) (fun q2=>?_)))
 refine xpT Z (TL.done (TQ.then (TC.condT Z (TC.region (xai Z (TL.done (TQ.then (TC.draw (od [1,3,5,7,9,13,15,17,10,18]) [1] fc_m (by kernel_rfl) ?_))))))))
 refine xf 3 zbf Z (xlc 1 zbw Z Z (xf 0 zaE Z (xL3 1 zac Z Z (xmi Z (xmi Z (TL.ncI Z Z Z (xmc Z (xd [] (zba hl) zcp Z (kL1 Z Zt) ?_))))))))
 refine TL.mstore 0 hM Z Z Z (by first | exact hy | decide) Z Z Z (kL1 Z Zt) (TL.done ?_)
 refine FQ.end0 (Bs:=[A _]) [0] Z Z ⟨Z,Zt⟩ ?_
 exact ⟨Z,by unfold zfZ zhh; rw [if_pos ⟨by simpa using q1,q2⟩]⟩
 refine xpG Z (TL.done (TQ.then (TC.condF Z (TC.skip (TQ.then (TC.draw (od [1,3,5,7,9,13,15,17,10,18]) [1] fc_m (by kernel_rfl) (xf 3 zbf Z (xlc 1 zbw Z Z ?_))))))))
 refine xf 0 zaE Z (xL3 1 zac Z Z (xmi Z (xmi Z (TL.ncI Z Z Z (xmc Z (xd [] (zba hl) zcp Z (kL1 Z Zt) (TL.mstore 0 hM Z Z Z (by first | exact hy | decide) Z Z Z (kL1 Z Zt) (TL.done ?_))))))))
 refine FQ.end0 (Bs:=[A _]) [0] Z Z ⟨Z,Zt⟩ ?_
 exact ⟨Z,by unfold zfZ zhh; rw [Zn (fun h=>q2 h.2)]⟩
 refine xo Z (xo Z (xo Z (xpF Z (TL.done (TQ.then (TC.condF Z (TC.skip (TQ.then ?_))))))))
 refine TC.draw (od [1,3,5,7,9,13,15,17,10,18]) [1] fc_m (by kernel_rfl) (xf 3 zbf Z (xlc 1 zbw Z Z (xf 0 zaE Z (xL3 1 zac Z Z (xmi Z (xmi Z (TL.ncI Z Z Z (xmc Z ?_))))))))
 refine xd [] (zba hl) zcp Z (kL1 Z Zt) (TL.mstore 0 hM Z Z Z (by first | exact hy | decide) Z Z Z (kL1 Z Zt) (TL.done ?_))
 refine FQ.end0 (Bs:=[A _]) [0] Z Z ⟨Z,Zt⟩ ?_
 exact ⟨rfl,by unfold zfZ zhh; rw [Zn (fun h=>by rw [h.1] at q1; cases q1)]⟩
theorem zv8 {l:Lay} (hl:l.Ok) {a:Option Addr} {b off dn dc:Nat} {Ad:Assn} {fd:Nat->Int} (ha:0<dn->a=some ⟨b,off,none⟩) (hAd:za8 Ad encU 1 b off dn fd) (hfd:∀ i,i<dn->0<=fd i/\fd i<18446744073709551616) (hdn:dn<=256)  : Go.Eng.Fn Tryz.prog 76 [layV l,.slice a dn dc] [Ad] (fun v Bs=>∃ ab mb,v=.tuple #[.pointer (some ⟨ab,0,none⟩),.int .i64 0]/\Bs=[Ad,zap ab mb 139 29 (zf0 l dn fd (Array.replicate l.cells.toNat 0))]):=by
 obtain ⟨N,hN⟩:∃ N:Nat,l.cells=(N:Int):=⟨l.cells.toNat,by have:=zdj hl; have:=zaD hl; have:=zcq hl; have:=zb9 hl; omega⟩
 have hN2:l.cells.toNat=N:=by omega
 have hcb:=zdj hl
 have hnb:=zaD hl
 refine Fn.enter (Tryz.func76) Z Z (fun w0 R=>?_)
 refine sA (xB 1 Z (fun bk1=>(TL.asg (.pointer none) Z Z Z (xai Z (dS (TC.block (sA (xL3 1 zac Z Z (xD [] (zsA hl) zzr Z ?_)))))))))
 refine xnt Z (xaf Z (TL.done (TQ.then (TC.condF Z (sA (xms Z (xz zaM Z (TL.gtrF Z Z (by omega) Z Z ?_))))))))
 refine xaf Z (TL.done (TQ.then (TC.condF Z (TC.skip (TQ.inBlock (TQ.then (sA (xL3 1 zac Z Z ?_))))))))
 refine xD [] (zv4 hl) zAI Z ?_
 rw [hN]
 refine TL.call [] [2] (zzM (by omega)) ⟨Z,Zt⟩ Zt zAR Z Z Z Z ?_
 rintro v Bs ⟨ab,mb,rfl,rfl⟩
 refine ⟨Z,Zt,?_⟩
 rw [<-hN2]
 refine TL.conseq 2 (B:=zap ab mb 139 29 (Array.replicate l.cells.toNat 0)) Z (fun h hh=>zdF hh) Zt (xmu Z (TL.ext (.pointer (some ⟨_,_,none⟩)) Z Z Z Z (xei Z Z (xap Z (xai Z (dB (xmi Z (TL.neqF Z Z (by omega) Z Z ?_))))))))
 refine TL.done (TQ.then (TC.condF Z (TC.skip (TQ.then (TC.seq (TC.draw (od [1,7,2,5,8]) [1] fc_m (by kernel_rfl) (xmp Z (xL3 1 zac Z Z ?_))))))))
 refine xd [] zfj zjK Z (kL1 Z Zt) (TL.miN (v:=(.agg _)) Z zgI Z Z (xd [2] (zu5 zfD (zh7) hl) zzq Z (kL1 Z Zt) (dS (TC.drawT (.br [(0,true),(1,true),(4,true)] 2 6 (.fin [(3,true),(5,true),(6,false),(7,false)]) (.fin [(2,false),(3,true),(5,true),(7,false)])) [1] fc_m (by kernel_rfl) (TT.br (xL3 1 zac Z Z (xmp Z (TL.bld [.int .i64 0,.int .i64 0] [(.int _ _)] [_,_] zfT zjC ⟨Z,Zt⟩ ⟨Z,Z⟩ Z Z (TL.both ?_ ?_)))))))))
 refine xd [] zfj zjK Z (kL1 Z Zt) (TL.tree (TT.fin (TL.miN (v:=(.agg _)) Z zgI Z Z (TL.bld [.int .i64 0,.int .i64 0,.int .i64 0,.nilIface,.int .i64 0,.int .i64 0] [(.agg _),(.iface _ _),(.agg _)] [_,_,_,_,_,_] zjB zom ⟨Z,Z,Z,Zt⟩ ⟨Z,Z⟩ Z Z (TL.alloc 3 (cs:=#[.int .i64 0,.int .i64 0,.int .i64 0,.nilIface,.int .i64 0,.int .i64 0]) zjB Z Z Z (fun _=>(kL1 Z Zt)) (fun bk3=>(TL.stW 3 6 [_,_,_,_,_,_] Z Z Z Z Z Z zab Z Z (kL1 Z Zt) (dB (xai Z (dK ?_))))))))))
 refine TC.loopK (X:=Nat) [1,2,4,5,6,8] [0,1,3] (fun x=>[(9,.int .i64 ((x+1:Nat):Int))]) (fun x=>[(2,zap ab mb 139 29 (zdN l dn fd x (zir l (Array.replicate l.cells.toNat 0))))]) (fun x=>(x:Int)<=l.nodes) (fun x=>l.nodes.toNat - x) (0) (by omega) ⟨Z,Zt⟩ ⟨Z,Zt⟩ (fun x hI=>(TC.sub (env':=[(9,_),(1,_),(2,_),(4,_),(5,_),(6,_),(8,_)]) (L':=[(2,_),(0,_),(1,_),(3,_)]) ⟨Z,Z,Z,Z,Z,Z,Z,Zt⟩ ⟨Z,Z,Z,Z,Zt⟩ (sB (xmi Z (xL3 1 zac Z Z (xD [] (zfi hl) zjL Z (TL.leq Z Z Z Z (fun q1=>?_) (fun q1=>?_))))))))
 refine TL.done (TQ.then (TC.condT Z (TC.skip (TQ.then (TC.seq (TC.block (sA (xai Z ?_))))))))
 refine dB (xms Z (xz zaM Z (TL.gtr Z Z Z Z (fun q2=>?_) (fun q2=>?_))))
 refine TL.done (TQ.then (TC.condT Z (TC.region (xms Z (xmi Z (xms Z (xz zaM Z (TL.rem ((((x+1) % dn:Nat):Int)) Z Z (by omega) (by rw [Int.tmod_eq_emod_of_nonneg (by omega)]; exact (Int.natCast_emod (x+1) dn).symm) Z Z ?_))))))))
 refine TL.iaO Z ha Z zaM (Nat.mod_lt _ (by omega)) Z Z (TL.ldRS 0 (.int _ _) Z Z hAd (Nat.mod_lt _ (by omega)) (Z) zik Z Z (xai Z (dG (xL6 3 zab Z Z (xmi Z (xmi Z (xD [2] (ziT (p:=P1) zfD hl (by first | exact hfd _ (Nat.mod_lt _ (by omega)) | decide)) zl3 Z (dI ?_))))))))
 refine xmi Z (TL.add (((x+2:Nat):Int)) Z Z (wrN (by omega)) Z Z (xai Z (TL.done (TQ.roundK (x+1) ⟨(by omega),(by omega)⟩ ⟨Z,Zt⟩ ⟨congrArg (fun z=>some (zap ab mb 139 29 (z))) (zkT (by omega)),Zt⟩ (kE6 Z Z Z Z Z Z Zt) (kL3 Z Z Z Zt)))))
 refine TL.done (TQ.then (TC.condF Z (TC.skip (TQ.then (TC.region (xL6 3 zab Z Z (xmi Z (xmi Z ?_))))))))
 refine xD [2] (ziT (p:=P1) zfD hl (by first | exact hfd _ (Nat.mod_lt _ (by omega)) | decide)) zl3 Z (dI (xmi Z (TL.add (((x+2:Nat):Int)) Z Z (wrN (by omega)) Z Z (xai Z (TL.done (TQ.roundK (x+1) ⟨(by omega),(by omega)⟩ ⟨Z,Zt⟩ ⟨congrArg (fun z=>some (zap ab mb 139 29 (z))) (zj4 (by omega)),Zt⟩ (kE6 Z Z Z Z Z Z Zt) (kL3 Z Z Z Zt)))))))
 refine dE Z (sA (xmp Z (xap Z (xai Z (dR ?_)))))
 refine FQ.ret2 (v:=(.pointer (some ⟨_,_,none⟩))) (x:=(.int _ _)) (Bs:=[Ad,_]) [0,2] Z Z Z Z ⟨Z,Z,Zt⟩ ?_
 obtain rfl:x=l.nodes.toNat:=by omega
 exact ⟨_,_,Z,Z⟩
 refine TL.alloc 4 (cs:=#[.int .i64 0,.int .i64 0,.int .i64 0,.nilIface,.int .i64 0,.int .i64 0]) zjB Z Z Z (fun _=>(kL1 Z Zt)) (fun bk4=>(TL.tree (TT.fin (xd [] zfj zjK Z (kL1 Z Zt) (TL.miN (v:=(.agg _)) Z zgI Z Z (TL.bld [.int .i64 0,.int .i64 0,.int .i64 0,.nilIface,.int .i64 0,.int .i64 0] [(.agg _),(.iface _ _),(.agg _)] [_,_,_,_,_,_] zjB zom ⟨Z,Z,Z,Zt⟩ ⟨Z,Z⟩ Z Z (TL.stW 4 6 [_,_,_,_,_,_] Z Z Z Z Z Z zab Z Z (kL1 Z Zt) (dB (xai Z (dK ?_))))))))))
 refine TC.loopK (X:=Nat) [1,2,4,5,6,8] [0,1,4] (fun x=>[(9,.int .i64 ((x+1:Nat):Int))]) (fun x=>[(2,zap ab mb 139 29 (zdN l dn fd x (zir l (Array.replicate l.cells.toNat 0))))]) (fun x=>(x:Int)<=l.nodes) (fun x=>l.nodes.toNat - x) (0) (by omega) ⟨Z,Zt⟩ ⟨Z,Zt⟩ (fun x hI=>(TC.sub (env':=[(9,_),(1,_),(2,_),(4,_),(5,_),(6,_),(8,_)]) (L':=[(2,_),(0,_),(1,_),(4,_)]) ⟨Z,Z,Z,Z,Z,Z,Z,Zt⟩ ⟨Z,Z,Z,Z,Zt⟩ (sB (xmi Z (xL3 1 zac Z Z (xD [] (zfi hl) zjL Z (TL.leq Z Z Z Z (fun q1=>?_) (fun q1=>?_))))))))
 refine TL.done (TQ.then (TC.condT Z (TC.skip (TQ.then (TC.seq (TC.block (sA (xai Z ?_))))))))
 refine dB (xms Z (xz zaM Z (TL.gtr Z Z Z Z (fun q2=>?_) (fun q2=>?_))))
 refine TL.done (TQ.then (TC.condT Z (TC.region (xms Z (xmi Z (xms Z (xz zaM Z (TL.rem ((((x+1) % dn:Nat):Int)) Z Z (by omega) (by rw [Int.tmod_eq_emod_of_nonneg (by omega)]; exact (Int.natCast_emod (x+1) dn).symm) Z Z ?_))))))))
 refine TL.iaO Z ha Z zaM (Nat.mod_lt _ (by omega)) Z Z (TL.ldRS 0 (.int _ _) Z Z hAd (Nat.mod_lt _ (by omega)) (Z) zik Z Z (xai Z (dG (xL6 4 zab Z Z (xmi Z (xmi Z (xD [2] (ziT (p:=P1) zfD hl (by first | exact hfd _ (Nat.mod_lt _ (by omega)) | decide)) zl3 Z (dI ?_))))))))
 refine xmi Z (TL.add (((x+2:Nat):Int)) Z Z (wrN (by omega)) Z Z (xai Z (TL.done (TQ.roundK (x+1) ⟨(by omega),(by omega)⟩ ⟨Z,Zt⟩ ⟨congrArg (fun z=>some (zap ab mb 139 29 (z))) (zkT (by omega)),Zt⟩ (kE6 Z Z Z Z Z Z Zt) (kL3 Z Z Z Zt)))))
 refine TL.done (TQ.then (TC.condF Z (TC.skip (TQ.then (TC.region (xL6 4 zab Z Z (xmi Z (xmi Z ?_))))))))
 refine xD [2] (ziT (p:=P1) zfD hl (by first | exact hfd _ (Nat.mod_lt _ (by omega)) | decide)) zl3 Z (dI (xmi Z (TL.add (((x+2:Nat):Int)) Z Z (wrN (by omega)) Z Z (xai Z (TL.done (TQ.roundK (x+1) ⟨(by omega),(by omega)⟩ ⟨Z,Zt⟩ ⟨congrArg (fun z=>some (zap ab mb 139 29 (z))) (zj4 (by omega)),Zt⟩ (kE6 Z Z Z Z Z Z Zt) (kL3 Z Z Z Zt)))))))
 refine dE Z (sA (xmp Z (xap Z (xai Z (dR ?_)))))
 refine FQ.ret2 (v:=(.pointer (some ⟨_,_,none⟩))) (x:=(.int _ _)) (Bs:=[Ad,_]) [0,2] Z Z Z Z ⟨Z,Z,Zt⟩ ?_
 obtain rfl:x=l.nodes.toNat:=by omega
 exact ⟨_,_,Z,Z⟩
end Go.Proofs.YtabjfnfglcghfaaGreat
