import Derived.Test.YtabjfnfglcghfaaGreatEngG
import Derived.Test.YtabjfnfglcghfaaGreatProg
import Derived.KernelRfl
import Derived.Tactics2
import Derived.StillTactics
import Derived.Laws.Tables
import Derived.Shelf.Sort.Plain
import Derived.Shelf.Slices.In.SortNone
set_option linter.unusedVariables false
set_option linter.unusedSimpArgs false
set_option maxRecDepth 20000
namespace Go.Proofs.YtabjfnfglcghfaaGreat
open Go.Eng Go.Tm
open Go.Eng Go.Tm
abbrev layV (l:Lay):Value:=.agg #[.int .i64 l.V,.int .i64 l.S,.int .i64 l.T]
abbrev zzb (t:Thing):Value:=.agg #[.bool t.arc,.int .i64 t.level,.int .i64 t.vertex,.int .i64 t.slot,.int .i64 t.side]
abbrev wdV (w:Wd):Value:=.agg #[.int .i64 w.old,.int .i64 w.new,.int .i64 w.thread,.int .i64 w.tag]
theorem zxB {x:Int} (_h0:0<=x) (_h1:x<=16):0<=levI x/\levI x<=5:=by
 unfold levI
 repeat' split
 all_goals omega
theorem zzA {s:ByteArray} {x:Int} (h0:0<=x) (h1:x<=16) (hs:(List.range 17).map (fun i=>(s[i]?).map (·.toNat))=[0,1,2,2,3,3,3,3,4,4,4,4,4,4,4,4,5].map some):(s[x.toNat]?).map (fun b=>(b.toNat:Int))=some (levI x):=by
 have hx:x.toNat<17:=by omega
 have h2:=congrArg (fun l=>l[x.toNat]?) hs
 simp only [List.getElem?_map,List.getElem?_range hx,Option.map_some] at h2
 have h3:x=(x.toNat:Int):=by omega
 rw [h3,Int.toNat_natCast]
 generalize x.toNat=i at *
 have:i=0\/i=1\/i=2\/i=3\/i=4\/i=5\/i=6\/i=7\/i=8\/i=9\/i=10\/i=11\/i=12\/i=13\/i=14\/i=15\/i=16:=by omega
 cases hb:s[i]? with
 | none=>rw [hb] at h2; rcases this with rfl | rfl | rfl | rfl | rfl | rfl | rfl | rfl | rfl | rfl | rfl | rfl | rfl | rfl | rfl | rfl | rfl<;>simp at h2
 | some b=>rw [hb] at h2; rcases this with rfl | rfl | rfl | rfl | rfl | rfl | rfl | rfl | rfl | rfl | rfl | rfl | rfl | rfl | rfl | rfl | rfl<;>simp at h2<;>simp [h2,levI]
theorem zdH {l:Lay} (h:l.Ok):1<=(l.V:Int)/\(l.V:Int)<=16/\(l.S:Int)<=48/\1<=(l.T:Int)/\(l.T:Int)<=8:=by
 obtain ⟨h1,h2,h3,h4,h5⟩:=h; omega
theorem zzx {l:Lay} (h:l.Ok):1<=l.lev/\l.lev<=5:=by
 have:=zdH h
 unfold Lay.lev levI
 repeat' split
 all_goals omega
theorem zbH {l:Lay} (h:l.Ok):(1<=(l.V:Int)/\(l.V:Int)<=16/\(l.S:Int)<=48/\1<=(l.T:Int)/\(l.T:Int)<=8)/\(1<=l.lev/\l.lev<=5)/\l.arcs=2 * l.lev/\l.free=l.T/\(0<=l.lev * l.V/\l.lev * l.V<=5 * 16)/\(0<=(l.V:Int) * l.lev/\(l.V:Int) * l.lev<=16 * 5) /\
  (0<=(l.S:Int) * l.arcs/\(l.S:Int) * l.arcs<=48 * 10)/\l.nodes=l.lev * l.V+l.S * l.arcs/\l.heads=l.T+1+l.S * 7/\l.edges=l.heads+l.V * l.lev/\(0<=(l.V:Int) * (l.V - 1)/\(l.V:Int) * (l.V - 1)<=16 * 15) /\
  l.base=l.edges+(l.V:Int) * (l.V - 1) / 2/\l.cells=l.base+l.nodes * 7:=by
 have h1:=zdH h
 have h2:=zzx h
 have h3:l.arcs=2 * l.lev:=rfl
 exact ⟨h1,h2,h3,rfl,zd5 (by omega) (by omega) (by omega) (by omega),zd5 (by omega) (by omega) (by omega) (by omega),zd5 (by omega) (by omega) (by omega) (by omega),rfl,rfl,rfl,zd5 (by omega) (by omega) (by omega) (by omega),rfl,rfl⟩
theorem zrn {a b:Int} (h0:0<=a) (hb:0<b) (ha:a<9223372036854775808):IntKind.i64.wrap (a.tdiv b)=a / b:=by
 rw [Int.tdiv_eq_ediv_of_nonneg h0]
 exact wr64 ⟨by have:=Int.ediv_nonneg h0 (Int.le_of_lt hb); omega,by have:=Int.ediv_le_self b h0; omega⟩
theorem znr {a b:Int} (h0:0<=a):a.tmod b=a % b:=Int.tmod_eq_emod_of_nonneg h0
theorem zgx {x V:Int} (h0:0<=x) (h1:x<V) (h2:V<=16):0<=x * (2 * V - x - 1)/\x * (2 * V - x - 1)<=16 * 32:=zd5 h0 (by omega) (by omega) (by omega)
abbrev zbw (l:Lay) (mt:TypeId) (mv:Value) (p:Pen):Value:=.agg #[.int .i64 l.V,.int .i64 l.S,.int .i64 l.T,.iface mt mv,.int .i64 p.thread,.int .i64 p.tag]
abbrev zjE (l:Lay) (mt:TypeId) (mv:Value):Value:=.agg #[.int .i64 l.V,.int .i64 l.S,.int .i64 l.T,.iface mt mv]
abbrev adjV (l:Lay) (mt:TypeId) (mv:Value) (p:Pen):Value:=.agg #[.int .i64 l.V,.int .i64 l.S,.int .i64 l.T,.iface mt mv,.int .i64 p.thread,.int .i64 p.tag,.int .i64 l.V,.int .i64 l.S,.int .i64 l.T,.iface mt mv]
theorem zpb (l:Lay) (x m:Int):0<=zfr l x m/\zfr l x m<18446744073709551616:=by
 unfold zfr; split<;>exact zby _ _
theorem zp6 {S:Type} [MemLike S] (l:Lay) (σ:S) (x m:Int) (i:Nat):0<=(zca l σ x m i).1/\(zca l σ x m i).1<18446744073709551616:=by
 cases i with
 | zero=>exact zpb _ _ _
 | succ i=>exact zby _ _
abbrev edgV (e:Edg):Value:=.agg #[.int .i64 e.u,.int .i64 e.v,.int .i64 e.level,.bool e.tree]
theorem quo2 (z:Int):IntKind.i64.wrap ((IntKind.i64.wrap z).tdiv 2)=(IntKind.i64.wrap z).tdiv 2:=by
 have h:-9223372036854775808<=IntKind.i64.wrap z/\IntKind.i64.wrap z<9223372036854775808:=by
  rw [IntKind.wrap_i64]; omega
 generalize IntKind.i64.wrap z=y at *
 refine wr64 ?_
 have h1:=Int.mul_tdiv_add_tmod y 2
 have h2:=Int.tmod_lt_of_pos y (show (0:Int)<2 by omega)
 have h3:=Int.lt_tmod_of_pos y (show (0:Int)<2 by omega)
 omega
theorem zdK:(Tryz.prog.underlying 29).isSome=true:=by kernel_rfl
theorem zvm:intB Tryz.prog 5 .u8=true:=by kernel_rfl
theorem zzM:Tryz.prog.underlying 9=some .string:=by kernel_rfl
theorem fc_u5:(Tryz.prog.underlying 5).isSome=true:=by kernel_rfl
theorem zaO:intB Tryz.prog 3 .i64=true:=by kernel_rfl
theorem zyv:zah Tryz.prog 165=true:=by kernel_rfl
theorem zaA:fldB Tryz.prog 41 0 0=true:=by kernel_rfl
theorem zad:zcE Tryz.prog 3=true:=by kernel_rfl
theorem zf9:(Tryz.prog.underlying 3).isSome=true:=by kernel_rfl
theorem zjm:intB Tryz.prog 203 .u64=true:=by kernel_rfl
theorem zyG:zah Tryz.prog 121=true:=by kernel_rfl
theorem zab:aggB Tryz.prog 41 3=true:=by kernel_rfl
theorem zgh:zah Tryz.prog 87=true:=by kernel_rfl
theorem fc_m:Tryz.prog.follows .mixedOrders=true:=by kernel_rfl
theorem zbB:fldB Tryz.prog 41 1 1=true:=by kernel_rfl
theorem zpo:zah Tryz.prog 88=true:=by kernel_rfl
theorem zc9:zah Tryz.prog 89=true:=by kernel_rfl
theorem zeP:fldB Tryz.prog 41 2 2=true:=by kernel_rfl
theorem zlF:zah Tryz.prog 137=true:=by kernel_rfl
theorem zjy:zah Tryz.prog 177=true:=by kernel_rfl
theorem ztj:zah Tryz.prog 166=true:=by kernel_rfl
theorem ztq:zah Tryz.prog 122=true:=by kernel_rfl
theorem zh3:zah Tryz.prog 31=true:=by kernel_rfl
theorem zwq:zah Tryz.prog 90=true:=by kernel_rfl
theorem zgf:zbI Tryz.prog 59=some (.agg #[.bool false,.int .i64 0,.int .i64 0,.int .i64 0,.int .i64 0]):=by kernel_rfl
theorem zsJ:zbk Tryz.prog 59 [(0,1),(1,1),(2,1),(3,1),(4,1)]=true:=by kernel_rfl
theorem zcL:aggB Tryz.prog 59 5=true:=by kernel_rfl
theorem zfc:fldB Tryz.prog 260 2 2=true:=by kernel_rfl
theorem zb8:fldB Tryz.prog 260 0 0=true:=by kernel_rfl
theorem zhK:zah Tryz.prog 253=true:=by kernel_rfl
theorem zcq:fldB Tryz.prog 260 1 1=true:=by kernel_rfl
theorem zfb:fldB Tryz.prog 260 3 3=true:=by kernel_rfl
theorem zaI:aggB Tryz.prog 260 4=true:=by kernel_rfl
theorem zya:zah Tryz.prog 254=true:=by kernel_rfl
theorem zsY:zah Tryz.prog 228=true:=by kernel_rfl
theorem zbs:intB Tryz.prog 29 .u64=true:=by kernel_rfl
theorem zb6:zbI Tryz.prog 260=some (.agg #[.int .i64 0,.int .i64 0,.int .i64 0,.int .i64 0]):=by kernel_rfl
theorem zn2:zah Tryz.prog 227=true:=by kernel_rfl
theorem zhC:zbk Tryz.prog 260 [(0,1),(1,1),(2,1),(3,1)]=true:=by kernel_rfl
theorem zdo:fldB Tryz.prog 137 0 0=true:=by kernel_rfl
theorem zdn:fldB Tryz.prog 137 1 1=true:=by kernel_rfl
theorem zfH:zah Tryz.prog 195=true:=by kernel_rfl
theorem zsX:zah Tryz.prog 229=true:=by kernel_rfl
theorem zlC:zah Tryz.prog 222=true:=by kernel_rfl
theorem zte:zah Tryz.prog 187=true:=by kernel_rfl
theorem zbf:fldB Tryz.prog 182 1 3=true:=by kernel_rfl
theorem zbv:zcE Tryz.prog 180=true:=by kernel_rfl
theorem zaH:fldB Tryz.prog 182 0 0=true:=by kernel_rfl
theorem zbQ:zah Tryz.prog 35=true:=by kernel_rfl
theorem zkt:zah Tryz.prog 32=true:=by kernel_rfl
theorem zhH:fldB Tryz.prog 59 1 1=true:=by kernel_rfl
theorem zaa:aggB Tryz.prog 182 6=true:=by kernel_rfl
theorem zsZ:zah Tryz.prog 221=true:=by kernel_rfl
theorem zn4:zah Tryz.prog 198=true:=by kernel_rfl
theorem zeb:zah Tryz.prog 250=true:=by kernel_rfl
theorem zjn:fldB Tryz.prog 182 2 4=true:=by kernel_rfl
theorem za9:aggB Tryz.prog 137 2=true:=by kernel_rfl
theorem zn5:zah Tryz.prog 197=true:=by kernel_rfl
theorem zlE:zah Tryz.prog 184=true:=by kernel_rfl
theorem zkp:fldB Tryz.prog 59 0 0=true:=by kernel_rfl
theorem zdb:zcE Tryz.prog 4=true:=by kernel_rfl
theorem ztf:zah Tryz.prog 186=true:=by kernel_rfl
theorem zsI:zbI Tryz.prog 122=some (.agg #[.int .i64 0,.int .i64 0]):=by kernel_rfl
theorem zdT:zmZ Tryz.prog 122 2 3 1=true:=by kernel_rfl
theorem zjt:zah Tryz.prog 276=true:=by kernel_rfl
theorem zx4:zah Tryz.prog 277=true:=by kernel_rfl
theorem zjx:zah Tryz.prog 185=true:=by kernel_rfl
theorem zhN:zah Tryz.prog 223=true:=by kernel_rfl
theorem zlz:zah Tryz.prog 261=true:=by kernel_rfl
theorem zhJ:zah Tryz.prog 259=true:=by kernel_rfl
theorem zju:zah Tryz.prog 260=true:=by kernel_rfl
theorem znX:zah Tryz.prog 262=true:=by kernel_rfl
theorem zly:zah Tryz.prog 275=true:=by kernel_rfl
theorem zx5:zah Tryz.prog 274=true:=by kernel_rfl
theorem znY:zah Tryz.prog 258=true:=by kernel_rfl
theorem zsP:zah Tryz.prog 278=true:=by kernel_rfl
theorem zsR:zah Tryz.prog 257=true:=by kernel_rfl
theorem zaj:fldB Tryz.prog 188 0 0=true:=by kernel_rfl
theorem zfh:zah Tryz.prog 103=true:=by kernel_rfl
theorem zfg:zah Tryz.prog 190=true:=by kernel_rfl
theorem znZ:zah Tryz.prog 243=true:=by kernel_rfl
theorem zfe:zah Tryz.prog 244=true:=by kernel_rfl
theorem zhL:zah Tryz.prog 239=true:=by kernel_rfl
theorem zx7:zah Tryz.prog 263=true:=by kernel_rfl
theorem zn0:zah Tryz.prog 242=true:=by kernel_rfl
theorem zbS:aggB Tryz.prog 188 6=true:=by kernel_rfl
theorem zsV:zah Tryz.prog 238=true:=by kernel_rfl
theorem zsU:zah Tryz.prog 240=true:=by kernel_rfl
theorem zjz:zah Tryz.prog 147=true:=by kernel_rfl
theorem zbE:fldB Tryz.prog 190 1 3=true:=by kernel_rfl
theorem zaM:fldB Tryz.prog 190 0 0=true:=by kernel_rfl
theorem zjA:zah Tryz.prog 140=true:=by kernel_rfl
theorem zs6:zah Tryz.prog 203=true:=by kernel_rfl
theorem zn8:zah Tryz.prog 172=true:=by kernel_rfl
theorem zs5:zah Tryz.prog 204=true:=by kernel_rfl
theorem zdi:zbI Tryz.prog 217=some (.agg #[.int .i64 0,.int .i64 0,.int .i64 0,.bool false]):=by kernel_rfl
theorem za2:aggB Tryz.prog 190 4=true:=by kernel_rfl
theorem zti:zah Tryz.prog 170=true:=by kernel_rfl
theorem zyu:zah Tryz.prog 171=true:=by kernel_rfl
theorem zxV:zbk Tryz.prog 217 [(0,1),(1,1),(2,1),(3,1)]=true:=by kernel_rfl
theorem zbR:aggB Tryz.prog 217 4=true:=by kernel_rfl
theorem zaw:fldB Tryz.prog 192 1 6=true:=by kernel_rfl
theorem zx9:zah Tryz.prog 255=true:=by kernel_rfl
theorem zx8:zah Tryz.prog 256=true:=by kernel_rfl
theorem zao:aggB Tryz.prog 192 10=true:=by kernel_rfl
theorem zlB:zah Tryz.prog 232=true:=by kernel_rfl
theorem zjw:zah Tryz.prog 233=true:=by kernel_rfl
theorem zbe:fldB Tryz.prog 192 0 0=true:=by kernel_rfl
theorem zz6:ztY Tryz.prog 4=true:=by kernel_rfl
theorem zsT:zah Tryz.prog 241=true:=by kernel_rfl
theorem zn1:zah Tryz.prog 235=true:=by kernel_rfl
theorem zff:zah Tryz.prog 234=true:=by kernel_rfl
theorem zjv:zah Tryz.prog 236=true:=by kernel_rfl
theorem zhM:zah Tryz.prog 237=true:=by kernel_rfl
theorem zdp:zah Tryz.prog 134=true:=by kernel_rfl
theorem zbn:fldB Tryz.prog 217 0 0=true:=by kernel_rfl
theorem zbD:fldB Tryz.prog 217 2 2=true:=by kernel_rfl
theorem zlD:zah Tryz.prog 206=true:=by kernel_rfl
theorem zs4:zah Tryz.prog 205=true:=by kernel_rfl
theorem zbm:fldB Tryz.prog 217 1 1=true:=by kernel_rfl
theorem zs1:zah Tryz.prog 211=true:=by kernel_rfl
theorem zap:fldB Tryz.prog 194 0 0=true:=by kernel_rfl
theorem zyn:zah Tryz.prog 207=true:=by kernel_rfl
theorem zs3:zah Tryz.prog 208=true:=by kernel_rfl
theorem zaY:aggB Tryz.prog 194 10=true:=by kernel_rfl
theorem zn3:zah Tryz.prog 209=true:=by kernel_rfl
theorem zhb:zmI Tryz.prog 217 2 2 3=true:=by kernel_rfl
theorem zym:zah Tryz.prog 212=true:=by kernel_rfl
theorem zsQ:zah Tryz.prog 265=true:=by kernel_rfl
theorem zn7:zah Tryz.prog 173=true:=by kernel_rfl
theorem ztl:zah Tryz.prog 162=true:=by kernel_rfl
theorem zx6:zah Tryz.prog 264=true:=by kernel_rfl
theorem zlA:zah Tryz.prog 246=true:=by kernel_rfl
theorem zqx:fldB Tryz.prog 59 3 3=true:=by kernel_rfl
theorem zye:zah Tryz.prog 247=true:=by kernel_rfl
theorem zqy:fldB Tryz.prog 59 2 2=true:=by kernel_rfl
theorem zyd:zah Tryz.prog 248=true:=by kernel_rfl
theorem zs7:zah Tryz.prog 202=true:=by kernel_rfl
theorem zyc:zah Tryz.prog 249=true:=by kernel_rfl
theorem zsS:zah Tryz.prog 245=true:=by kernel_rfl
theorem zsE:zbI Tryz.prog 196=some (.agg #[.int .i64 0,.int .i64 0,.int .i64 0,.nilIface,.int .i64 0,.int .i64 0,.int .i64 0,.int .i64 0,.int .i64 0,.nilIface]):=by kernel_rfl
theorem znV:zbk Tryz.prog 182 [(0,3),(3,1),(4,2)]=true:=by kernel_rfl
theorem zjj:zbI Tryz.prog 182=some (.agg #[.int .i64 0,.int .i64 0,.int .i64 0,.nilIface,.int .i64 0,.int .i64 0]):=by kernel_rfl
theorem zx1:zbk Tryz.prog 188 [(0,6)]=true:=by kernel_rfl
theorem zsF:zbI Tryz.prog 188=some (.agg #[.int .i64 0,.int .i64 0,.int .i64 0,.nilIface,.int .i64 0,.int .i64 0]):=by kernel_rfl
theorem zx0:zbk Tryz.prog 190 [(0,3),(3,1)]=true:=by kernel_rfl
theorem zxR:zbI Tryz.prog 190=some (.agg #[.int .i64 0,.int .i64 0,.int .i64 0,.nilIface]):=by kernel_rfl
theorem zxZ:zbk Tryz.prog 192 [(0,6),(6,4)]=true:=by kernel_rfl
theorem zxQ:zbI Tryz.prog 192=some (.agg #[.int .i64 0,.int .i64 0,.int .i64 0,.nilIface,.int .i64 0,.int .i64 0,.int .i64 0,.int .i64 0,.int .i64 0,.nilIface]):=by kernel_rfl
theorem zxY:zbk Tryz.prog 194 [(0,10)]=true:=by kernel_rfl
theorem zxP:zbI Tryz.prog 194=some (.agg #[.int .i64 0,.int .i64 0,.int .i64 0,.nilIface,.int .i64 0,.int .i64 0,.int .i64 0,.int .i64 0,.int .i64 0,.nilIface]):=by kernel_rfl
theorem zxX:zbk Tryz.prog 196 [(0,10)]=true:=by kernel_rfl
theorem zcf:aggB Tryz.prog 196 10=true:=by kernel_rfl
theorem zaT:fldB Tryz.prog 196 0 0=true:=by kernel_rfl
theorem zyx:zah Tryz.prog 160=true:=by kernel_rfl
theorem zyw:zah Tryz.prog 161=true:=by kernel_rfl
theorem ztk:zah Tryz.prog 163=true:=by kernel_rfl
theorem zyl:zah Tryz.prog 213=true:=by kernel_rfl
theorem zyk:zah Tryz.prog 214=true:=by kernel_rfl
theorem zyj:zah Tryz.prog 215=true:=by kernel_rfl
theorem znW:fldB Tryz.prog 217 3 3=true:=by kernel_rfl
theorem zth:zah Tryz.prog 174=true:=by kernel_rfl
theorem zyt:zah Tryz.prog 175=true:=by kernel_rfl
theorem zys:zah Tryz.prog 176=true:=by kernel_rfl
theorem zdm:fldB Tryz.prog 139 0 0=true:=by kernel_rfl
theorem zh1:zcE Tryz.prog 22=true:=by kernel_rfl
theorem za4:zcD Tryz.prog 22 29 1=true:=by kernel_rfl
theorem zea:fldB Tryz.prog 139 1 1=true:=by kernel_rfl
theorem zjr:fldB Tryz.prog 126 0 0=true:=by kernel_rfl
theorem zpp:zah Tryz.prog 82=true:=by kernel_rfl
theorem zlx:ptrB Tryz.prog 140=true:=by kernel_rfl
theorem zkl:zcE Tryz.prog 29=true:=by kernel_rfl
theorem zjq:fldB Tryz.prog 126 1 1=true:=by kernel_rfl
theorem zjo:fldB Tryz.prog 149 0 0=true:=by kernel_rfl
theorem zdL:zcE Tryz.prog 25=true:=by kernel_rfl
theorem zpq:zah Tryz.prog 23=true:=by kernel_rfl
theorem zku:zah Tryz.prog 17=true:=by kernel_rfl
theorem zjl:appB Tryz.prog 22 29 1=true:=by kernel_rfl
theorem zzL:zbI Tryz.prog 29=some (.int .u64 0):=by kernel_rfl
theorem zsK:zbk Tryz.prog 139 [(0,1),(1,5)]=true:=by kernel_rfl
theorem zsH:zbI Tryz.prog 139=some (.agg #[.slice none 0 0,.int .i64 0,.int .i64 0,.int .i64 0,.int .i64 0,.int .i64 0]):=by kernel_rfl
theorem zsG:zbI Tryz.prog 149=some (.agg #[.pointer none]):=by kernel_rfl
theorem zx2:zbk Tryz.prog 149 [(0,1)]=true:=by kernel_rfl
theorem zmO:aggB Tryz.prog 149 1=true:=by kernel_rfl
theorem zyr:zah Tryz.prog 189=true:=by kernel_rfl
theorem ztd:zah Tryz.prog 188=true:=by kernel_rfl
theorem zsW:zah Tryz.prog 231=true:=by kernel_rfl
theorem zws:zah Tryz.prog 70=true:=by kernel_rfl
theorem zs8:zah Tryz.prog 201=true:=by kernel_rfl
theorem ztp:zah Tryz.prog 138=true:=by kernel_rfl
theorem zto:zah Tryz.prog 148=true:=by kernel_rfl
theorem zhP:zgU Tryz.prog 149 "Store" 302=true:=by kernel_rfl
theorem zyJ:zah Tryz.prog 114=true:=by kernel_rfl
theorem zzU:zah Tryz.prog 91=true:=by kernel_rfl
theorem zz5:zah Tryz.prog 16=true:=by kernel_rfl
theorem zjs:zah Tryz.prog 85=true:=by kernel_rfl
theorem zgt:zik Tryz.prog 149=true:=by kernel_rfl
theorem zyI:zah Tryz.prog 115=true:=by kernel_rfl
theorem zjk:zbk Tryz.prog 137 [(0,1),(1,1)]=true:=by kernel_rfl
theorem zfF:zbI Tryz.prog 137=some (.agg #[.int .i64 0,.int .i64 0]):=by kernel_rfl
theorem zlG:zah Tryz.prog 116=true:=by kernel_rfl
theorem zak:zcD Tryz.prog 48 3 1=true:=by kernel_rfl
theorem zfY:appB Tryz.prog 48 3 1=true:=by kernel_rfl
theorem zts:aggB Tryz.prog 126 5=true:=by kernel_rfl
theorem zyK:zah Tryz.prog 106=true:=by kernel_rfl
theorem zko:fldB Tryz.prog 70 0 0=true:=by kernel_rfl
theorem zkn:fldB Tryz.prog 70 1 1=true:=by kernel_rfl
theorem zkm:fldB Tryz.prog 70 2 2=true:=by kernel_rfl
theorem zji:zbI Tryz.prog 3=some (.int .i64 0):=by kernel_rfl
theorem ztc:zah Tryz.prog 191=true:=by kernel_rfl
theorem zha:zcE Tryz.prog 48=true:=by kernel_rfl
theorem zyE:zah Tryz.prog 150=true:=by kernel_rfl
theorem zfa:fldB Tryz.prog 264 0 0=true:=by kernel_rfl
theorem zdk:fldB Tryz.prog 264 1 1=true:=by kernel_rfl
theorem zcc:zcE Tryz.prog 23=true:=by kernel_rfl
theorem zwo:zbk Tryz.prog 34 [(0,1),(1,1),(2,1)]=true:=by kernel_rfl
theorem zes:zbI Tryz.prog 34=some (.agg #[.bool false,.int .i64 0,.int .u64 0]):=by kernel_rfl
theorem zal:zcD Tryz.prog 23 34 3=true:=by kernel_rfl
theorem zb7:appB Tryz.prog 23 34 3=true:=by kernel_rfl
theorem zwr:zah Tryz.prog 83=true:=by kernel_rfl
theorem zsO:zah Tryz.prog 58=true:=by kernel_rfl
theorem zxU:zbk Tryz.prog 264 [(0,1),(1,1)]=true:=by kernel_rfl
theorem zxN:zbI Tryz.prog 264=some (.agg #[.pointer none,.slice none 0 0]):=by kernel_rfl
theorem zyf:zah Tryz.prog 230=true:=by kernel_rfl
theorem zyb:zah Tryz.prog 252=true:=by kernel_rfl
theorem zxT:(Tryz.prog.underlying 203).isSome=true:=by kernel_rfl
theorem zyh:zah Tryz.prog 225=true:=by kernel_rfl
theorem zyg:zah Tryz.prog 226=true:=by kernel_rfl
theorem zci:aggB Tryz.prog 34 3=true:=by kernel_rfl
theorem zdY:fldB Tryz.prog 34 0 0=true:=by kernel_rfl
theorem zbP:fldB Tryz.prog 34 1 1=true:=by kernel_rfl
theorem zyi:zah Tryz.prog 224=true:=by kernel_rfl
theorem zbo:fldB Tryz.prog 198 1 1=true:=by kernel_rfl
theorem zyp:zah Tryz.prog 199=true:=by kernel_rfl
theorem zbd:fldB Tryz.prog 198 0 0=true:=by kernel_rfl
theorem zc5:zcE Tryz.prog 186=true:=by kernel_rfl
theorem zyo:zah Tryz.prog 200=true:=by kernel_rfl
theorem ztb:zah Tryz.prog 192=true:=by kernel_rfl
theorem zn6:zah Tryz.prog 193=true:=by kernel_rfl
theorem zta:zah Tryz.prog 194=true:=by kernel_rfl
theorem zdl:fldB Tryz.prog 198 2 4=true:=by kernel_rfl
theorem zfG:zik Tryz.prog 186=true:=by kernel_rfl
theorem zyq:zah Tryz.prog 196=true:=by kernel_rfl
theorem zcr:fldB Tryz.prog 198 3 6=true:=by kernel_rfl
theorem zb0:fldB Tryz.prog 198 5 17=true:=by kernel_rfl
theorem zbZ:fldB Tryz.prog 198 6 18=true:=by kernel_rfl
theorem zcs:fldB Tryz.prog 145 1 1=true:=by kernel_rfl
theorem zjp:fldB Tryz.prog 145 0 0=true:=by kernel_rfl
theorem zfd:fldB Tryz.prog 145 2 2=true:=by kernel_rfl
theorem zx3:zbk Tryz.prog 145 [(0,1),(1,1),(2,1)]=true:=by kernel_rfl
theorem zxS:zbI Tryz.prog 145=some (.agg #[.slice none 0 0,.int .i64 0,.bool false]):=by kernel_rfl
theorem zks:fldB Tryz.prog 34 2 2=true:=by kernel_rfl
theorem zmN:zah Tryz.prog 19=true:=by kernel_rfl
theorem zzW:zah Tryz.prog 84=true:=by kernel_rfl
theorem zct:zlc Tryz.prog 152 3 3=true:=by kernel_rfl
theorem zbY:zbI Tryz.prog 50=some (.agg #[.slice none 0 0,.int .i64 0,.bool false,.slice none 0 0]):=by kernel_rfl
theorem ztn:zah Tryz.prog 151=true:=by kernel_rfl
theorem zeJ:zbk Tryz.prog 50 [(0,1),(1,1),(2,1),(3,1)]=true:=by kernel_rfl
theorem zaq:aggB Tryz.prog 50 4=true:=by kernel_rfl
theorem zn9:zah Tryz.prog 152=true:=by kernel_rfl
theorem za8:fldB Tryz.prog 50 0 0=true:=by kernel_rfl
theorem zyD:zah Tryz.prog 153=true:=by kernel_rfl
theorem zce:fldB Tryz.prog 50 1 1=true:=by kernel_rfl
theorem zyC:zah Tryz.prog 154=true:=by kernel_rfl
theorem zdj:fldB Tryz.prog 50 3 3=true:=by kernel_rfl
theorem zh2:fldB Tryz.prog 198 4 16=true:=by kernel_rfl
theorem ztm:zah Tryz.prog 155=true:=by kernel_rfl
theorem zyB:zah Tryz.prog 156=true:=by kernel_rfl
theorem zyA:zah Tryz.prog 157=true:=by kernel_rfl
theorem zyz:zah Tryz.prog 158=true:=by kernel_rfl
theorem zyy:zah Tryz.prog 159=true:=by kernel_rfl
theorem zyF:zah Tryz.prog 149=true:=by kernel_rfl
theorem zjC:zah Tryz.prog 133=true:=by kernel_rfl
theorem zxW:zbk Tryz.prog 198 [(0,1),(1,3),(4,2),(6,10),(16,1),(17,1),(18,1)]=true:=by kernel_rfl
theorem zxO:zbI Tryz.prog 198=some (.agg #[.pointer none,.int .i64 0,.int .i64 0,.int .i64 0,.int .i64 0,.int .i64 0,.int .i64 0,.int .i64 0,.int .i64 0,.nilIface,.int .i64 0,.int .i64 0,.int .i64 0,.int .i64 0,.int .i64 0,.nilIface,.slice none 0 0,.int .i64 0,.int .i64 0]):=by kernel_rfl
theorem ztr:zah Tryz.prog 118=true:=by kernel_rfl
theorem zyH:zah Tryz.prog 120=true:=by kernel_rfl
theorem zhO:zah Tryz.prog 119=true:=by kernel_rfl
theorem zc6:zmI Tryz.prog 196 0 0 194=true:=by kernel_rfl
theorem zc7:zmI Tryz.prog 194 0 0 192=true:=by kernel_rfl
theorem zc8:zmI Tryz.prog 192 1 6 190=true:=by kernel_rfl
theorem zjB:zah Tryz.prog 135=true:=by kernel_rfl
theorem zmL:zbI Tryz.prog 63=some (.agg #[.int .i64 0,.int .i64 0,.int .i64 0,.int .i64 0]):=by kernel_rfl
theorem zzP:zbk Tryz.prog 63 [(0,1),(1,1),(2,1),(3,1)]=true:=by kernel_rfl
theorem zf1:aggB Tryz.prog 63 4=true:=by kernel_rfl
theorem zhG:fldB Tryz.prog 63 0 0=true:=by kernel_rfl
theorem zeL:fldB Tryz.prog 63 2 2=true:=by kernel_rfl
theorem zhF:fldB Tryz.prog 63 3 3=true:=by kernel_rfl
theorem zwt:zah Tryz.prog 33=true:=by kernel_rfl
theorem zeM:fldB Tryz.prog 63 1 1=true:=by kernel_rfl
theorem zcd:fldB Tryz.prog 57 1 3=true:=by kernel_rfl
theorem zaz:fldB Tryz.prog 57 0 0=true:=by kernel_rfl
theorem zmM:zah Tryz.prog 34=true:=by kernel_rfl
theorem zyM:zah Tryz.prog 102=true:=by kernel_rfl
theorem zz3:zah Tryz.prog 42=true:=by kernel_rfl
theorem zfp:zah Tryz.prog 45=true:=by kernel_rfl
theorem zeO:fldB Tryz.prog 44 0 0=true:=by kernel_rfl
theorem zkr:fldB Tryz.prog 44 1 3=true:=by kernel_rfl
theorem zzX:zah Tryz.prog 76=true:=by kernel_rfl
theorem zzT:ptrB Tryz.prog 25=true:=by kernel_rfl
theorem zzQ:zbk Tryz.prog 57 [(0,3),(3,1),(4,1),(5,1)]=true:=by kernel_rfl
theorem zzH:zbI Tryz.prog 57=some (.agg #[.int .i64 0,.int .i64 0,.int .i64 0,.pointer none,.int .i64 0,.slice none 0 0]):=by kernel_rfl
theorem zzS:zbk Tryz.prog 41 [(0,1),(1,1),(2,1)]=true:=by kernel_rfl
theorem zzK:zbI Tryz.prog 41=some (.agg #[.int .i64 0,.int .i64 0,.int .i64 0]):=by kernel_rfl
theorem zzR:zbk Tryz.prog 44 [(0,3),(3,1),(4,1)]=true:=by kernel_rfl
theorem zzJ:zbI Tryz.prog 44=some (.agg #[.int .i64 0,.int .i64 0,.int .i64 0,.slice none 0 0,.slice none 0 0]):=by kernel_rfl
theorem zwu:zah Tryz.prog 25=true:=by kernel_rfl
theorem zwp:ptrB Tryz.prog 46=true:=by kernel_rfl
theorem zsN:zah Tryz.prog 80=true:=by kernel_rfl
theorem zsM:zah Tryz.prog 81=true:=by kernel_rfl
theorem zhI:fldB Tryz.prog 50 2 2=true:=by kernel_rfl
theorem ztg:zah Tryz.prog 18=true:=by kernel_rfl
theorem zsL:ptrB Tryz.prog 31=true:=by kernel_rfl
theorem zs9:zah Tryz.prog 20=true:=by kernel_rfl
theorem zs0:zah Tryz.prog 22=true:=by kernel_rfl
theorem zs2:zah Tryz.prog 21=true:=by kernel_rfl
theorem zww:zah Tryz.prog 15=true:=by kernel_rfl
theorem zeN:fldB Tryz.prog 57 2 4=true:=by kernel_rfl
theorem zaX:fldB Tryz.prog 91 1 1=true:=by kernel_rfl
theorem zaW:fldB Tryz.prog 91 2 2=true:=by kernel_rfl
theorem zeK:appB Tryz.prog 81 4 1=true:=by kernel_rfl
theorem zqw:zbI Tryz.prog 4=some (.bool false):=by kernel_rfl
theorem zcy:fldB Tryz.prog 57 3 5=true:=by kernel_rfl
theorem zg9:zcE Tryz.prog 55=true:=by kernel_rfl
theorem zbC:zcD Tryz.prog 55 80 5=true:=by kernel_rfl
theorem zf0:aggB Tryz.prog 80 5=true:=by kernel_rfl
theorem zmK:zbI Tryz.prog 80=some (.agg #[.int .i64 0,.int .i64 0,.int .i64 0,.int .i64 0,.bool false]):=by kernel_rfl
theorem zfZ:fldB Tryz.prog 80 0 0=true:=by kernel_rfl
theorem za7:zcD Tryz.prog 81 4 1=true:=by kernel_rfl
theorem zhE:fldB Tryz.prog 80 1 1=true:=by kernel_rfl
theorem zhD:fldB Tryz.prog 80 2 2=true:=by kernel_rfl
theorem zdX:fldB Tryz.prog 91 0 0=true:=by kernel_rfl
theorem zzN:zbk Tryz.prog 80 [(0,1),(1,1),(2,1),(3,1),(4,1)]=true:=by kernel_rfl
theorem zgv:appB Tryz.prog 55 80 5=true:=by kernel_rfl
theorem zyL:zah Tryz.prog 105=true:=by kernel_rfl
theorem zkq:fldB Tryz.prog 44 2 4=true:=by kernel_rfl
theorem zwn:zcE Tryz.prog 42=true:=by kernel_rfl
theorem zgu:zcD Tryz.prog 42 91 3=true:=by kernel_rfl
theorem zlH:aggB Tryz.prog 91 3=true:=by kernel_rfl
theorem zzF:zbI Tryz.prog 91=some (.agg #[.int .i64 0,.int .i64 0,.int .i64 0]):=by kernel_rfl
theorem zzZ:zah Tryz.prog 54=true:=by kernel_rfl
theorem zzY:zah Tryz.prog 60=true:=by kernel_rfl
theorem zdc:zcE Tryz.prog 46=true:=by kernel_rfl
theorem zwm:zbI Tryz.prog 70=some (.agg #[.int .i64 0,.int .i64 0,.int .i64 0]):=by kernel_rfl
theorem zzO:zbk Tryz.prog 70 [(0,1),(1,1),(2,1)]=true:=by kernel_rfl
theorem zpr:aggB Tryz.prog 70 3=true:=by kernel_rfl
theorem zz0:zah Tryz.prog 52=true:=by kernel_rfl
theorem zzV:zah Tryz.prog 86=true:=by kernel_rfl
theorem ziw:aggB Tryz.prog 44 5=true:=by kernel_rfl
theorem zwv:zah Tryz.prog 24=true:=by kernel_rfl
theorem zzI:zbI Tryz.prog 46=some (.pointer none):=by kernel_rfl
theorem zz4:zah Tryz.prog 37=true:=by kernel_rfl
theorem zgg:zcE Tryz.prog 81=true:=by kernel_rfl
theorem zkv:zlc Tryz.prog 83 3 4=true:=by kernel_rfl
theorem zz2:zah Tryz.prog 44=true:=by kernel_rfl
theorem zz1:zah Tryz.prog 46=true:=by kernel_rfl
theorem zzG:zbI Tryz.prog 81=some (.slice none 0 0):=by kernel_rfl
theorem zbz {n m:Int}:FnD Tryz.prog 89 [.int .i64 n,.int .i64 m] [] (.bool (decide (0<=n/\n<m))) []:=by
 refine Fn.enter (Tryz.func89) rfl rfl (fun w0 R=>?_)
 refine sA (xaf rfl (dA (xmi rfl (TL.geq rfl rfl rfl rfl (fun q1=>?_) (fun q1=>?_)))))
 refine xmt rfl (xmi rfl (xmi rfl (TL.lssV rfl rfl rfl rfl (TL.pickT (.bool _) rfl rfl rfl rfl (xab rfl (dR ?_))))))
 refine FQ.ret1 (v:=(.bool _)) (Bs:=[]) [] rfl rfl rfl trivial ?_
 first | exact ⟨bT (by omega),rfl⟩ | exact ⟨bF (by omega),rfl⟩ | exact ⟨congrArg Value.bool (decide_eq_decide.2 (by omega)),rfl⟩
 refine xmf rfl (xo rfl (xo rfl (xo rfl (xpF rfl (xaf rfl (dR ?_))))))
 refine FQ.ret1 (v:=(.bool false)) (Bs:=[]) [] rfl rfl rfl trivial ?_
 first | exact ⟨bT (by omega),rfl⟩ | exact ⟨bF (by omega),rfl⟩ | exact ⟨congrArg Value.bool (decide_eq_decide.2 (by omega)),rfl⟩
theorem zva {x:Int} (h0:0<=x) (h1:x<=16):FnD Tryz.prog 165 [.int .u64 x] [] (.int .i64 (levI x)) []:=by
 have hl:=zxB h0 h1
 refine Fn.enter (Tryz.func165) rfl rfl (fun w0 R=>?_)
 refine sA (xai rfl (dB (xmi rfl (TL.geqF rfl rfl (by omega) rfl rfl (TL.done (TQ.then (TC.condF rfl (TC.skip ?_))))))))
 refine TQ.then (sB (xmi rfl (TL.geqF rfl rfl (by omega) rfl rfl (TL.done (TQ.then (TC.condF rfl (TC.skip (TQ.then ?_))))))))
 refine sB (xmi rfl (TL.geqF rfl rfl (by omega) rfl rfl (dF rfl (xmi rfl (xmi rfl (TL.conv _ rfl zdK zvm (wru8 (by omega)) rfl rfl (TL.ixS (levI x) rfl rfl zzM (by omega) (zzA h0 h1 (by kernel_rfl)) rfl rfl (TL.conv _ rfl fc_u5 zaO (wr64 (by omega)) rfl rfl ?_))))))))
 refine TL.add _ rfl rfl (wr64 (by omega)) rfl rfl (xai rfl (dR ?_))
 refine FQ.ret1 (v:=(.int _ _)) (Bs:=[]) [] rfl rfl rfl trivial ?_
 exact ⟨iE (by omega),rfl⟩
theorem zzy {x:Int} (h0:0<=x) (h1:x<=16):FnD Tryz.prog 121 [.int .u64 x] [] (.int .i64 (levI x)) []:=by
 refine Fn.enter (Tryz.func121) rfl rfl (fun w0 R=>?_)
 refine sA (xai rfl (dS (TC.condF rfl (TC.skip (TQ.then (sA (xmi rfl (xD [] (zva (by omega) (by omega)) zyv rfl ?_))))))))
 refine xai rfl (dR ?_)
 refine FQ.ret1 (v:=(.int _ _)) (Bs:=[]) [] rfl rfl rfl trivial ?_
 exact ⟨rfl,rfl⟩
theorem zcH {l:Lay} (hl:l.Ok)  : FnD Tryz.prog 87 [layV l] [] (.int .i64 l.lev) []:=by
 have hb:=zdH hl
 refine Fn.enter (Tryz.func87) rfl rfl (fun w0 R=>?_)
 refine sA (xB 0 rfl (fun bk0=>(xai rfl (dA (xf 0 zaA rfl (xli 0 zad rfl rfl (TL.conv _ rfl zf9 zjm (zuk (by omega)) rfl rfl (xD [] (zzy (by omega) (by omega)) zyG rfl (xai rfl ?_)))))))))
 refine dR ?_
 refine FQ.ret1 (v:=(.int _ _)) (Bs:=[]) [] rfl rfl rfl trivial ?_
 exact ⟨rfl,rfl⟩
theorem zlP {l:Lay} (hl:l.Ok)  : FnD Tryz.prog 88 [layV l] [] (.int .i64 l.arcs) []:=by
 have hb:=zbH hl
 refine Fn.enter (Tryz.func88) rfl rfl (fun w0 R=>?_)
 refine sA (xB 0 rfl (fun bk0=>(xai rfl (dA (xL3 0 zab rfl rfl (xD [] (zcH hl) zgh rfl (TL.mul _ rfl rfl (wr64 (by omega)) rfl rfl (xai rfl (dR ?_)))))))))
 refine FQ.ret1 (v:=(.int _ _)) (Bs:=[]) [] rfl rfl rfl trivial ?_
 exact ⟨rfl,rfl⟩
theorem zem {l:Lay} (hl:l.Ok)  : FnD Tryz.prog 31 [layV l] [] (.int .i64 l.nodes) []:=by
 have hb:=zbH hl
 refine Fn.enter (Tryz.func31) rfl rfl (fun w0 R=>?_)
 refine sA (xB 0 rfl (fun bk0=>(xai rfl (dS (TC.draw (od [1,5,7,11,13,15,2,9,16,19,21,23]) [0] fc_m (by kernel_rfl) (xL3 0 zab rfl rfl (xf 0 zaA rfl (xli 0 zad rfl rfl (xf 1 zbB rfl ?_)))))))))
 refine xli 0 zad rfl rfl (xL3 0 zab rfl rfl (xd [] (zcH hl) zgh rfl (kL1 rfl trivial) (TL.mul _ rfl rfl (wr64 (by omega)) rfl rfl (xd [] (zlP hl) zpo rfl (kL1 rfl trivial) (TL.mul _ rfl rfl (wr64 (by omega)) rfl rfl (TL.add _ rfl rfl (wr64 (by omega)) rfl rfl (xai rfl (dR ?_))))))))
 refine FQ.ret1 (v:=(.int _ _)) (Bs:=[]) [] rfl rfl rfl trivial ?_
 exact ⟨rfl,rfl⟩
theorem zcX {l:Lay} (hl:l.Ok) {i v:Int}:FnD Tryz.prog 103 [layV l,.int .i64 i,.int .i64 v] [] (.int .i64 (l.vertex i v)) []:=by
 have hb:=zbH hl
 refine Fn.enter (Tryz.func103) rfl rfl (fun w0 R=>?_)
 refine sA (xB 0 rfl (fun bk0=>(xai rfl (dB (xmi rfl (xL3 0 zab rfl rfl (xD [] (zcH hl) zgh rfl (xD [] zbz zc9 rfl (TL.casesP rfl (fun q1=>?_) (fun q1=>?_))))))))))
 refine xnt rfl (xmf rfl (xmi rfl (xf 0 zaA rfl (xli 0 zad rfl rfl (xD [] zbz zc9 rfl (TL.casesP rfl (fun q2=>?_) (fun q2=>?_)))))))
 refine xnt rfl (xpF rfl (dF rfl (xmi rfl (xf 0 zaA rfl (xli 0 zad rfl rfl (TL.mul _ rfl rfl (wr64 (by have:=zd5 (a:=i) (A:=5) (b:=(l.V:Int)) (B:=16) (by omega) (by omega) (by omega) (by omega); omega)) rfl rfl (TL.add _ rfl rfl (wr64 (by have:=zd5 (a:=i) (A:=5) (b:=(l.V:Int)) (B:=16) (by omega) (by omega) (by omega) (by omega); omega)) rfl rfl (xmi rfl ?_))))))))
 refine TL.add _ rfl rfl (wr64 (by have:=zd5 (a:=i) (A:=5) (b:=(l.V:Int)) (B:=16) (by omega) (by omega) (by omega) (by omega); omega)) rfl rfl (xai rfl (dR ?_))
 refine FQ.ret1 (v:=(.int _ _)) (Bs:=[]) [] rfl rfl rfl trivial ?_
 first | exact ⟨iE (by unfold Lay.vertex; rw [if_pos (by omega)]),rfl⟩ | exact ⟨iE (by unfold Lay.vertex; rw [if_neg (by omega)]),rfl⟩
 refine xnf rfl (xpH rfl (dT rfl (xai rfl (dRR ?_))))
 refine FQ.ret1 (v:=(.int _ _)) (Bs:=[]) [] rfl rfl rfl trivial ?_
 first | exact ⟨iE (by unfold Lay.vertex; rw [if_pos (by omega)]),rfl⟩ | exact ⟨iE (by unfold Lay.vertex; rw [if_neg (by omega)]),rfl⟩
 refine xnf rfl (xmt rfl (xo rfl (xo rfl (xo rfl (xo rfl (xo rfl (xpT rfl (dT rfl ?_))))))))
 refine xai rfl (dRR ?_)
 refine FQ.ret1 (v:=(.int _ _)) (Bs:=[]) [] rfl rfl rfl trivial ?_
 first | exact ⟨iE (by unfold Lay.vertex; rw [if_pos (by omega)]),rfl⟩ | exact ⟨iE (by unfold Lay.vertex; rw [if_neg (by omega)]),rfl⟩
theorem zt5 {l:Lay} (hl:l.Ok) {s i d:Int}:FnD Tryz.prog 242 [layV l,.int .i64 s,.int .i64 i,.int .i64 d] [] (.int .i64 (l.arc s i d)) []:=by
 have hb:=zbH hl
 refine Fn.enter (Tryz.func242) rfl rfl (fun w0 R=>?_)
 refine sA (xB 0 rfl (fun bk0=>(xai rfl (dB (xmi rfl (xf 1 zbB rfl (xli 0 zad rfl rfl (xD [] zbz zc9 rfl (TL.casesP rfl (fun q1=>?_) (fun q1=>?_))))))))))
 refine xnt rfl (xmf rfl (xmi rfl (xL3 0 zab rfl rfl (xD [] (zcH hl) zgh rfl (xD [] zbz zc9 rfl (TL.casesP rfl (fun q2=>?_) (fun q2=>?_)))))))
 refine xnt rfl (xpF rfl (xmf rfl (xmi rfl (xD [] zbz zc9 rfl (TL.casesP rfl (fun q3=>?_) (fun q3=>?_))))))
 refine xnt rfl (xpF rfl (TL.done (TQ.then (TC.condF rfl (TC.skip (TQ.then (TC.seq (TC.draw (od [1,5,7,13,15,23,25,29,2,9,11,16,19,21,27,31,33]) [0] fc_m (by kernel_rfl) ?_))))))))
 refine xL3 0 zab rfl rfl (xf 0 zaA rfl (xli 0 zad rfl rfl (xmi rfl (xL3 0 zab rfl rfl (xmi rfl (TL.mul _ rfl rfl (wr64 (by omega)) rfl rfl (xmi rfl (xd [] (zcH hl) zgh rfl (kL1 rfl trivial) ?_))))))))
 refine TL.mul _ rfl rfl (wr64 (by omega)) rfl rfl (TL.add _ rfl rfl (wr64 (by omega)) rfl rfl (xd [] (zlP hl) zpo rfl (kL1 rfl trivial) (TL.mul _ rfl rfl (wr64 (by have:=zd5 (a:=s) (A:=48) (b:=l.arcs) (B:=10) (by omega) (by omega) (by omega) (by omega); omega)) rfl rfl (TL.add _ rfl rfl (wr64 (by have:=zd5 (a:=s) (A:=48) (b:=l.arcs) (B:=10) (by omega) (by omega) (by omega) (by omega); omega)) rfl rfl (TL.add _ rfl rfl (wr64 (by have:=zd5 (a:=s) (A:=48) (b:=l.arcs) (B:=10) (by omega) (by omega) (by omega) (by omega); omega)) rfl rfl ?_)))))
 refine TL.add _ rfl rfl (wr64 (by have:=zd5 (a:=s) (A:=48) (b:=l.arcs) (B:=10) (by omega) (by omega) (by omega) (by omega); omega)) rfl rfl (xai rfl (dR ?_))
 refine FQ.ret1 (v:=(.int _ _)) (Bs:=[]) [] rfl rfl rfl trivial ?_
 first | exact ⟨iE (by unfold Lay.arc; rw [if_pos (by omega)]),rfl⟩ | exact ⟨iE (by unfold Lay.arc; rw [if_neg (by omega)]),rfl⟩
 refine xnf rfl (xpH rfl (dT rfl (xai rfl (dRR ?_))))
 refine FQ.ret1 (v:=(.int _ _)) (Bs:=[]) [] rfl rfl rfl trivial ?_
 first | exact ⟨iE (by unfold Lay.arc; rw [if_pos (by omega)]),rfl⟩ | exact ⟨iE (by unfold Lay.arc; rw [if_neg (by omega)]),rfl⟩
 refine xnf rfl (xpH rfl (xmt rfl (xo rfl (xo rfl (xo rfl (xpT rfl (dT rfl (xai rfl ?_))))))))
 refine dRR ?_
 refine FQ.ret1 (v:=(.int _ _)) (Bs:=[]) [] rfl rfl rfl trivial ?_
 first | exact ⟨iE (by unfold Lay.arc; rw [if_pos (by omega)]),rfl⟩ | exact ⟨iE (by unfold Lay.arc; rw [if_neg (by omega)]),rfl⟩
 refine xnf rfl (xmt rfl (xo rfl (xo rfl (xo rfl (xo rfl (xo rfl (xpT rfl (xmt rfl ?_))))))))
 refine xo rfl (xo rfl (xo rfl (xpT rfl (dT rfl (xai rfl (dRR ?_))))))
 refine FQ.ret1 (v:=(.int _ _)) (Bs:=[]) [] rfl rfl rfl trivial ?_
 first | exact ⟨iE (by unfold Lay.arc; rw [if_pos (by omega)]),rfl⟩ | exact ⟨iE (by unfold Lay.arc; rw [if_neg (by omega)]),rfl⟩
theorem zlt {l:Lay} (hl:l.Ok)  : FnD Tryz.prog 137 [layV l] [] (.int .i64 l.free) []:=by
 have hb:=zbH hl
 refine Fn.enter (Tryz.func137) rfl rfl (fun w0 R=>?_)
 refine sA (xB 0 rfl (fun bk0=>(xai rfl (dA (xf 2 zeP rfl (xli 0 zad rfl rfl (xai rfl (dR ?_))))))))
 refine FQ.ret1 (v:=(.int _ _)) (Bs:=[]) [] rfl rfl rfl trivial ?_
 exact ⟨rfl,rfl⟩
theorem zrP {l:Lay} (hl:l.Ok) {s f:Int} (hf:0<=f/\f<=8):FnD Tryz.prog 177 [layV l,.int .i64 s,.int .i64 f] [] (.int .i64 (l.of s f)) []:=by
 have hb:=zbH hl
 refine Fn.enter (Tryz.func177) rfl rfl (fun w0 R=>?_)
 refine sA (xB 0 rfl (fun bk0=>(xai rfl (dB (xmi rfl (xf 1 zbB rfl (xli 0 zad rfl rfl (xD [] zbz zc9 rfl (TL.casesP rfl (fun q1=>?_) (fun q1=>?_))))))))))
 refine xnt rfl (dF rfl (xL3 0 zab rfl rfl (xD [] (zlt hl) zlF rfl (TL.add _ rfl rfl (wr64 (by omega)) rfl rfl (xmi rfl (TL.mul _ rfl rfl (wr64 (by omega)) rfl rfl (TL.add _ rfl rfl (wr64 (by omega)) rfl rfl (xmi rfl ?_))))))))
 refine TL.add _ rfl rfl (wr64 (by omega)) rfl rfl (xai rfl (dR ?_))
 refine FQ.ret1 (v:=(.int _ _)) (Bs:=[]) [] rfl rfl rfl trivial ?_
 first | exact ⟨iE (by unfold Lay.of Lay.free at *; rw [if_pos (by omega)]),rfl⟩ | exact ⟨iE (by unfold Lay.of Lay.free at *; rw [if_neg (by omega)]),rfl⟩
 refine xnf rfl (dT rfl (xai rfl (dRR ?_)))
 refine FQ.ret1 (v:=(.int _ _)) (Bs:=[]) [] rfl rfl rfl trivial ?_
 first | exact ⟨iE (by unfold Lay.of Lay.free at *; rw [if_pos (by omega)]),rfl⟩ | exact ⟨iE (by unfold Lay.of Lay.free at *; rw [if_neg (by omega)]),rfl⟩
theorem zty {l:Lay} (hl:l.Ok) {s:Int}:FnD Tryz.prog 203 [layV l,.int .i64 s] [] (.int .i64 (l.ends s)) []:=by
 have hb:=zbH hl
 refine Fn.enter (Tryz.func203) rfl rfl (fun w0 R=>?_)
 refine sA (xB 0 rfl (fun bk0=>(xai rfl (dA (xL3 0 zab rfl rfl (xmi rfl (xD [] (zrP hl (by omega)) zjy rfl (xai rfl (dR ?_)))))))))
 refine FQ.ret1 (v:=(.int _ _)) (Bs:=[]) [] rfl rfl rfl trivial ?_
 exact ⟨rfl,rfl⟩
theorem zlj {l:Lay} (hl:l.Ok) {s:Int}:FnD Tryz.prog 172 [layV l,.int .i64 s] [] (.int .i64 (l.level s)) []:=by
 have hb:=zbH hl
 refine Fn.enter (Tryz.func172) rfl rfl (fun w0 R=>?_)
 refine sA (xB 0 rfl (fun bk0=>(xai rfl (dA (xL3 0 zab rfl rfl (xmi rfl (xD [] (zrP hl (by omega)) zjy rfl (xai rfl (dR ?_)))))))))
 refine FQ.ret1 (v:=(.int _ _)) (Bs:=[]) [] rfl rfl rfl trivial ?_
 exact ⟨rfl,rfl⟩
theorem zxv {l:Lay} (hl:l.Ok) {s d:Int}:FnD Tryz.prog 255 [layV l,.int .i64 s,.int .i64 d] [] (.int .i64 (l.next s d)) []:=by
 have hb:=zbH hl
 refine Fn.enter (Tryz.func255) rfl rfl (fun w0 R=>?_)
 refine sA (xB 0 rfl (fun bk0=>(xai rfl (dB (xmi rfl (xD [] zbz zc9 rfl (TL.casesP rfl (fun q1=>?_) (fun q1=>?_))))))))
 refine xnt rfl (dF rfl (xL3 0 zab rfl rfl (xmi rfl (xmi rfl (TL.add _ rfl rfl (wr64 (by omega)) rfl rfl (xD [] (zrP hl (by omega)) zjy rfl (xai rfl (dR ?_))))))))
 refine FQ.ret1 (v:=(.int _ _)) (Bs:=[]) [] rfl rfl rfl trivial ?_
 first | exact ⟨iE (by unfold Lay.next; rw [if_pos (by omega)]),rfl⟩ | exact ⟨iE (by unfold Lay.next; rw [if_neg (by omega)]),rfl⟩
 refine xnf rfl (dT rfl (xai rfl (dRR ?_)))
 refine FQ.ret1 (v:=(.int _ _)) (Bs:=[]) [] rfl rfl rfl trivial ?_
 first | exact ⟨iE (by unfold Lay.next; rw [if_pos (by omega)]),rfl⟩ | exact ⟨iE (by unfold Lay.next; rw [if_neg (by omega)]),rfl⟩
theorem zxc {l:Lay} (hl:l.Ok) {s d:Int}:FnD Tryz.prog 256 [layV l,.int .i64 s,.int .i64 d] [] (.int .i64 (l.prev s d)) []:=by
 have hb:=zbH hl
 refine Fn.enter (Tryz.func256) rfl rfl (fun w0 R=>?_)
 refine sA (xB 0 rfl (fun bk0=>(xai rfl (dB (xmi rfl (xD [] zbz zc9 rfl (TL.casesP rfl (fun q1=>?_) (fun q1=>?_))))))))
 refine xnt rfl (dF rfl (xL3 0 zab rfl rfl (xmi rfl (xmi rfl (TL.add _ rfl rfl (wr64 (by omega)) rfl rfl (xD [] (zrP hl (by omega)) zjy rfl (xai rfl (dR ?_))))))))
 refine FQ.ret1 (v:=(.int _ _)) (Bs:=[]) [] rfl rfl rfl trivial ?_
 first | exact ⟨iE (by unfold Lay.prev; rw [if_pos (by omega)]),rfl⟩ | exact ⟨iE (by unfold Lay.prev; rw [if_neg (by omega)]),rfl⟩
 refine xnf rfl (dT rfl (xai rfl (dRR ?_)))
 refine FQ.ret1 (v:=(.int _ _)) (Bs:=[]) [] rfl rfl rfl trivial ?_
 first | exact ⟨iE (by unfold Lay.prev; rw [if_pos (by omega)]),rfl⟩ | exact ⟨iE (by unfold Lay.prev; rw [if_neg (by omega)]),rfl⟩
theorem zpj {l:Lay} (hl:l.Ok)  : FnD Tryz.prog 166 [layV l] [] (.int .i64 l.heads) []:=by
 have hb:=zbH hl
 refine Fn.enter (Tryz.func166) rfl rfl (fun w0 R=>?_)
 refine sA (xB 0 rfl (fun bk0=>(xai rfl (dS (TC.draw (od [1,7,9,11,2,5,13,15]) [0] fc_m (by kernel_rfl) (xL3 0 zab rfl rfl (xf 1 zbB rfl (xli 0 zad rfl rfl (TL.mul _ rfl rfl (wr64 (by omega)) rfl rfl ?_)))))))))
 refine xd [] (zlt hl) zlF rfl (kL1 rfl trivial) (TL.add _ rfl rfl (wr64 (by omega)) rfl rfl (TL.add _ rfl rfl (wr64 (by omega)) rfl rfl (xai rfl (dR ?_))))
 refine FQ.ret1 (v:=(.int _ _)) (Bs:=[]) [] rfl rfl rfl trivial ?_
 exact ⟨rfl,rfl⟩
theorem zlq {l:Lay} (hl:l.Ok) {v i:Int}:FnD Tryz.prog 232 [layV l,.int .i64 v,.int .i64 i] [] (.int .i64 (l.head v i)) []:=by
 have hb:=zbH hl
 refine Fn.enter (Tryz.func232) rfl rfl (fun w0 R=>?_)
 refine sA (xB 0 rfl (fun bk0=>(xai rfl (dB (xmi rfl (xf 0 zaA rfl (xli 0 zad rfl rfl (xD [] zbz zc9 rfl (TL.casesP rfl (fun q1=>?_) (fun q1=>?_))))))))))
 refine xnt rfl (xmf rfl (xmi rfl (xL3 0 zab rfl rfl (xD [] (zcH hl) zgh rfl (xD [] zbz zc9 rfl (TL.casesP rfl (fun q2=>?_) (fun q2=>?_)))))))
 refine xnt rfl (xpF rfl (TL.done (TQ.then (TC.condF rfl (TC.skip (TQ.then (TC.seq (TC.draw (od [1,5,7,15,2,8,11,13,17,19]) [0] fc_m (by kernel_rfl) ?_))))))))
 refine xL3 0 zab rfl rfl (xmi rfl (xL3 0 zab rfl rfl (xmi rfl (xd [] (zpj hl) ztj rfl (kL1 rfl trivial) (xd [] (zcH hl) zgh rfl (kL1 rfl trivial) (TL.mul _ rfl rfl (wr64 (by have:=zd5 (a:=v) (A:=16) (b:=l.lev) (B:=5) (by omega) (by omega) (by omega) (by omega); omega)) rfl rfl (TL.add _ rfl rfl (wr64 (by have:=zd5 (a:=v) (A:=16) (b:=l.lev) (B:=5) (by omega) (by omega) (by omega) (by omega); omega)) rfl rfl (TL.add _ rfl rfl (wr64 (by have:=zd5 (a:=v) (A:=16) (b:=l.lev) (B:=5) (by omega) (by omega) (by omega) (by omega); omega)) rfl rfl ?_))))))))
 refine xai rfl (dR ?_)
 refine FQ.ret1 (v:=(.int _ _)) (Bs:=[]) [] rfl rfl rfl trivial ?_
 first | exact ⟨iE (by unfold Lay.head; rw [if_pos (by omega)]),rfl⟩ | exact ⟨iE (by unfold Lay.head; rw [if_neg (by omega)]),rfl⟩
 refine xnf rfl (xpH rfl (dT rfl (xai rfl (dRR ?_))))
 refine FQ.ret1 (v:=(.int _ _)) (Bs:=[]) [] rfl rfl rfl trivial ?_
 first | exact ⟨iE (by unfold Lay.head; rw [if_pos (by omega)]),rfl⟩ | exact ⟨iE (by unfold Lay.head; rw [if_neg (by omega)]),rfl⟩
 refine xnf rfl (xmt rfl (xo rfl (xo rfl (xo rfl (xo rfl (xo rfl (xpT rfl (dT rfl ?_))))))))
 refine xai rfl (dRR ?_)
 refine FQ.ret1 (v:=(.int _ _)) (Bs:=[]) [] rfl rfl rfl trivial ?_
 first | exact ⟨iE (by unfold Lay.head; rw [if_pos (by omega)]),rfl⟩ | exact ⟨iE (by unfold Lay.head; rw [if_neg (by omega)]),rfl⟩
theorem zpw {l:Lay} (hl:l.Ok)  : FnD Tryz.prog 122 [layV l] [] (.int .i64 l.edges) []:=by
 have hb:=zbH hl
 refine Fn.enter (Tryz.func122) rfl rfl (fun w0 R=>?_)
 refine sA (xB 0 rfl (fun bk0=>(xai rfl (dS (TC.draw (od [1,5,7,9,2,10,13,15,17]) [0] fc_m (by kernel_rfl) (xL3 0 zab rfl rfl (xf 0 zaA rfl (xli 0 zad rfl rfl (xL3 0 zab rfl rfl ?_)))))))))
 refine xd [] (zpj hl) ztj rfl (kL1 rfl trivial) (xd [] (zcH hl) zgh rfl (kL1 rfl trivial) (TL.mul _ rfl rfl (wr64 (by omega)) rfl rfl (TL.add _ rfl rfl (wr64 (by omega)) rfl rfl (xai rfl (dR ?_)))))
 refine FQ.ret1 (v:=(.int _ _)) (Bs:=[]) [] rfl rfl rfl trivial ?_
 exact ⟨rfl,rfl⟩
theorem zjF {l:Lay} (hl:l.Ok) {a b:Int}:FnD Tryz.prog 140 [layV l,.int .i64 a,.int .i64 b] [] (.int .i64 (l.edge a b)) []:=by
 have hb:=zbH hl
 refine Fn.enter (Tryz.func140) rfl rfl (fun w0 R=>?_)
 refine sA (xB 0 rfl (fun bk0=>(xai rfl (dA (xmi rfl (xmi rfl (TL.min2 rfl rfl rfl rfl (xmi rfl (xmi rfl ?_)))))))))
 refine TL.max2 rfl rfl rfl rfl (xai rfl (xai rfl (dB (xmi rfl (xmi rfl (TL.eql rfl rfl rfl rfl (fun q1=>?_) (fun q1=>?_)))))))
 refine xmt rfl (xo rfl (xo rfl (xo rfl (xo rfl (xo rfl (xpT rfl (xmt rfl (xo rfl ?_))))))))
 refine xo rfl (xo rfl (xo rfl (xo rfl (xpT rfl (dT rfl (xai rfl (dRR ?_)))))))
 refine FQ.ret1 (v:=(.int _ _)) (Bs:=[]) [] rfl rfl rfl trivial ?_
 first | exact ⟨iE (by unfold Lay.edge; rw [if_neg (by omega)]),rfl⟩ | exact ⟨iE (by unfold Lay.edge; rw [if_pos (by omega)]),rfl⟩
 refine xmf rfl (xmi rfl (xf 0 zaA rfl (xli 0 zad rfl rfl (xD [] zbz zc9 rfl (TL.casesP rfl (fun q2=>?_) (fun q2=>?_))))))
 refine xnt rfl (xpF rfl (xmf rfl (xmi rfl (xf 0 zaA rfl (xli 0 zad rfl rfl (xD [] zbz zc9 rfl (TL.casesP rfl (fun q3=>?_) (fun q3=>?_))))))))
 refine xnt rfl (xpF rfl (TL.done (TQ.then (TC.condF rfl (TC.skip (TQ.then (TC.seq (TC.draw (od [1,5,7,9,11,13,15,17,19,21,25,29,2,23,27,31,33,35]) [0] fc_m (by kernel_rfl) ?_))))))))
 refine xL3 0 zab rfl rfl (xmi rfl (xf 0 zaA rfl (xli 0 zad rfl rfl (TL.mul _ rfl rfl (wr64 (by omega)) rfl rfl (xmi rfl (TL.sub _ rfl rfl (wr64 (by omega)) rfl rfl (TL.sub _ rfl rfl (wr64 (by omega)) rfl rfl (TL.mul _ rfl rfl (wr64 (by have h9:=zgx (x:=min a b) (V:=(l.V:Int)) (by omega) (by omega) (by omega); omega)) rfl rfl ?_))))))))
 refine TL.quo _ rfl rfl (by omega) (zrn (by have h9:=zgx (x:=min a b) (V:=(l.V:Int)) (by omega) (by omega) (by omega); omega) (by omega) (by have h9:=zgx (x:=min a b) (V:=(l.V:Int)) (by omega) (by omega) (by omega); omega)) rfl rfl (xmi rfl (xmi rfl (xd [] (zpw hl) ztq rfl (kL1 rfl trivial) (TL.add _ rfl rfl (wr64 (by have h9:=zgx (x:=min a b) (V:=(l.V:Int)) (by omega) (by omega) (by omega); omega)) rfl rfl (TL.add _ rfl rfl (wr64 (by have h9:=zgx (x:=min a b) (V:=(l.V:Int)) (by omega) (by omega) (by omega); omega)) rfl rfl ?_)))))
 refine TL.sub _ rfl rfl (wr64 (by have h9:=zgx (x:=min a b) (V:=(l.V:Int)) (by omega) (by omega) (by omega); omega)) rfl rfl (TL.sub _ rfl rfl (wr64 (by have h9:=zgx (x:=min a b) (V:=(l.V:Int)) (by omega) (by omega) (by omega); omega)) rfl rfl (xai rfl (dR ?_)))
 refine FQ.ret1 (v:=(.int _ _)) (Bs:=[]) [] rfl rfl rfl trivial ?_
 first | exact ⟨iE (by unfold Lay.edge; rw [if_neg (by omega)]),rfl⟩ | exact ⟨iE (by unfold Lay.edge; rw [if_pos (by omega)]),rfl⟩
 refine xnf rfl (xpH rfl (dT rfl (xai rfl (dRR ?_))))
 refine FQ.ret1 (v:=(.int _ _)) (Bs:=[]) [] rfl rfl rfl trivial ?_
 first | exact ⟨iE (by unfold Lay.edge; rw [if_neg (by omega)]),rfl⟩ | exact ⟨iE (by unfold Lay.edge; rw [if_pos (by omega)]),rfl⟩
 refine xnf rfl (xpH rfl (xmt rfl (xo rfl (xo rfl (xo rfl (xo rfl (xo rfl (xpT rfl ?_))))))))
 refine dT rfl (xai rfl (dRR ?_))
 refine FQ.ret1 (v:=(.int _ _)) (Bs:=[]) [] rfl rfl rfl trivial ?_
 first | exact ⟨iE (by unfold Lay.edge; rw [if_neg (by omega)]),rfl⟩ | exact ⟨iE (by unfold Lay.edge; rw [if_pos (by omega)]),rfl⟩
theorem zt2 {l:Lay} (hl:l.Ok)  : FnD Tryz.prog 90 [layV l] [] (.int .i64 l.base) []:=by
 have hb:=zbH hl
 refine Fn.enter (Tryz.func90) rfl rfl (fun w0 R=>?_)
 refine sA (xB 0 rfl (fun bk0=>(xai rfl (dS (TC.draw (od [1,5,7,9,11,13,15,17,2,19,21]) [0] fc_m (by kernel_rfl) (xL3 0 zab rfl rfl (xf 0 zaA rfl (xli 0 zad rfl rfl (xf 0 zaA rfl ?_)))))))))
 refine xli 0 zad rfl rfl (TL.sub _ rfl rfl (wr64 (by omega)) rfl rfl (TL.mul _ rfl rfl (wr64 (by omega)) rfl rfl (TL.quo _ rfl rfl (by omega) (zrn (by omega) (by omega) (by omega)) rfl rfl (xd [] (zpw hl) ztq rfl (kL1 rfl trivial) (TL.add _ rfl rfl (wr64 (by omega)) rfl rfl (xai rfl (dR ?_)))))))
 refine FQ.ret1 (v:=(.int _ _)) (Bs:=[]) [] rfl rfl rfl trivial ?_
 exact ⟨rfl,rfl⟩
theorem zaV {l:Lay} (hl:l.Ok) {x f:Int}:FnD Tryz.prog 35 [layV l,.int .i64 x,.int .i64 f] [] (.int .i64 (l.field x f)) []:=by
 have hb:=zbH hl
 refine Fn.enter (Tryz.func35) rfl rfl (fun w0 R=>?_)
 refine sA (xB 0 rfl (fun bk0=>(xai rfl (dB (xmi rfl (TL.sub _ rfl rfl (rfl) rfl rfl (xL3 0 zab rfl rfl (xD [] (zem hl) zh3 rfl (xD [] zbz zc9 rfl ?_)))))))))
 refine TL.casesP rfl (fun q1=>?_) (fun q1=>?_)
 refine xnt rfl (xmf rfl (xmi rfl (xD [] zbz zc9 rfl (TL.casesP rfl (fun q2=>?_) (fun q2=>?_)))))
 refine xnt rfl (xpF rfl (dF rfl (xL3 0 zab rfl rfl (xD [] (zt2 hl) zwq rfl (xmi rfl (TL.sub _ rfl rfl (rfl) rfl rfl (TL.mul _ rfl rfl (wr64 (by omega)) rfl rfl (TL.add _ rfl rfl (wr64 (by omega)) rfl rfl ?_))))))))
 refine xmi rfl (TL.add _ rfl rfl (wr64 (by omega)) rfl rfl (xai rfl (dR ?_)))
 refine FQ.ret1 (v:=(.int _ _)) (Bs:=[]) [] rfl rfl rfl trivial ?_
 first | exact ⟨iE (by unfold Lay.field; rw [if_pos (by omega)]),rfl⟩ | exact ⟨iE (by unfold Lay.field; rw [if_neg (by omega)]),rfl⟩
 refine xnf rfl (xpH rfl (dT rfl (xai rfl (dRR ?_))))
 refine FQ.ret1 (v:=(.int _ _)) (Bs:=[]) [] rfl rfl rfl trivial ?_
 first | exact ⟨iE (by unfold Lay.field; rw [if_pos (by omega)]),rfl⟩ | exact ⟨iE (by unfold Lay.field; rw [if_neg (by omega)]),rfl⟩
 refine xnf rfl (xmt rfl (xo rfl (xo rfl (xo rfl (xpT rfl (dT rfl (xai rfl (dRR ?_))))))))
 refine FQ.ret1 (v:=(.int _ _)) (Bs:=[]) [] rfl rfl rfl trivial ?_
 first | exact ⟨iE (by unfold Lay.field; rw [if_pos (by omega)]),rfl⟩ | exact ⟨iE (by unfold Lay.field; rw [if_neg (by omega)]),rfl⟩
theorem zvA {l:Lay} (hl:l.Ok)  : FnD Tryz.prog 91 [layV l] [] (.int .i64 l.cells) []:=by
 have hb:=zbH hl
 refine Fn.enter (Tryz.func91) rfl rfl (fun w0 R=>?_)
 refine sA (xB 0 rfl (fun bk0=>(xai rfl (dS (TC.draw (od [1,5,2,6,9,11,13]) [0] fc_m (by kernel_rfl) (xL3 0 zab rfl rfl (xL3 0 zab rfl rfl (xd [] (zt2 hl) zwq rfl (kL1 rfl trivial) (xd [] (zem hl) zh3 rfl (kL1 rfl trivial) ?_)))))))))
 refine TL.mul _ rfl rfl (wr64 (by omega)) rfl rfl (TL.add _ rfl rfl (wr64 (by omega)) rfl rfl (xai rfl (dR ?_)))
 refine FQ.ret1 (v:=(.int _ _)) (Bs:=[]) [] rfl rfl rfl trivial ?_
 exact ⟨rfl,rfl⟩
theorem zht {l:Lay} (hl:l.Ok) {x:Int}:FnD Tryz.prog 32 [layV l,.int .i64 x] [] (.tuple #[zzb (l.node x).1,.bool (l.node x).2]) []:=by
 have hb:=zbH hl
 refine Fn.enter (Tryz.func32) rfl rfl (fun w0 R=>?_)
 refine sA (xB 0 rfl (fun bk0=>(TL.alloc 1 (cs:=#[.bool false,.int .i64 0,.int .i64 0,.int .i64 0,.int .i64 0]) zgf rfl rfl rfl (fun _=>trivial) (fun bk1=>(xaf rfl (dB (xmi rfl (TL.sub _ rfl rfl (rfl) rfl rfl (xL3 0 zab rfl rfl (xD [] (zem hl) zh3 rfl ?_))))))))))
 refine xD [] zbz zc9 rfl (TL.casesP rfl (fun q1=>?_) (fun q1=>?_))
 refine xnt rfl (dF rfl (xmi rfl (TL.sub _ rfl rfl (rfl) rfl rfl (xai rfl (dS (TC.draw (od [1,5,7,2,9,11]) [0] fc_m (by kernel_rfl) (xL3 0 zab rfl rfl (xf 0 zaA rfl ?_))))))))
 refine xli 0 zad rfl rfl (xd [] (zcH hl) zgh rfl (kL1 rfl trivial) (TL.mul _ rfl rfl (wr64 (by omega)) rfl rfl (xai rfl (dB (xmi rfl (xmi rfl (TL.lss rfl rfl rfl rfl (fun q2=>?_) (fun q2=>?_))))))))
 refine TL.done (TQ.then (TC.condT rfl (TC.seq (TC.draw (od [1,3,5,7,9,11,13,15,17,18,21]) [0] fc_m (by kernel_rfl) (xmi rfl (xf 0 zaA rfl (xli 0 zad rfl rfl (TL.quo _ rfl rfl (by omega) (zrn (by omega) (by omega) (by omega)) rfl rfl ?_))))))))
 refine xmi rfl (xf 0 zaA rfl (xli 0 zad rfl rfl (TL.rem _ rfl rfl (by omega) (znr (by omega)) rfl rfl (TL.bld [.bool false,.int .i64 0,.int .i64 0,.int .i64 0,.int .i64 0] [(.int _ _),(.int _ _)] [_,_,_,_,_] zgf zsJ ⟨rfl,rfl,trivial⟩ ⟨rfl,rfl⟩ rfl rfl (TL.stW 1 5 [_,_,_,_,_] rfl rfl rfl rfl rfl rfl zcL rfl rfl (kL1 rfl trivial) (xat rfl (dRR ?_)))))))
 refine FQ.retG (rs:=[.cell 4 59,.tmp 5]) [(.agg _),(.bool true)] (Bs:=[]) [] rfl ⟨⟨_,_,_,_,_,1,rfl,rfl,.inr ⟨5,[_,_,_,_,_],zcL,rfl,rfl⟩⟩,rfl,trivial⟩ rfl rfl trivial ?_
 first | exact ⟨by unfold Lay.node; simp only []; rw [if_neg (by omega)]; rfl,rfl⟩ | exact ⟨by unfold Lay.node; simp only []; rw [if_pos (by omega),if_pos (by omega)]; rfl,rfl⟩ | exact ⟨by unfold Lay.node; simp only []; rw [if_pos (by omega),if_neg (by omega)]; rfl,rfl⟩
 refine dF rfl (xmi rfl (xmi rfl (TL.sub _ rfl rfl (wr64 (by omega)) rfl rfl (xai rfl (dS (TC.draw (od [1,3,9,11,19,21,4,7,12,15,17,23,24,27]) [0] fc_m (by kernel_rfl) (xmi rfl (xL3 0 zab rfl rfl ?_))))))))
 refine xmi rfl (xL3 0 zab rfl rfl (xmi rfl (TL.rem _ rfl rfl (by omega) (znr (by omega)) rfl rfl (xd [] (zlP hl) zpo rfl (kL1 rfl trivial) (TL.quo _ rfl rfl (by omega) (zrn (by omega) (by omega) (by omega)) rfl rfl (xd [] (zlP hl) zpo rfl (kL1 rfl trivial) (TL.rem _ rfl rfl (by omega) (znr (by omega)) rfl rfl (TL.quo _ rfl rfl (by omega) (zrn (Int.emod_nonneg _ (by omega)) (by omega) (by have:=Int.emod_lt_of_pos (IntKind.i64.wrap (x - 1) - l.lev * l.V) (b:=l.arcs) (by omega); omega)) rfl rfl ?_))))))))
 refine TL.bld [.bool false,.int .i64 0,.int .i64 0,.int .i64 0,.int .i64 0] [(.bool true),(.int _ _),(.int _ _),(.int _ _)] [_,_,_,_,_] zgf zsJ ⟨rfl,rfl,rfl,rfl,trivial⟩ ⟨rfl,rfl⟩ rfl rfl (TL.stW 1 5 [_,_,_,_,_] rfl rfl rfl rfl rfl rfl zcL rfl rfl (kL1 rfl trivial) (xat rfl (dR ?_)))
 refine FQ.retG (rs:=[.cell 4 59,.tmp 5]) [(.agg _),(.bool true)] (Bs:=[]) [] rfl ⟨⟨_,_,_,_,_,1,rfl,rfl,.inr ⟨5,[_,_,_,_,_],zcL,rfl,rfl⟩⟩,rfl,trivial⟩ rfl rfl trivial ?_
 first | exact ⟨by unfold Lay.node; simp only []; rw [if_neg (by omega)]; rfl,rfl⟩ | exact ⟨by unfold Lay.node; simp only []; rw [if_pos (by omega),if_pos (by omega)]; rfl,rfl⟩ | exact ⟨by unfold Lay.node; simp only []; rw [if_pos (by omega),if_neg (by omega)]; rfl,rfl⟩
 refine xnf rfl (dT rfl (TL.bld [.bool false,.int .i64 0,.int .i64 0,.int .i64 0,.int .i64 0] [] [_,_,_,_,_] zgf zsJ trivial ⟨rfl,rfl⟩ rfl rfl (TL.stW 1 5 [_,_,_,_,_] rfl rfl rfl rfl rfl rfl zcL rfl rfl trivial (xaf rfl (dRR ?_)))))
 refine FQ.retG (rs:=[.cell 4 59,.tmp 5]) [(.agg _),(.bool false)] (Bs:=[]) [] rfl ⟨⟨_,_,_,_,_,1,rfl,rfl,.inr ⟨5,[_,_,_,_,_],zcL,rfl,rfl⟩⟩,rfl,trivial⟩ rfl rfl trivial ?_
 first | exact ⟨by unfold Lay.node; simp only []; rw [if_neg (by omega)]; rfl,rfl⟩ | exact ⟨by unfold Lay.node; simp only []; rw [if_pos (by omega),if_pos (by omega)]; rfl,rfl⟩ | exact ⟨by unfold Lay.node; simp only []; rw [if_pos (by omega),if_neg (by omega)]; rfl,rfl⟩
theorem zey {n m:Int}:FnD Tryz.prog 253 [.int .i64 n,.int .i64 m] [] (.bool (decide (0<=n/\n<=m))) []:=by
 refine Fn.enter (Tryz.func253) rfl rfl (fun w0 R=>?_)
 refine sA (xaf rfl (dA (xmi rfl (TL.geq rfl rfl rfl rfl (fun q1=>?_) (fun q1=>?_)))))
 refine xmt rfl (xmi rfl (xmi rfl (TL.leqV rfl rfl rfl rfl (TL.pickT (.bool _) rfl rfl rfl rfl (xab rfl (dR ?_))))))
 refine FQ.ret1 (v:=(.bool _)) (Bs:=[]) [] rfl rfl rfl trivial ?_
 first | exact ⟨bT (by omega),rfl⟩ | exact ⟨bF (by omega),rfl⟩ | exact ⟨congrArg Value.bool (decide_eq_decide.2 (by omega)),rfl⟩
 refine xmf rfl (xo rfl (xo rfl (xo rfl (xpF rfl (xaf rfl (dR ?_))))))
 refine FQ.ret1 (v:=(.bool false)) (Bs:=[]) [] rfl rfl rfl trivial ?_
 first | exact ⟨bT (by omega),rfl⟩ | exact ⟨bF (by omega),rfl⟩ | exact ⟨congrArg Value.bool (decide_eq_decide.2 (by omega)),rfl⟩
theorem zrI {o m t g:Int}:FnD Tryz.prog 254 [.agg #[.int .i64 o,.int .i64 m,.int .i64 t,.int .i64 g]] [] (.bool (decide (t=0))) []:=by
 refine Fn.enter (Tryz.func254) rfl rfl (fun w0 R=>?_)
 refine sA (xB 0 rfl (fun bk0=>(xaf rfl (dA (xf 2 zfc rfl (xli 0 zad rfl rfl (TL.eqlV rfl rfl rfl rfl (xab rfl (dR ?_)))))))))
 refine FQ.ret1 (v:=(.bool _)) (Bs:=[]) [] rfl rfl rfl trivial ?_
 exact ⟨rfl,rfl⟩
theorem zlU {o m t g:Int}:FnD Tryz.prog 228 [.agg #[.int .i64 o,.int .i64 m,.int .i64 t,.int .i64 g]] [] (.bool (⟨o,m,t,g⟩:Wd).right) []:=by
 refine Fn.enter (Tryz.func228) rfl rfl (fun w0 R=>?_)
 refine sA (xB 0 rfl (fun bk0=>(xaf rfl (dB (xf 0 zb8 rfl (xli 0 zad rfl rfl (xD [] zey zhK rfl (TL.casesP rfl (fun q1=>?_) (fun q1=>?_)))))))))
 refine xnt rfl (xmf rfl (xf 1 zcq rfl (xli 0 zad rfl rfl (xD [] zey zhK rfl (TL.casesP rfl (fun q2=>?_) (fun q2=>?_))))))
 refine xnt rfl (xpF rfl (xmf rfl (xf 2 zfc rfl (xli 0 zad rfl rfl (xD [] zey zhK rfl (TL.casesP rfl (fun q3=>?_) (fun q3=>?_)))))))
 refine xnt rfl (xpF rfl (xmf rfl (xf 3 zfb rfl (xli 0 zad rfl rfl (xD [] zey zhK rfl (TL.casesP rfl (fun q4=>?_) (fun q4=>?_)))))))
 refine xnt rfl (xpF rfl (dF rfl (xL4 0 zaI rfl rfl (xD [] zrI zya rfl (TL.casesP rfl (fun q5=>?_) (fun q5=>?_))))))
 refine xnt rfl (xmf rfl (xf 0 zb8 rfl (xli 0 zad rfl rfl (xf 1 zcq rfl (xli 0 zad rfl rfl (TL.eql rfl rfl rfl rfl (fun q6=>?_) (fun q6=>?_)))))))
 refine xmt rfl (xf 3 zfb rfl (xli 0 zad rfl rfl (TL.eqlV rfl rfl rfl rfl (TL.pickT (.bool _) rfl rfl rfl rfl (TL.pickF (.bool _) rfl rfl rfl rfl (xab rfl (dR ?_)))))))
 refine FQ.ret1 (v:=(.bool _)) (Bs:=[]) [] rfl rfl rfl trivial ?_
 exact ⟨congrArg Value.bool (by simp [Wd.right, *]),rfl⟩
 refine xmf rfl (xo rfl (xo rfl (xo rfl (xpF rfl (xpF rfl (xaf rfl (dR ?_)))))))
 refine FQ.ret1 (v:=(.bool false)) (Bs:=[]) [] rfl rfl rfl trivial ?_
 exact ⟨congrArg Value.bool (by simp [Wd.right, *]),rfl⟩
 refine xnf rfl (xmt rfl (xo rfl (xo rfl (xo rfl (xo rfl (xo rfl (xo rfl (xo rfl ?_))))))))
 refine xo rfl (xo rfl (xo rfl (xpT rfl (xat rfl (dR ?_)))))
 refine FQ.ret1 (v:=(.bool true)) (Bs:=[]) [] rfl rfl rfl trivial ?_
 exact ⟨congrArg Value.bool (by simp [Wd.right, *]),rfl⟩
 refine xnf rfl (xpH rfl (dT rfl (xaf rfl (dRR ?_))))
 refine FQ.ret1 (v:=(.bool false)) (Bs:=[]) [] rfl rfl rfl trivial ?_
 exact ⟨congrArg Value.bool (by simp [Wd.right, *]),rfl⟩
 refine xnf rfl (xpH rfl (xmt rfl (xo rfl (xo rfl (xo rfl (xo rfl (xpT rfl (dT rfl ?_))))))))
 refine xaf rfl (dRR ?_)
 refine FQ.ret1 (v:=(.bool false)) (Bs:=[]) [] rfl rfl rfl trivial ?_
 exact ⟨congrArg Value.bool (by simp [Wd.right, *]),rfl⟩
 refine xnf rfl (xpH rfl (xmt rfl (xo rfl (xo rfl (xo rfl (xo rfl (xpT rfl (xmt rfl ?_))))))))
 refine xo rfl (xo rfl (xo rfl (xo rfl (xpT rfl (dT rfl (xaf rfl (dRR ?_)))))))
 refine FQ.ret1 (v:=(.bool false)) (Bs:=[]) [] rfl rfl rfl trivial ?_
 exact ⟨congrArg Value.bool (by simp [Wd.right, *]),rfl⟩
 refine xnf rfl (xmt rfl (xo rfl (xo rfl (xo rfl (xo rfl (xpT rfl (xmt rfl (xo rfl ?_))))))))
 refine xo rfl (xo rfl (xo rfl (xpT rfl (xmt rfl (xo rfl (xo rfl (xo rfl (xo rfl ?_))))))))
 refine xpT rfl (dT rfl (xaf rfl (dRR ?_)))
 refine FQ.ret1 (v:=(.bool false)) (Bs:=[]) [] rfl rfl rfl trivial ?_
 exact ⟨congrArg Value.bool (by simp [Wd.right, *]),rfl⟩
theorem zk2 {o m t g:Int}:FnD Tryz.prog 222 [.agg #[.int .i64 o,.int .i64 m,.int .i64 t,.int .i64 g]] [] (.tuple #[.int .u64 (if (⟨o,m,t,g⟩:Wd).right then (⟨o,m,t,g⟩:Wd).pack else 0),.int .i64 (if (⟨o,m,t,g⟩:Wd).right then 0 else 11)]) []:=by
 refine Fn.enter (Tryz.func222) rfl rfl (fun w0 R=>?_)
 refine sA (xB 0 rfl (fun bk0=>(xai rfl (xai rfl (dB (xL4 0 zaI rfl rfl (xD [] zlU zsY rfl (TL.cases rfl (fun q1=>?_) (fun q1=>?_)))))))))
 refine xnt rfl (dF rfl (xf 1 zcq rfl (xli 0 zad rfl rfl (TL.conv _ rfl zf9 zbs (rfl) rfl rfl (xf 0 zb8 rfl (xli 0 zad rfl rfl (TL.conv _ rfl zf9 zbs (rfl) rfl rfl (TL.shl _ rfl rfl (by decide) rfl rfl rfl ?_))))))))
 refine TL.or _ rfl rfl rfl rfl rfl (xf 2 zfc rfl (xli 0 zad rfl rfl (TL.conv _ rfl zf9 zbs (rfl) rfl rfl (TL.shl _ rfl rfl (by decide) rfl rfl rfl (TL.or _ rfl rfl rfl rfl rfl (xf 3 zfb rfl (xli 0 zad rfl rfl (TL.conv _ rfl zf9 zbs (rfl) rfl rfl ?_))))))))
 refine TL.shl _ rfl rfl (by decide) rfl rfl rfl (TL.or _ rfl rfl rfl rfl rfl (xai rfl (xai rfl (dR ?_))))
 refine FQ.ret2 (v:=(.int _ _)) (x:=(.int _ _)) (Bs:=[]) [] rfl rfl rfl rfl trivial ?_
 exact ⟨by simp only [*,if_true,Bool.false_eq_true,if_false]<;>rfl,rfl⟩
 refine xnf rfl (dT rfl (xai rfl (xai rfl (dRR ?_))))
 refine FQ.ret2 (v:=(.int _ _)) (x:=(.int _ _)) (Bs:=[]) [] rfl rfl rfl rfl trivial ?_
 exact ⟨by simp only [*,if_true,Bool.false_eq_true,if_false]<;>rfl,rfl⟩
theorem zoh {v a n:Int} (ha:0<=a) (hn:0<=n):FnD Tryz.prog 227 [.int .u64 v,.int .i64 a,.int .i64 n] [] (.int .i64 (zjY v a n)) []:=by
 refine Fn.enter (Tryz.func227) rfl rfl (fun w0 R=>?_)
 refine sA (xai rfl (dS (TC.draw (od [1,3,5,7,9,11,13,15,17]) [] fc_m (by kernel_rfl) (xmi rfl (xmi rfl (TL.shr _ rfl rfl (by omega) rfl rfl rfl (xmi rfl (TL.shl _ rfl rfl (by omega) rfl rfl rfl ?_))))))))
 refine TL.sub _ rfl rfl (rfl) rfl rfl (TL.and _ rfl rfl rfl rfl rfl (TL.conv _ rfl zdK zaO (rfl) rfl rfl (xai rfl (dR ?_))))
 refine FQ.ret1 (v:=(.int _ _)) (Bs:=[]) [] rfl rfl rfl trivial ?_
 exact ⟨iE (by unfold zjY andU shrU shlU; rw [Int.one_mul]),rfl⟩
theorem zdu {v:Int}:FnD Tryz.prog 195 [.int .u64 v] [] (.tuple #[wdV (zae v).1,.int .i64 (if (zae v).2 then 0 else 21)]) []:=by
 refine Fn.enter (Tryz.func195) rfl rfl (fun w0 R=>?_)
 refine sA (TL.alloc 0 (cs:=#[.int .i64 0,.int .i64 0,.int .i64 0,.int .i64 0]) zb6 rfl rfl rfl (fun _=>trivial) (fun bk0=>(xai rfl (dA (xmi rfl (xD [] (zoh (by decide) (by decide)) zn2 rfl (xmi rfl (xD [] (zoh (by decide) (by decide)) zn2 rfl (xmi rfl ?_)))))))))
 refine xD [] (zoh (by decide) (by decide)) zn2 rfl (xmi rfl (TL.shr _ rfl rfl (by decide) rfl rfl rfl (TL.conv _ rfl zdK zaO (rfl) rfl rfl (TL.bld [.int .i64 0,.int .i64 0,.int .i64 0,.int .i64 0] [(.int _ _),(.int _ _),(.int _ _),(.int _ _)] [_,_,_,_] zb6 zhC ⟨rfl,rfl,rfl,rfl,trivial⟩ ⟨rfl,rfl⟩ rfl rfl (TL.alloc 1 (cs:=#[.int .i64 0,.int .i64 0,.int .i64 0,.int .i64 0]) zb6 rfl rfl rfl (fun _=>trivial) (fun bk1=>(TL.stW 1 4 [_,_,_,_] rfl rfl rfl rfl rfl rfl zaI rfl rfl trivial (dB (xL4 1 zaI rfl rfl ?_)))))))))
 refine xD [] zlU zsY rfl (TL.cases rfl (fun q1=>?_) (fun q1=>?_))
 refine xnt rfl (dF rfl (xL4 1 zaI rfl rfl (TL.stW 0 4 [_,_,_,_] rfl rfl rfl rfl rfl rfl zaI rfl rfl trivial (xai rfl (dR ?_)))))
 refine FQ.retG (rs:=[.cell 2 260,.tmp 3]) [(.agg _),(.int _ _)] (Bs:=[]) [] rfl ⟨⟨_,_,_,_,_,0,rfl,rfl,.inr ⟨4,[_,_,_,_],zaI,rfl,rfl⟩⟩,rfl,trivial⟩ rfl rfl trivial ?_
 first | exact ⟨(by have q:(zcY v).right=true:=‹(zcY v).right=true›; simp only [zae,q,if_true]; rfl),rfl⟩ | exact ⟨(by have q:(zcY v).right=false:=‹(zcY v).right=false›; simp only [zae,q,Bool.false_eq_true,if_false]; rfl),rfl⟩
 refine xnf rfl (dT rfl (TL.bld [.int .i64 0,.int .i64 0,.int .i64 0,.int .i64 0] [] [_,_,_,_] zb6 zhC trivial ⟨rfl,rfl⟩ rfl rfl (TL.stW 0 4 [_,_,_,_] rfl rfl rfl rfl rfl rfl zaI rfl rfl trivial (xai rfl (dRR ?_)))))
 refine FQ.retG (rs:=[.cell 2 260,.tmp 3]) [(.agg _),(.int _ _)] (Bs:=[]) [] rfl ⟨⟨_,_,_,_,_,0,rfl,rfl,.inr ⟨4,[_,_,_,_],zaI,rfl,rfl⟩⟩,rfl,trivial⟩ rfl rfl trivial ?_
 first | exact ⟨(by have q:(zcY v).right=true:=‹(zcY v).right=true›; simp only [zae,q,if_true]; rfl),rfl⟩ | exact ⟨(by have q:(zcY v).right=false:=‹(zcY v).right=false›; simp only [zae,q,Bool.false_eq_true,if_false]; rfl),rfl⟩
theorem zlT {p:Pen} {x o m t g:Int} {b1 b2:Nat}:FnD Tryz.prog 229 [.agg #[.int .i64 o,.int .i64 m,.int .i64 t,.int .i64 g],.pointer (some ⟨b1,0,none⟩),.pointer (some ⟨b2,0,none⟩)] [pt b1 (.cells #[.int .i64 p.thread,.int .i64 p.tag] 137),pt b2 (.cells #[.int .i64 x] 3)] (wdV (p.to x (⟨o,m,t,g⟩:Wd))) [pt b1 (.cells #[.int .i64 p.thread,.int .i64 p.tag] 137),pt b2 (.cells #[.int .i64 x] 3)]:=by
 refine Fn.enter (Tryz.func229) rfl rfl (fun w0 R=>?_)
 refine sA (xB 2 rfl (fun bk2=>(TL.alloc 3 (cs:=#[.int .i64 0,.int .i64 0,.int .i64 0,.int .i64 0]) zb6 rfl rfl rfl (fun _=>trivial) (fun bk3=>(dB (xf 2 zfc rfl (xli 2 zad rfl rfl (xf 0 zdo rfl (xli 0 zad rfl rfl (TL.neq rfl rfl rfl rfl (fun q1=>?_) (fun q1=>?_)))))))))))
 refine xmt rfl (xo rfl (xo rfl (xo rfl (xo rfl (xo rfl (xpT rfl (TL.done (TQ.then ?_))))))))
 refine TC.condT rfl (TC.region (xf 1 zcq rfl (xli 2 zad rfl rfl (xf 0 zb8 rfl (TL.st 2 #[_,_,_,_] (.int _ _) rfl rfl rfl rfl rfl rfl zad rfl rfl trivial (dA (xf 0 zb8 rfl (xli 2 zad rfl rfl ?_))))))))
 refine xli 1 zad rfl rfl (xf 0 zdo rfl (xli 0 zad rfl rfl (xf 1 zdn rfl (xli 0 zad rfl rfl (TL.bld [.int .i64 0,.int .i64 0,.int .i64 0,.int .i64 0] [(.int _ _),(.int _ _),(.int _ _),(.int _ _)] [_,_,_,_] zb6 zhC ⟨rfl,rfl,rfl,rfl,trivial⟩ ⟨rfl,rfl⟩ rfl rfl (TL.stW 3 4 [_,_,_,_] rfl rfl rfl rfl rfl rfl zaI rfl rfl trivial (dR ?_)))))))
 refine FQ.retG (rs:=[.cell 4 260]) [(.agg _)] (Bs:=[pt b1 (.cells #[.int .i64 p.thread,.int .i64 p.tag] 137),pt b2 (.cells #[.int .i64 x] 3)]) [0,1] rfl ⟨⟨_,_,_,_,_,3,rfl,rfl,.inr ⟨4,[_,_,_,_],zaI,rfl,rfl⟩⟩,trivial⟩ rfl rfl ⟨rfl,rfl,trivial⟩ ?_
 first | exact ⟨(by unfold Pen.to; dsimp only; rw [if_pos (by omega)]; rfl),rfl⟩ | exact ⟨(by unfold Pen.to; dsimp only; rw [if_neg (by omega)]; rfl),rfl⟩
 refine xmf rfl (xf 3 zfb rfl (xli 2 zad rfl rfl (xf 1 zdn rfl (xli 0 zad rfl rfl (TL.neq rfl rfl rfl rfl (fun q2=>?_) (fun q2=>?_))))))
 refine xpH rfl (TL.done (TQ.then (TC.condT rfl (TC.region (xf 1 zcq rfl (xli 2 zad rfl rfl (xf 0 zb8 rfl (TL.st 2 #[_,_,_,_] (.int _ _) rfl rfl rfl rfl rfl rfl zad rfl rfl trivial ?_))))))))
 refine dA (xf 0 zb8 rfl (xli 2 zad rfl rfl (xli 1 zad rfl rfl (xf 0 zdo rfl (xli 0 zad rfl rfl (xf 1 zdn rfl (xli 0 zad rfl rfl (TL.bld [.int .i64 0,.int .i64 0,.int .i64 0,.int .i64 0] [(.int _ _),(.int _ _),(.int _ _),(.int _ _)] [_,_,_,_] zb6 zhC ⟨rfl,rfl,rfl,rfl,trivial⟩ ⟨rfl,rfl⟩ rfl rfl ?_))))))))
 refine TL.stW 3 4 [_,_,_,_] rfl rfl rfl rfl rfl rfl zaI rfl rfl trivial (dR ?_)
 refine FQ.retG (rs:=[.cell 4 260]) [(.agg _)] (Bs:=[pt b1 (.cells #[.int .i64 p.thread,.int .i64 p.tag] 137),pt b2 (.cells #[.int .i64 x] 3)]) [0,1] rfl ⟨⟨_,_,_,_,_,3,rfl,rfl,.inr ⟨4,[_,_,_,_],zaI,rfl,rfl⟩⟩,trivial⟩ rfl rfl ⟨rfl,rfl,trivial⟩ ?_
 first | exact ⟨(by unfold Pen.to; dsimp only; rw [if_pos (by omega)]; rfl),rfl⟩ | exact ⟨(by unfold Pen.to; dsimp only; rw [if_neg (by omega)]; rfl),rfl⟩
 refine xpF rfl (dF rfl (xf 0 zb8 rfl (xli 2 zad rfl rfl (xli 1 zad rfl rfl (xf 0 zdo rfl (xli 0 zad rfl rfl (xf 1 zdn rfl (xli 0 zad rfl rfl ?_))))))))
 refine TL.bld [.int .i64 0,.int .i64 0,.int .i64 0,.int .i64 0] [(.int _ _),(.int _ _),(.int _ _),(.int _ _)] [_,_,_,_] zb6 zhC ⟨rfl,rfl,rfl,rfl,trivial⟩ ⟨rfl,rfl⟩ rfl rfl (TL.stW 3 4 [_,_,_,_] rfl rfl rfl rfl rfl rfl zaI rfl rfl trivial (dR ?_))
 refine FQ.retG (rs:=[.cell 4 260]) [(.agg _)] (Bs:=[pt b1 (.cells #[.int .i64 p.thread,.int .i64 p.tag] 137),pt b2 (.cells #[.int .i64 x] 3)]) [0,1] rfl ⟨⟨_,_,_,_,_,3,rfl,rfl,.inr ⟨4,[_,_,_,_],zaI,rfl,rfl⟩⟩,trivial⟩ rfl rfl ⟨rfl,rfl,trivial⟩ ?_
 first | exact ⟨(by unfold Pen.to; dsimp only; rw [if_pos (by omega)]; rfl),rfl⟩ | exact ⟨(by unfold Pen.to; dsimp only; rw [if_neg (by omega)]; rfl),rfl⟩
theorem ztR {S:Type} [MemLike S] {mt:TypeId} {mv:Value} {A:S->Assn} (hM:MemI Tryz.prog mt mv A) {σ:S} {p:Pen} {c x:Int} {b1 b2:Nat} (h:(zae (MemLike.get σ c)).2=false) (hz:Room (2) σ:=by exact zaC):FnD Tryz.prog 187 [.iface mt mv,.int .i64 c,.func (.func 229) #[] #[.pointer (some ⟨b1,0,none⟩),.pointer (some ⟨b2,0,none⟩)]] [A σ,pt b1 (.cells #[.int .i64 p.thread,.int .i64 p.tag] 137),pt b2 (.cells #[.int .i64 x] 3)] (.tuple #[]) [A (MemLike.ld σ c),pt b1 (.cells #[.int .i64 p.thread,.int .i64 p.tag] 137),pt b2 (.cells #[.int .i64 x] 3)]:=by
 refine Fn.enter (Tryz.func187) rfl rfl (fun w0 R=>?_)
 refine sA (xmc rfl (xmi rfl (TL.mload 0 hM rfl rfl rfl rfl rfl trivial (xD [] zdu zfH rfl (xmu rfl (TL.ext (.agg _) rfl rfl rfl rfl (xei rfl rfl (TL.alloc 3 (cs:=#[.int .i64 0,.int .i64 0,.int .i64 0,.int .i64 0]) zb6 rfl rfl rfl (fun _=>trivial) (fun bk3=>?_)))))))))
 refine TL.stW 3 4 [_,_,_,_] rfl rfl rfl rfl rfl rfl zaI rfl rfl trivial (xai rfl (dB (xmi rfl (TL.neqT rfl rfl (by rw [h]; decide) rfl rfl (TL.done (TQ.then (TC.condT rfl (TC.ret ?_))))))))
 refine TQ.thenRet ?_
 refine FQ.ret0 (Bs:=[A (MemLike.ld σ c),pt b1 (.cells #[.int .i64 p.thread,.int .i64 p.tag] 137),pt b2 (.cells #[.int .i64 x] 3)]) [0,1,2] rfl rfl ⟨rfl,rfl,rfl,trivial⟩ ?_
 exact ⟨rfl,rfl⟩
theorem ztQ {S:Type} [MemLike S] {mt:TypeId} {mv:Value} {A:S->Assn} (hM:MemI Tryz.prog mt mv A) {σ:S} {p:Pen} {c x:Int} {b1 b2:Nat} (h:(zae (MemLike.get σ c)).2=true) (h2:(p.to x (zae (MemLike.get σ c)).1).right=false) (hz:Room (2) σ:=by exact zaC):FnD Tryz.prog 187 [.iface mt mv,.int .i64 c,.func (.func 229) #[] #[.pointer (some ⟨b1,0,none⟩),.pointer (some ⟨b2,0,none⟩)]] [A σ,pt b1 (.cells #[.int .i64 p.thread,.int .i64 p.tag] 137),pt b2 (.cells #[.int .i64 x] 3)] (.tuple #[]) [A (MemLike.ld σ c),pt b1 (.cells #[.int .i64 p.thread,.int .i64 p.tag] 137),pt b2 (.cells #[.int .i64 x] 3)]:=by
 refine Fn.enter (Tryz.func187) rfl rfl (fun w0 R=>?_)
 refine sA (xmc rfl (xmi rfl (TL.mload 0 hM rfl rfl rfl rfl rfl trivial (xD [] zdu zfH rfl (xmu rfl (TL.ext (.agg _) rfl rfl rfl rfl (xei rfl rfl (TL.alloc 3 (cs:=#[.int .i64 0,.int .i64 0,.int .i64 0,.int .i64 0]) zb6 rfl rfl rfl (fun _=>trivial) (fun bk3=>?_)))))))))
 refine TL.stW 3 4 [_,_,_,_] rfl rfl rfl rfl rfl rfl zaI rfl rfl trivial (xai rfl (dB (xmi rfl (TL.neqF rfl rfl (by rw [h]; decide) rfl rfl (dF rfl (TL.mv (.func _ _ _) rfl rfl rfl (xL4 3 zaI rfl rfl (TL.callC (c1:=[]) (c2:=[_,_]) (vs:=[_]) [1,2] [1,2] rfl zlT ⟨rfl,trivial⟩ ⟨rfl,rfl,trivial⟩ zsX rfl rfl rfl rfl rfl trivial ?_))))))))
 refine xD [] zk2 zlC rfl (xmu rfl (xei rfl rfl (xei rfl rfl (xai rfl (xai rfl (dA (xmi rfl (TL.eqlF rfl rfl (by rw [h2]; decide) rfl rfl ?_))))))))
 refine TL.done (TQ.then (TC.condF rfl (TC.skip ?_)))
 refine FQ.end0 (Bs:=[A (MemLike.ld σ c),pt b1 (.cells #[.int .i64 p.thread,.int .i64 p.tag] 137),pt b2 (.cells #[.int .i64 x] 3)]) [0,1,2] rfl rfl ⟨rfl,rfl,rfl,trivial⟩ ?_
 exact ⟨rfl,rfl⟩
theorem ztP {S:Type} [MemLike S] {mt:TypeId} {mv:Value} {A:S->Assn} (hM:MemI Tryz.prog mt mv A) {σ:S} {p:Pen} {c x:Int} {b1 b2:Nat} (h:(zae (MemLike.get σ c)).2=true) (h2:(p.to x (zae (MemLike.get σ c)).1).right=true) (hz:Room (2) σ:=by exact zaC):FnD Tryz.prog 187 [.iface mt mv,.int .i64 c,.func (.func 229) #[] #[.pointer (some ⟨b1,0,none⟩),.pointer (some ⟨b2,0,none⟩)]] [A σ,pt b1 (.cells #[.int .i64 p.thread,.int .i64 p.tag] 137),pt b2 (.cells #[.int .i64 x] 3)] (.tuple #[]) [A (MemLike.st (MemLike.ld σ c) c (p.to x (zae (MemLike.get σ c)).1).pack),pt b1 (.cells #[.int .i64 p.thread,.int .i64 p.tag] 137),pt b2 (.cells #[.int .i64 x] 3)]:=by
 refine Fn.enter (Tryz.func187) rfl rfl (fun w0 R=>?_)
 refine sA (xmc rfl (xmi rfl (TL.mload 0 hM rfl rfl rfl rfl rfl trivial (xD [] zdu zfH rfl (xmu rfl (TL.ext (.agg _) rfl rfl rfl rfl (xei rfl rfl (TL.alloc 3 (cs:=#[.int .i64 0,.int .i64 0,.int .i64 0,.int .i64 0]) zb6 rfl rfl rfl (fun _=>trivial) (fun bk3=>?_)))))))))
 refine TL.stW 3 4 [_,_,_,_] rfl rfl rfl rfl rfl rfl zaI rfl rfl trivial (xai rfl (dB (xmi rfl (TL.neqF rfl rfl (by rw [h]; decide) rfl rfl (dF rfl (TL.mv (.func _ _ _) rfl rfl rfl (xL4 3 zaI rfl rfl (TL.callC (c1:=[]) (c2:=[_,_]) (vs:=[_]) [1,2] [1,2] rfl zlT ⟨rfl,trivial⟩ ⟨rfl,rfl,trivial⟩ zsX rfl rfl rfl rfl rfl trivial ?_))))))))
 refine xD [] zk2 zlC rfl (xmu rfl (xei rfl rfl (xei rfl rfl (xai rfl (xai rfl (dA (xmi rfl (TL.eqlT rfl rfl (by rw [h2]; decide) rfl rfl ?_))))))))
 refine TL.done (TQ.then (TC.condT rfl (TC.region (xmc rfl (xmi rfl (xmi rfl (TL.mstore 0 hM rfl rfl rfl (by rw [h2]; exact zby _ _) rfl rfl rfl trivial (TL.done ?_))))))))
 refine FQ.end0 (Bs:=[A _,pt b1 (.cells #[.int .i64 p.thread,.int .i64 p.tag] 137),pt b2 (.cells #[.int .i64 x] 3)]) [0,1,2] rfl rfl ⟨rfl,rfl,rfl,trivial⟩ ?_
 exact ⟨rfl,by rw [h2]; rfl⟩
theorem ztS {S:Type} [MemLike S] {mt:TypeId} {mv:Value} {A:S->Assn} (hM:MemI Tryz.prog mt mv A) {σ:S} {p:Pen} {c x:Int} {b1 b2:Nat} (hz:Room 2 σ:=by exact zaC):FnD Tryz.prog 187 [.iface mt mv,.int .i64 c,.func (.func 229) #[] #[.pointer (some ⟨b1,0,none⟩),.pointer (some ⟨b2,0,none⟩)]] [A σ,pt b1 (.cells #[.int .i64 p.thread,.int .i64 p.tag] 137),pt b2 (.cells #[.int .i64 x] 3)] (.tuple #[]) [A (p.write σ c x),pt b1 (.cells #[.int .i64 p.thread,.int .i64 p.tag] 137),pt b2 (.cells #[.int .i64 x] 3)]:=by
 unfold Pen.write
 cases h:(zae (MemLike.get σ c)).2
 ·exact ztR hM h
 ·rw [if_pos rfl]
  cases h2:(p.to x (zae (MemLike.get σ c)).1).right
  ·exact ztQ hM h h2
  ·exact ztP hM h h2
theorem zkG {S:Type} [MemLike S] {mt:TypeId} {mv:Value} {A:S->Assn} (hM:MemI Tryz.prog mt mv A) {σ:S} {p:Pen} {c x:Int} (hz:Room (2) σ:=by exact zaC):FnD Tryz.prog 197 [.agg #[.int .i64 p.thread,.int .i64 p.tag],.iface mt mv,.int .i64 c,.int .i64 x] [A σ] (.tuple #[]) [A (p.write σ c x)]:=by
 refine Fn.enter (Tryz.func197) rfl rfl (fun w0 R=>?_)
 refine sA (xB 1 rfl (fun bk1=>(TL.box1 2 (.int _ _) rfl rfl rfl rfl (fun _=>trivial) (fun bk2=>(dG (xmc rfl (xmi rfl (TL.mf (xs:=[]) (ys:=[_,_]) [] [_,_] trivial ⟨rfl,rfl,trivial⟩ rfl rfl (xD [0,1,2] (ztS hM) zte rfl (TL.done ?_))))))))))
 refine FQ.end0 (Bs:=[A (p.write σ c x)]) [0] rfl rfl ⟨rfl,trivial⟩ ?_
 exact ⟨rfl,rfl⟩
theorem zrS {S:Type} [MemLike S] {mt:TypeId} {mv:Value} {A:S->Assn} (hM:MemI Tryz.prog mt mv A) {σ:S} {c:Int} (hz:Room (1) σ:=by exact zaC):FnD Tryz.prog 198 [.iface mt mv,.int .i64 c] [A σ] (.int .i64 (pnew σ c)) [A (MemLike.ld σ c)]:=by
 refine Fn.enter (Tryz.func198) rfl rfl (fun w0 R=>?_)
 refine sA (xai rfl (dA (xmc rfl (xmi rfl (TL.mload 0 hM rfl rfl rfl rfl rfl trivial (xD [] zdu zfH rfl (xmu rfl (TL.ext (.agg _) rfl rfl rfl rfl ?_))))))))
 refine xei rfl rfl (TL.alloc 1 (cs:=#[.int .i64 0,.int .i64 0,.int .i64 0,.int .i64 0]) zb6 rfl rfl rfl (fun _=>trivial) (fun bk1=>(TL.stW 1 4 [_,_,_,_] rfl rfl rfl rfl rfl rfl zaI rfl rfl trivial (xai rfl (dA (xf 1 zcq rfl (xli 1 zad rfl rfl (xai rfl (dR ?_)))))))))
 refine FQ.ret1 (v:=(.int _ _)) (Bs:=[A (MemLike.ld σ c)]) [0] rfl rfl rfl ⟨rfl,trivial⟩ ?_
 exact ⟨rfl,rfl⟩
theorem zd0 {S:Type} [MemLike S] {mt:TypeId} {mv:Value} {A:S->Assn} (hM:MemI Tryz.prog mt mv A) {l:Lay} (hl:l.Ok) {p:Pen} {σ:S} {x f:Int} (hz:Room (1) σ:=by exact zaC):FnD Tryz.prog 250 [zbw l mt mv p,.int .i64 x,.int .i64 f] [A σ] (.int .i64 (tget l σ x f)) [A (zdO l σ x f)]:=by
 refine Fn.enter (Tryz.func250) rfl rfl (fun w0 R=>?_)
 refine sA (xB 1 rfl (fun bk1=>(xai rfl (dS (TC.draw (od [1,3,5,7,9,11,15,17,12,18,21,23]) [1] fc_m (by kernel_rfl) (xf 3 zbf rfl (xlc 1 zbv rfl rfl (xf 0 zaH rfl (xL3 1 zab rfl rfl ?_)))))))))
 refine xmi rfl (xmi rfl (TL.ncI rfl rfl rfl (xmc rfl (xd [] (zaV hl) zbQ rfl (kL1 rfl trivial) (TL.mload 0 hM rfl rfl rfl rfl rfl (kL1 rfl trivial) (TL.conv _ rfl zdK zaO (rfl) rfl rfl (xai rfl (dR ?_))))))))
 refine FQ.ret1 (v:=(.int _ _)) (Bs:=[A _]) [0] rfl rfl rfl ⟨rfl,trivial⟩ ?_
 exact ⟨rfl,rfl⟩
theorem zkM {S:Type} [MemLike S] {mt:TypeId} {mv:Value} {A:S->Assn} (hM:MemI Tryz.prog mt mv A) {l:Lay} (hl:l.Ok) {p:Pen} {σ:S} {x f v:Int} (hz:Room (1) σ:=by exact zaC):FnD Tryz.prog 184 [zbw l mt mv p,.int .i64 x,.int .i64 f,.int .i64 v] [A σ] (.tuple #[]) [A (tput l σ x f v)]:=by
 refine Fn.enter (Tryz.func184) rfl rfl (fun w0 R=>?_)
 refine sA (xB 1 rfl (fun bk1=>(TL.done (TQ.then (TC.draw (od [1,3,5,7,9,11,15,17,19,21,12,22]) [1] fc_m (by kernel_rfl) (xf 3 zbf rfl (xlc 1 zbv rfl rfl (xf 0 zaH rfl (xL3 1 zab rfl rfl ?_)))))))))
 refine xmi rfl (xmi rfl (xmi rfl (TL.conv _ rfl zf9 zbs (rfl) rfl rfl (TL.ncI rfl rfl rfl (xmc rfl (xd [] (zaV hl) zbQ rfl (kL1 rfl trivial) (TL.mstore 0 hM rfl rfl rfl (by first | exact zcR _ | exact zby _ _ | exact MemLike.rng _ _ | decide | assumption) rfl rfl rfl (kL1 rfl trivial) (TL.done ?_))))))))
 refine FQ.end0 (Bs:=[A _]) [0] rfl rfl ⟨rfl,trivial⟩ ?_
 exact ⟨rfl,rfl⟩
theorem zoG {mt:TypeId} {mv:Value} {l:Lay} (hl:l.Ok) {p:Pen} {x:Int}:FnD Tryz.prog 221 [zbw l mt mv p,.int .i64 x] [] (.bool (zb3 l x)) []:=by
 refine Fn.enter (Tryz.func221) rfl rfl (fun w0 R=>?_)
 refine sA (xB 0 rfl (fun bk0=>(xaf rfl (dA (xf 0 zaH rfl (xL3 0 zab rfl rfl (xmi rfl (xD [] (zht hl) zkt rfl (xmu rfl ?_)))))))))
 refine TL.ext (.agg _) rfl rfl rfl rfl (TL.ext (.bool _) rfl rfl rfl rfl (TL.alloc 1 (cs:=#[.bool false,.int .i64 0,.int .i64 0,.int .i64 0,.int .i64 0]) zgf rfl rfl rfl (fun _=>trivial) (fun bk1=>(TL.stW 1 5 [_,_,_,_,_] rfl rfl rfl rfl rfl rfl zcL rfl rfl trivial (xab rfl (dA (xf 1 zhH rfl (xli 1 zad rfl rfl (TL.eqlV rfl rfl rfl rfl ?_)))))))))
 refine xab rfl (dR ?_)
 refine FQ.ret1 (v:=(.bool _)) (Bs:=[]) [] rfl rfl rfl trivial ?_
 exact ⟨rfl,rfl⟩
theorem zeD {S:Type} [MemLike S] {mt:TypeId} {mv:Value} {A:S->Assn} (hM:MemI Tryz.prog mt mv A) {l:Lay} (hl:l.Ok) {p:Pen} {σ:S} {x:Int} (hz:Room (1) σ:=by exact zaC):FnD Tryz.prog 223 [zbw l mt mv p,.int .i64 x] [A σ] (.int .i64 (parent l σ x)) [A (zcB l σ x)]:=by
 refine Fn.enter (Tryz.func223) rfl rfl (fun w0 R=>?_)
 refine sA (xB 1 rfl (fun bk1=>(xai rfl (dB (xL6 1 zaa rfl rfl (xmi rfl (xD [] (zoG hl) zsZ rfl (TL.cases rfl (fun q1=>?_) (fun q1=>?_)))))))))
 refine TL.done (TQ.then (TC.condT rfl (TC.seq (TC.draw (od [1,3,5,7,9,10,12,15]) [1] fc_m (by kernel_rfl) (xf 3 zbf rfl (xlc 1 zbv rfl rfl (xf 0 zaH rfl (xL3 1 zab rfl rfl ?_))))))))
 refine xmi rfl (xd [] (zaV hl) zbQ rfl (kL1 rfl trivial) (xd [0] (zrS hM) zn4 rfl (kL1 rfl trivial) (xai rfl (dRR ?_))))
 refine FQ.ret1 (v:=(.int _ _)) (Bs:=[A _]) [0] rfl rfl rfl ⟨rfl,trivial⟩ ?_
 exact ⟨(by simp only [parent, *,if_true,Bool.false_eq_true,if_false]),rfl⟩
 refine dF rfl (xL6 1 zaa rfl rfl (xmi rfl (xD [0] (zd0 hM hl) zeb rfl (xai rfl (dR ?_)))))
 refine FQ.ret1 (v:=(.int _ _)) (Bs:=[A _]) [0] rfl rfl rfl ⟨rfl,trivial⟩ ?_
 exact ⟨(by simp only [parent, *,if_true,Bool.false_eq_true,if_false]),rfl⟩
theorem zjc {S:Type} [MemLike S] {mt:TypeId} {mv:Value} {A:S->Assn} (hM:MemI Tryz.prog mt mv A) {l:Lay} (hl:l.Ok) {p:Pen} {σ:S} {x q:Int} (hz:Room (2) σ:=by exact zaC):FnD Tryz.prog 185 [zbw l mt mv p,.int .i64 x,.int .i64 q] [A σ] (.tuple #[]) [A (hang l p σ x q)]:=by
 refine Fn.enter (Tryz.func185) rfl rfl (fun w0 R=>?_)
 refine sA (xB 1 rfl (fun bk1=>(dK (sA (xmi rfl (TL.eql rfl rfl rfl rfl (fun q1=>?_) (fun q1=>?_)))))))
 refine xat rfl (TL.done (TQ.then (TC.condT rfl (TC.skip (TQ.inBlock ?_)))))
 refine FQ.end0 (Bs:=[A _]) [0] rfl rfl ⟨rfl,trivial⟩ ?_
 first | exact ⟨rfl,(by simp only [hang, *,if_true,Bool.false_eq_true,if_false])⟩ | exact ⟨rfl,(by simp only [hang]; rw [if_pos (by assumption)])⟩
 refine xaf rfl (TL.done (TQ.then (TC.condF rfl (sA (xL6 1 zaa rfl rfl (xmi rfl (xD [] (zoG hl) zsZ rfl (TL.cases rfl (fun q2=>?_) (fun q2=>?_)))))))))
 refine xat rfl (TL.done (TQ.then (TC.condT rfl (TC.draw (od [1,3,5,7,9,11,13,17,14,18]) [1] fc_m (by kernel_rfl) (xf 4 zjn rfl (xL2 1 za9 rfl rfl (xf 3 zbf rfl (xlc 1 zbv rfl rfl ?_))))))))
 refine xf 0 zaH rfl (xL3 1 zab rfl rfl (xmi rfl (xmi rfl (xd [] (zaV hl) zbQ rfl (kL1 rfl trivial) (xd [0] (zkG hM) zn5 rfl (kL1 rfl trivial) (TL.done (TQ.inBlock ?_)))))))
 refine FQ.end0 (Bs:=[A _]) [0] rfl rfl ⟨rfl,trivial⟩ ?_
 first | exact ⟨rfl,(by simp only [hang, *,if_true,Bool.false_eq_true,if_false])⟩ | exact ⟨rfl,(by simp only [hang]; rw [if_pos (by assumption)])⟩
 refine xaf rfl (TL.done (TQ.then (TC.condF rfl (TC.region (xL6 1 zaa rfl rfl (xmi rfl (xmi rfl (xD [0] (zkM hM hl) zlE rfl ?_))))))))
 refine TL.done (TQ.inBlock ?_)
 refine FQ.end0 (Bs:=[A _]) [0] rfl rfl ⟨rfl,trivial⟩ ?_
 first | exact ⟨rfl,(by simp only [hang, *,if_true,Bool.false_eq_true,if_false])⟩ | exact ⟨rfl,(by simp only [hang]; rw [if_pos (by assumption)])⟩
theorem ziJ {S:Type} [MemLike S] {mt:TypeId} {mv:Value} {A:S->Assn} (hM:MemI Tryz.prog mt mv A) {l:Lay} (hl:l.Ok) {p:Pen} {σ:S} {x:Int} (hz:Room (1) σ:=by exact zaC):FnD Tryz.prog 276 [zbw l mt mv p,.int .i64 x] [A σ] (.int .u64 (tsum l σ x)) [A (zb2 l σ x)]:=by
 refine Fn.enter (Tryz.func276) rfl rfl (fun w0 R=>?_)
 refine sA (xB 1 rfl (fun bk1=>(xai rfl (dB (xmi rfl (TL.eql rfl rfl rfl rfl (fun q1=>?_) (fun q1=>?_)))))))
 refine dT rfl (xai rfl (dRR ?_))
 refine FQ.ret1 (v:=(.int _ _)) (Bs:=[A _]) [0] rfl rfl rfl ⟨rfl,trivial⟩ ?_
 first | exact ⟨(by simp only [tsum]; rw [if_pos (by assumption)]),(by simp only [zb2]; rw [if_pos (by assumption)])⟩ | exact ⟨(by simp only [tsum]; rw [if_neg (by assumption)]),(by simp only [zb2]; rw [if_neg (by assumption)])⟩
 refine TL.done (TQ.then (TC.condF rfl (TC.skip (TQ.then (TC.seq (TC.draw (od [1,3,5,7,9,13,15,10,16,19]) [1] fc_m (by kernel_rfl) (xf 3 zbf rfl (xlc 1 zbv rfl rfl ?_))))))))
 refine xf 0 zaH rfl (xL3 1 zab rfl rfl (xmi rfl (TL.ncI rfl rfl rfl (xmc rfl (xd [] (zaV hl) zbQ rfl (kL1 rfl trivial) (TL.mload 0 hM rfl rfl rfl rfl rfl (kL1 rfl trivial) (xai rfl (dR ?_))))))))
 refine FQ.ret1 (v:=(.int _ _)) (Bs:=[A _]) [0] rfl rfl rfl ⟨rfl,trivial⟩ ?_
 first | exact ⟨(by simp only [tsum]; rw [if_pos (by assumption)]),(by simp only [zb2]; rw [if_pos (by assumption)])⟩ | exact ⟨(by simp only [tsum]; rw [if_neg (by assumption)]),(by simp only [zb2]; rw [if_neg (by assumption)])⟩
theorem ztE {v:Int}:FnD Tryz.prog 277 [.int .u64 v] [] (.int .u64 (zpz v)) []:=by
 refine Fn.enter (Tryz.func277) rfl rfl (fun w0 R=>?_)
 refine sA (xai rfl (dA (xmi rfl (TL.and _ rfl rfl rfl rfl rfl (xai rfl (dR ?_))))))
 refine FQ.ret1 (v:=(.int _ _)) (Bs:=[]) [] rfl rfl rfl trivial ?_
 exact ⟨rfl,rfl⟩
theorem zr2 {mt:TypeId} {mv:Value} {l:Lay} (hl:l.Ok) {p:Pen} {x m:Int}:FnD Tryz.prog 186 [zbw l mt mv p,.int .i64 x,.int .u64 m] [] (.int .u64 (zfr l x m)) []:=by
 refine Fn.enter (Tryz.func186) rfl rfl (fun w0 R=>?_)
 refine sA (xB 0 rfl (fun bk0=>(xai rfl (dA (xmi rfl (TL.shl _ rfl rfl (by decide) rfl rfl rfl (TL.or _ rfl rfl rfl rfl rfl (xmi rfl (TL.shl _ rfl rfl (by decide) rfl rfl rfl ?_)))))))))
 refine TL.or _ rfl rfl rfl rfl rfl (xai rfl (dB (xf 0 zaH rfl (xL3 0 zab rfl rfl (xmi rfl (xD [] (zht hl) zkt rfl (xmu rfl (TL.ext (.agg _) rfl rfl rfl rfl ?_))))))))
 refine TL.ext (.bool _) rfl rfl rfl rfl (TL.alloc 1 (cs:=#[.bool false,.int .i64 0,.int .i64 0,.int .i64 0,.int .i64 0]) zgf rfl rfl rfl (fun _=>trivial) (fun bk1=>(TL.stW 1 5 [_,_,_,_,_] rfl rfl rfl rfl rfl rfl zcL rfl rfl trivial (xab rfl (dA (xf 0 zkp rfl (xlb 1 zdb rfl rfl (TL.not _ _ rfl rfl rfl rfl (TL.done ?_)))))))))
 refine TQ.then (TC.cond rfl (fun q1=>?_) (fun q1=>?_))
 refine TC.region (xmi rfl (TL.or _ rfl rfl rfl rfl rfl (xai rfl (dA (xmi rfl (xai rfl (dR ?_)))))))
 refine FQ.ret1 (v:=(.int _ _)) (Bs:=[]) [] rfl rfl rfl trivial ?_
 first | exact ⟨(by have q:(l.node x).1.arc=false:=(by simpa using ‹(!(l.node x).1.arc)=true›); simp only [zfr,q,Bool.false_eq_true,if_false]; rfl),rfl⟩ | exact ⟨(by have q:(l.node x).1.arc=true:=(by simpa using ‹(!(l.node x).1.arc)=false›); simp only [zfr,q,if_true]; rfl),rfl⟩
 refine TC.skip (TQ.then (sA (xmi rfl (xai rfl (dR ?_)))))
 refine FQ.ret1 (v:=(.int _ _)) (Bs:=[]) [] rfl rfl rfl trivial ?_
 first | exact ⟨(by have q:(l.node x).1.arc=false:=(by simpa using ‹(!(l.node x).1.arc)=true›); simp only [zfr,q,Bool.false_eq_true,if_false]; rfl),rfl⟩ | exact ⟨(by have q:(l.node x).1.arc=true:=(by simpa using ‹(!(l.node x).1.arc)=false›); simp only [zfr,q,if_true]; rfl),rfl⟩
theorem zgM {S:Type} [MemLike S] {mt:TypeId} {mv:Value} {A:S->Assn} (hM:MemI Tryz.prog mt mv A) {l:Lay} (hl:l.Ok) {p:Pen} {σ:S} {x m:Int} (hz:Room (5) σ:=by exact zaC):FnD Tryz.prog 260 [zbw l mt mv p,.int .i64 x,.int .u64 m] [A σ] (.tuple #[]) [A (zeZ l σ x m)]:=by
 refine Fn.enter (Tryz.func260) rfl rfl (fun w0 R=>?_)
 refine sA (xB 1 rfl (fun bk1=>(dA (xL6 1 zaa rfl rfl (xmi rfl (xmi rfl (xD [] (zr2 hl) ztf rfl (xai rfl (dB ?_)))))))))
 refine TL.bldA [.int .i64 0,.int .i64 0] [(.int _ _),(.int _ _)] [_,_] zsI zdT ⟨rfl,rfl,trivial⟩ ⟨rfl,rfl⟩ rfl rfl (xmi rfl (dK (TC.loopK (X:=Nat) [1,3,14] [1] (fun i=>[(6,.int .u64 (zca l σ x m i).1),(15,.int .i64 (i:Int))]) (fun i=>[(0,A (zca l σ x m i).2)]) (fun i=>i<=2) (fun i=>2 - i) (0) (by decide) ⟨rfl,rfl,trivial⟩ ⟨rfl,trivial⟩ (fun i hI=>(TC.sub (env':=[(6,_),(15,_),(1,_),(3,_),(14,_)]) (L':=[(0,_),(1,_)]) ⟨rfl,rfl,rfl,rfl,rfl,trivial⟩ ⟨rfl,rfl,trivial⟩ (sA (TL.lss rfl rfl rfl rfl (fun q1=>?_) (fun q1=>?_))))))))
 refine dS (TC.condT rfl (TC.skip (TQ.then (TC.seq (TC.block (sA (TL.ixA (.int .i64 (3+(i:Int))) rfl rfl zdT zad (by omega) (by omega) (by have:i=0\/i=1:=(by omega); rcases this with rfl | rfl<;>rfl) rfl rfl (xai rfl ?_))))))))
 refine dS (TC.draw (od [1,3,5,7,8,10,13]) [1] fc_m (by kernel_rfl) (xL6 1 zaa rfl rfl (xL6 1 zaa rfl rfl (xmi rfl (xmi rfl (xd [0] (zd0 hM hl) zeb rfl (kL1 rfl trivial) (xd [0] (ziJ hM hl) zjt rfl (kL1 rfl trivial) (xai rfl ?_))))))))
 refine dG (xmi rfl (xmi rfl (xD [] ztE zx4 rfl (TL.add _ rfl rfl (rfl) rfl rfl (xmi rfl (TL.shr _ rfl rfl (by decide) rfl rfl rfl (TL.and _ rfl rfl rfl rfl rfl (TL.shl _ rfl rfl (by decide) rfl rfl rfl ?_))))))))
 refine TL.or _ rfl rfl rfl rfl rfl (xai rfl (dI (TL.add _ rfl rfl (wr64 (by omega)) rfl rfl (xmi rfl (TL.done (TQ.roundK (i+1) ⟨by omega,by omega⟩ ⟨rfl,rfl,trivial⟩ ⟨rfl,trivial⟩ (kE3 rfl rfl rfl trivial) (kL1 rfl trivial)))))))
 refine dS (TC.condF rfl (TC.exit (TQ.thenExit (TQ.thenExit (TQ.blockHere (TQ.then (TC.draw (od [1,3,5,7,9,13,15,17,10,18]) [1] fc_m (by kernel_rfl) (xf 3 zbf rfl ?_))))))))
 refine xlc 1 zbv rfl rfl (xf 0 zaH rfl (xL3 1 zab rfl rfl (xmi rfl (xmi rfl (TL.ncI rfl rfl rfl (xmc rfl (xd [] (zaV hl) zbQ rfl (kL1 rfl trivial) (TL.mstore 0 hM rfl rfl rfl (zp6 _ _ _ _ _) rfl rfl rfl (kL1 rfl trivial) ?_))))))))
 refine TL.done ?_
 refine FQ.end0 (Bs:=[A _]) [0] rfl rfl ⟨rfl,trivial⟩ ?_
 obtain rfl:i=2:=by omega
 refine ⟨rfl,?_⟩
 unfold zeZ
 rfl
theorem zfX {S:Type} [MemLike S] {mt:TypeId} {mv:Value} {A:S->Assn} (hM:MemI Tryz.prog mt mv A) {l:Lay} (hl:l.Ok) {p:Pen} {σ:S} {x:Int} (hz:Room (1) σ:=by exact zaC):FnD Tryz.prog 259 [zbw l mt mv p,.int .i64 x] [A σ] (.int .u64 (marks l σ x)) [A (zfB l σ x)]:=by
 refine Fn.enter (Tryz.func259) rfl rfl (fun w0 R=>?_)
 refine sA (xB 1 rfl (fun bk1=>(xai rfl (dA (xL6 1 zaa rfl rfl (xmi rfl (xD [0] (ziJ hM hl) zjt rfl (TL.shr _ rfl rfl (by decide) rfl rfl rfl (TL.and _ rfl rfl rfl rfl rfl ?_)))))))))
 refine xai rfl (dR ?_)
 refine FQ.ret1 (v:=(.int _ _)) (Bs:=[A _]) [0] rfl rfl rfl ⟨rfl,trivial⟩ ?_
 exact ⟨rfl,rfl⟩
theorem zhh {S:Type} [MemLike S] {mt:TypeId} {mv:Value} {A:S->Assn} (hM:MemI Tryz.prog mt mv A) {l:Lay} (hl:l.Ok) {p:Pen} {σ:S} {x:Int} (hz:Room (5) σ:=by exact zaC):FnD Tryz.prog 147 [zbw l mt mv p,.int .i64 x] [A σ] (.tuple #[]) [A (alone l p σ x)]:=by
 refine Fn.enter (Tryz.func147) rfl rfl (fun w0 R=>?_)
 refine sA (xB 1 rfl (fun bk1=>(dA (xL6 1 zaa rfl rfl (xmi rfl (xD [0] (zkM hM hl) zlE rfl (dA (xL6 1 zaa rfl rfl (xmi rfl ?_)))))))))
 refine xD [0] (zkM hM hl) zlE rfl (dA (xL6 1 zaa rfl rfl (xmi rfl (xD [0] (zjc hM hl) zjx rfl (TL.done (TQ.then (TC.draw (od [1,3,5,7,9,13,15,19,21,10,16,22]) [1] fc_m (by kernel_rfl) (xf 3 zbf rfl ?_))))))))
 refine xlc 1 zbv rfl rfl (xf 0 zaH rfl (xL3 1 zab rfl rfl (xmi rfl (xL6 1 zaa rfl rfl (xmi rfl (TL.ncI rfl rfl rfl (xmc rfl (xd [] (zaV hl) zbQ rfl (kL1 rfl trivial) ?_))))))))
 refine xd [] (zr2 hl) ztf rfl (kL1 rfl trivial) (TL.mstore 0 hM rfl rfl rfl (by first | exact zpb _ _ _) rfl rfl rfl (kL1 rfl trivial) (TL.done ?_))
 refine FQ.end0 (Bs:=[A _]) [0] rfl rfl ⟨rfl,trivial⟩ ?_
 exact ⟨rfl,rfl⟩
theorem zkQ {S:Type} [MemLike S] {mt:TypeId} {mv:Value} {A:S->Assn} (hM:MemI Tryz.prog mt mv A) {l:Lay} (hl:l.Ok) {p:Pen} {σ:S} {x:Int} (hz:Room (1) σ:=by exact zaC):FnD Tryz.prog 261 [zbw l mt mv p,.int .i64 x] [A σ] (.int .i64 (size l σ x)) [A (zb2 l σ x)]:=by
 refine Fn.enter (Tryz.func261) rfl rfl (fun w0 R=>?_)
 refine sA (xB 1 rfl (fun bk1=>(xai rfl (dA (xL6 1 zaa rfl rfl (xmi rfl (xD [0] (ziJ hM hl) zjt rfl (TL.and _ rfl rfl rfl rfl rfl (TL.conv _ rfl zdK zaO (rfl) rfl rfl ?_)))))))))
 refine xai rfl (dR ?_)
 refine FQ.ret1 (v:=(.int _ _)) (Bs:=[A _]) [0] rfl rfl rfl ⟨rfl,trivial⟩ ?_
 exact ⟨rfl,rfl⟩
theorem zuo {S:Type} [MemLike S] {mt:TypeId} {mv:Value} {A:S->Assn} (hM:MemI Tryz.prog mt mv A) {l:Lay} (hl:l.Ok) {p:Pen} {σ:S} {x:Int} (hz:Room (1) σ:=by exact zaC):FnD Tryz.prog 263 [zbw l mt mv p,.int .i64 x] [A σ] (.int .i64 (verts l σ x)) [A (zb2 l σ x)]:=by
 refine Fn.enter (Tryz.func263) rfl rfl (fun w0 R=>?_)
 refine sA (xB 1 rfl (fun bk1=>(xai rfl (dA (xL6 1 zaa rfl rfl (xmi rfl (xD [0] (ziJ hM hl) zjt rfl (TL.shr _ rfl rfl (by decide) rfl rfl rfl (TL.and _ rfl rfl rfl rfl rfl ?_)))))))))
 refine TL.conv _ rfl zdK zaO (rfl) rfl rfl (xai rfl (dR ?_))
 refine FQ.ret1 (v:=(.int _ _)) (Bs:=[A _]) [0] rfl rfl rfl ⟨rfl,trivial⟩ ?_
 exact ⟨rfl,rfl⟩
theorem zeY {S:Type} [MemLike S] {mt:TypeId} {mv:Value} {A:S->Assn} (hM:MemI Tryz.prog mt mv A) {l:Lay} (hl:l.Ok) {p:Pen} {σ:S} {x r:Int} {k:Nat} {σ2:S} (h:root l k σ x=some (r,σ2)) (hz:Room (k) σ:=by exact zaC):FnD Tryz.prog 190 [zbw l mt mv p,.int .i64 x] [A σ] (.int .i64 r) [A σ2]:=by
 refine Fn.enter (Tryz.func190) rfl rfl (fun w0 R=>?_)
 refine sA (xB 1 rfl (fun bk1=>(xai rfl (dS (TC.block (TC.loopK (X:=Nat×S×Int) [2,4] [1] (fun y=>[(1,.int .i64 y.2.2)]) (fun y=>[(0,A y.2.1)]) (fun y=>root l y.1 y.2.1 y.2.2=some (r,σ2)/\Room (y.1) y.2.1) (fun y=>y.1) ((k,σ,x)) ⟨h,zaC⟩ ⟨rfl,trivial⟩ ⟨rfl,trivial⟩ (fun y hI=>?_)))))))
 obtain ⟨k,σ1,z⟩:=y
 obtain ⟨hI,hzI⟩:=hI
 rcases k with _ | k
 ·simp [root] at hI
 dsimp only at hI hzI
 refine TC.sub (env':=[(1,_),(2,_),(4,_)]) (L':=[(0,_),(1,_)]) ⟨rfl,rfl,rfl,trivial⟩ ⟨rfl,rfl,trivial⟩ (sB (xmi rfl (TL.neq rfl rfl rfl rfl (fun q1=>?_) (fun q1=>?_))))
 refine TL.done (TQ.then (TC.condT rfl (TC.skip (TQ.then (TC.block (sA (xL6 1 zaa rfl rfl (xmi rfl ?_))))))))
 refine xD [0] (zeD hM hl) zhN rfl (xai rfl (dB (xmi rfl (TL.eql rfl rfl rfl rfl (fun q2=>?_) (fun q2=>?_)))))
 refine TL.done (TQ.then (TC.condT rfl (TC.exit (TQ.thenExit (TQ.blockOut rfl (TQ.thenExit (TQ.blockHere (TQ.then ?_))))))))
 refine sA (xmi rfl (xai rfl (dR ?_)))
 refine FQ.ret1 (v:=(.int _ _)) (Bs:=[A _]) [0] rfl rfl rfl ⟨rfl,trivial⟩ ?_
 rw [root,if_pos q1,if_pos q2] at hI; cases hI; exact ⟨rfl,rfl⟩
 refine TL.done (TQ.then (TC.condF rfl (TC.skip (TQ.then (TC.region (xmi rfl (xai rfl (TL.done ?_))))))))
 refine TQ.inBlock (TQ.roundK ((k,zcB l σ1 z,parent l σ1 z)) ⟨⟨(by rw [root,if_pos q1,if_neg q2] at hI; exact hI),zaC⟩,Nat.lt_succ_self _⟩ ⟨rfl,trivial⟩ ⟨rfl,trivial⟩ (kE2 rfl rfl trivial) (kL1 rfl trivial))
 refine dE rfl (sA (xmi rfl (xai rfl (dR ?_))))
 refine FQ.ret1 (v:=(.int _ _)) (Bs:=[A _]) [0] rfl rfl rfl ⟨rfl,trivial⟩ ?_
 rw [root,if_neg q1] at hI; cases hI; exact ⟨rfl,rfl⟩
theorem zll {S:Type} [MemLike S] {mt:TypeId} {mv:Value} {A:S->Assn} (hM:MemI Tryz.prog mt mv A) {l:Lay} (hl:l.Ok) {p:Pen} {σ:S} {x r:Int} {k:Nat} {σ2:S} (h:index l k σ x=some (r,σ2)) (hz:Room (4 * k+2) σ:=by exact zaC):FnD Tryz.prog 243 [zbw l mt mv p,.int .i64 x] [A σ] (.int .i64 r) [A σ2]:=by
 unfold index at h
 dsimp only at h
 refine Fn.enter (Tryz.func243) rfl rfl (fun w0 R=>?_)
 refine sA (xB 1 rfl (fun bk1=>(xai rfl (dS (TC.draw (od [1,3,5,6,8,11]) [1] fc_m (by kernel_rfl) (xL6 1 zaa rfl rfl (xL6 1 zaa rfl rfl (xmi rfl (xd [0] (zd0 hM hl) zeb rfl (kL1 rfl trivial) ?_)))))))))
 refine xd [0] (zkQ hM hl) zlz rfl (kL1 rfl trivial) (xai rfl (dK (TC.loopK (X:=Nat×S×Int×Int) [2] [1] (fun y=>[(1,.int .i64 y.2.2.1),(5,.int .i64 y.2.2.2)]) (fun y=>[(0,A y.2.1)]) (fun y=>zbX l y.1 y.2.1 y.2.2.1 y.2.2.2=some (r,σ2)/\Room (4 * y.1) y.2.1) (fun y=>y.1) ((k,zb2 l (zdO l σ x 3) (tget l σ x 3),x,_)) ⟨h,zaC⟩ ⟨rfl,rfl,trivial⟩ ⟨rfl,trivial⟩ (fun y hI=>?_))))
 obtain ⟨k,σ1,z,n⟩:=y
 obtain ⟨hI,hzI⟩:=hI
 rcases k with _ | k
 ·simp [zbX] at hI
 dsimp only at hI hzI
 refine TC.sub (env':=[(1,_),(5,_),(2,_)]) (L':=[(0,_),(1,_)]) ⟨rfl,rfl,rfl,trivial⟩ ⟨rfl,rfl,trivial⟩ (TC.block (sA (xL6 1 zaa rfl rfl (xmi rfl (xD [0] (zeD hM hl) zhN rfl (xai rfl (dB (xmi rfl ?_))))))))
 refine TL.eql rfl rfl rfl rfl (fun q1=>?_) (fun q1=>?_)
 refine dT rfl (xmi rfl (xai rfl (dRR (TQ.blockRet (TQ.thenRet (TQ.blockRet ?_))))))
 refine FQ.ret1 (v:=(.int _ _)) (Bs:=[A _]) [0] rfl rfl rfl ⟨rfl,trivial⟩ ?_
 rw [zbX,if_pos q1] at hI; cases hI; exact ⟨rfl,rfl⟩
 refine TL.done (TQ.then (TC.condF rfl (TC.skip (TQ.then (sB (xL6 1 zaa rfl rfl (xmi rfl (xD [0] (zd0 hM hl) zeb rfl ?_))))))))
 refine xmi rfl (TL.eql rfl rfl rfl rfl (fun q2=>?_) (fun q2=>?_))
 refine TL.done (TQ.then (TC.condT rfl (TC.draw (od [1,3,5,7,8,10,13,15,17]) [1] fc_m (by kernel_rfl) (xmi rfl (xL6 1 zaa rfl rfl (xL6 1 zaa rfl rfl (xmi rfl (xd [0] (zd0 hM hl) zeb rfl (kL1 rfl trivial) ?_))))))))
 refine xd [0] (zkQ hM hl) zlz rfl (kL1 rfl trivial) (TL.add _ rfl rfl (rfl) rfl rfl (TL.add _ rfl rfl (rfl) rfl rfl (xai rfl (dG (xmi rfl (xai rfl (TL.done (TQ.inBlock ?_))))))))
 refine TQ.roundK ((k,zb2 l (zdO l (zdO l (zcB l σ1 z) (parent l σ1 z) 4) (parent l σ1 z) 3) (tget l (zdO l (zcB l σ1 z) (parent l σ1 z) 4) (parent l σ1 z) 3),_,_)) ⟨⟨(by rw [zbX,if_neg q1] at hI; dsimp only at hI; rw [if_pos q2] at hI; exact hI),zaC⟩,Nat.lt_succ_self _⟩ ⟨rfl,rfl,trivial⟩ ⟨rfl,trivial⟩ (kE1 rfl trivial) (kL1 rfl trivial)
 refine TL.done (TQ.then (TC.condF rfl (TC.skip (TQ.then (TC.region (xmi rfl (xai rfl (TL.done ?_))))))))
 refine TQ.inBlock (TQ.roundK ((k,zdO l (zcB l σ1 z) (parent l σ1 z) 4,_,_)) ⟨⟨(by rw [zbX,if_neg q1] at hI; dsimp only at hI; rw [if_neg q2] at hI; exact hI),zaC⟩,Nat.lt_succ_self _⟩ ⟨rfl,rfl,trivial⟩ ⟨rfl,trivial⟩ (kE1 rfl trivial) (kL1 rfl trivial))
theorem zoH {S:Type} [MemLike S] {mt:TypeId} {mv:Value} {A:S->Assn} (hM:MemI Tryz.prog mt mv A) {l:Lay} (hl:l.Ok) {p:Pen} {σ:S} {x f c:Int} (hz:Room (9) σ:=by exact zaC):FnD Tryz.prog 275 [zbw l mt mv p,.int .i64 x,.int .i64 f,.int .i64 c] [A σ] (.tuple #[]) [A (setC l p σ x f c)]:=by
 refine Fn.enter (Tryz.func275) rfl rfl (fun w0 R=>?_)
 refine sA (xB 1 rfl (fun bk1=>(dA (xL6 1 zaa rfl rfl (xmi rfl (xmi rfl (xmi rfl (xD [0] (zkM hM hl) zlE rfl (dA ?_)))))))))
 refine xL6 1 zaa rfl rfl (xmi rfl (xmi rfl (xD [0] (zjc hM hl) zjx rfl (TL.done (TQ.then (TC.draw (od [1,3,5,7,8,10]) [1] fc_m (by kernel_rfl) (xL6 1 zaa rfl rfl (xmi rfl ?_))))))))
 refine xL6 1 zaa rfl rfl (xmi rfl (xd [0] (zfX hM hl) zhJ rfl (kL1 rfl trivial) (xd [0] (zgM hM hl) zju rfl (kL1 rfl trivial) (TL.done ?_))))
 refine FQ.end0 (Bs:=[A _]) [0] rfl rfl ⟨rfl,trivial⟩ ?_
 exact ⟨rfl,(by unfold setC zfB; rfl)⟩
theorem zuv {S:Type} [MemLike S] {mt:TypeId} {mv:Value} {A:S->Assn} (hM:MemI Tryz.prog mt mv A) {l:Lay} (hl:l.Ok) {p:Pen} {σ:S} {x n:Int} {r:Int×Int} {k:Nat} {σ2:S} (h:split l p k σ x n=some (r,σ2)) (hz:Room (12 * k) σ:=by exact zaC):FnD Tryz.prog 262 [zbw l mt mv p,.int .i64 x,.int .i64 n] [A σ] (.tuple #[.int .i64 r.1,.int .i64 r.2]) [A σ2]:=by
 induction k generalizing σ x n r σ2
 case zero=>simp [split] at h
 case succ k ih =>
  refine Fn.enter (Tryz.func262) rfl rfl (fun w0 R=>?_)
  refine sA (xB 1 rfl (fun bk1=>(xai rfl (xai rfl (dB (xmi rfl (TL.eql rfl rfl rfl rfl (fun q1=>?_) (fun q1=>?_))))))))
  refine dT rfl (xai rfl (xai rfl (dRR ?_)))
  refine FQ.ret2 (v:=(.int _ _)) (x:=(.int _ _)) (Bs:=[A _]) [0] rfl rfl rfl rfl ⟨rfl,trivial⟩ ?_
  rw [split,if_pos q1] at h; cases h; exact ⟨rfl,rfl⟩
  refine dF rfl (xL6 1 zaa rfl rfl (xmi rfl (xD [0] (zd0 hM hl) zeb rfl (xai rfl (dA (xL6 1 zaa rfl rfl (xmi rfl (xD [0] (zkQ hM hl) zlz rfl ?_))))))))
  refine xai rfl (dB (xmi rfl (xmi rfl (TL.leq rfl rfl rfl rfl (fun q2=>?_) (fun q2=>?_)))))
  refine dT rfl (xL6 1 zaa rfl rfl (xmi rfl (xmi rfl ?_)))
  rw [split,if_neg q1] at h
  dsimp only at h
  rw [if_pos q2] at h
  obtain ⟨⟨ab,σ3⟩,h1,h9⟩:=Option.bind_eq_some_iff.1 h
  refine xD [0] (ih h1 zaC) znX rfl (xmu rfl (xei rfl rfl (xei rfl rfl (xai rfl (xai rfl (dA (xL6 1 zaa rfl rfl (xmi rfl ?_))))))))
  refine xmi rfl (xD [0] (zoH hM hl) zly rfl (dA (xmi rfl (xmi rfl (xai rfl (xai rfl (dRR ?_)))))))
  refine FQ.ret2 (v:=(.int _ _)) (x:=(.int _ _)) (Bs:=[A _]) [0] rfl rfl rfl rfl ⟨rfl,trivial⟩ ?_
  cases h9; exact ⟨rfl,rfl⟩
  refine TL.done (TQ.then (TC.condF rfl (TC.skip (TQ.then (TC.seq (TC.draw (od [1,3,5,9,11,13,15,6,16,19,21,23,25,27]) [1] fc_m (by kernel_rfl) (xL6 1 zaa rfl rfl (xL6 1 zaa rfl rfl ?_))))))))
  refine xmi rfl (xmi rfl (xmi rfl (TL.sub _ rfl rfl (rfl) rfl rfl (TL.sub _ rfl rfl (rfl) rfl rfl (xd [0] (zd0 hM hl) zeb rfl (kL1 rfl trivial) ?_)))))
  rw [split,if_neg q1] at h
  dsimp only at h
  rw [if_neg q2] at h
  obtain ⟨⟨ab,σ3⟩,h1,h9⟩:=Option.bind_eq_some_iff.1 h
  refine xd [0] (ih h1 zaC) znX rfl (kL1 rfl trivial) (xmu rfl (xei rfl rfl (xei rfl rfl (xai rfl (xai rfl (dA (xL6 1 zaa rfl rfl (xmi rfl ?_))))))))
  refine xmi rfl (xD [0] (zoH hM hl) zly rfl (dA (xmi rfl (xmi rfl (xai rfl (xai rfl (dR ?_)))))))
  refine FQ.ret2 (v:=(.int _ _)) (x:=(.int _ _)) (Bs:=[A _]) [0] rfl rfl rfl rfl ⟨rfl,trivial⟩ ?_
  cases h9; exact ⟨rfl,rfl⟩
theorem zc1 {S:Type} [MemLike S] {mt:TypeId} {mv:Value} {A:S->Assn} (hM:MemI Tryz.prog mt mv A) {l:Lay} (hl:l.Ok) {p:Pen} {σ:S} {x n:Int} {r:Int×Int} {k:Nat} {σ2:S} (h:zeh l p k σ x n=some (r,σ2)) (hz:Room (12 * k+5) σ:=by exact zaC):FnD Tryz.prog 244 [zbw l mt mv p,.int .i64 x,.int .i64 n] [A σ] (.tuple #[.int .i64 r.1,.int .i64 r.2]) [A σ2]:=by
 obtain ⟨⟨ab,σ3⟩,h1,h9⟩:=Option.bind_eq_some_iff.1 h
 cases h9
 refine Fn.enter (Tryz.func244) rfl rfl (fun w0 R=>?_)
 refine sA (xB 1 rfl (fun bk1=>(xai rfl (xai rfl (dS (TC.draw (od [1,3,5,7,9,11,12,15,16,19,21,23,25,27]) [1] fc_m (by kernel_rfl) (xL6 1 zaa rfl rfl (xmi rfl (xmi rfl ?_)))))))))
 refine TL.max2 rfl rfl rfl rfl (xL6 1 zaa rfl rfl (xmi rfl (xd [0] (zkQ hM hl) zlz rfl (kL1 rfl trivial) (TL.min2 rfl rfl rfl rfl (xd [0] (zuv hM hl h1) znX rfl (kL1 rfl trivial) (xmu rfl (xei rfl rfl (xei rfl rfl ?_))))))))
 refine xai rfl (xai rfl (dA (xL6 1 zaa rfl rfl (xmi rfl (xD [0] (zjc hM hl) zjx rfl (dA (xL6 1 zaa rfl rfl (xmi rfl ?_))))))))
 refine xD [0] (zjc hM hl) zjx rfl (dA (xmi rfl (xmi rfl (xai rfl (xai rfl (dR ?_))))))
 refine FQ.ret2 (v:=(.int _ _)) (x:=(.int _ _)) (Bs:=[A _]) [0] rfl rfl rfl rfl ⟨rfl,trivial⟩ ?_
 exact ⟨rfl,rfl⟩
theorem zvK {S:Type} [MemLike S] {mt:TypeId} {mv:Value} {A:S->Assn} (hM:MemI Tryz.prog mt mv A) {l:Lay} (hl:l.Ok) {p:Pen} {σ:S} {x y:Int} (hz:Room (2) σ:=by exact zaC):FnD Tryz.prog 274 [zbw l mt mv p,.int .i64 x,.int .i64 y] [A σ] (.bool (above l σ x y)) [A (zkF l σ x y)]:=by
 refine Fn.enter (Tryz.func274) rfl rfl (fun w0 R=>?_)
 refine sA (xB 1 rfl (fun bk1=>(xaf rfl (dS (TC.draw (od [1,3,5,7,9,13,15,19,21,23,25,27,31,33,10,16,28,34,37,39]) [1] fc_m (by kernel_rfl) (xf 3 zbf rfl (xlc 1 zbv rfl rfl (xf 0 zaH rfl (xL3 1 zab rfl rfl ?_)))))))))
 refine xmi rfl (TL.ncI rfl rfl rfl (xmc rfl (xf 3 zbf rfl (xlc 1 zbv rfl rfl (xf 0 zaH rfl (xL3 1 zab rfl rfl (xmi rfl (TL.ncI rfl rfl rfl ?_))))))))
 refine xmc rfl (xd [] (zaV hl) zbQ rfl (kL1 rfl trivial) (TL.mload 0 hM rfl rfl rfl rfl rfl (kL1 rfl trivial) (xd [] (zaV hl) zbQ rfl (kL1 rfl trivial) (TL.mload 0 hM rfl rfl rfl rfl rfl (kL1 rfl trivial) (xai rfl (xai rfl (dA (xmi rfl ?_))))))))
 refine xmi rfl (TL.gtr rfl rfl rfl rfl (fun q1=>?_) (fun q1=>?_))
 refine xmt rfl (xo rfl (xo rfl (xo rfl (xo rfl (xo rfl (xo rfl (xo rfl (xo rfl ?_))))))))
 refine xpT rfl (xat rfl (dR ?_))
 refine FQ.ret1 (v:=(.bool true)) (Bs:=[A _]) [0] rfl rfl rfl ⟨rfl,trivial⟩ ?_
 first | exact ⟨(by unfold above; dsimp only; rw [if_pos q1]),rfl⟩ | exact ⟨(by unfold above; dsimp only; rw [if_neg q1,if_pos q2]),rfl⟩ | exact ⟨(by unfold above; dsimp only; rw [if_neg q1,if_neg q2]),rfl⟩
 refine xmf rfl (xmi rfl (xmi rfl (TL.eql rfl rfl rfl rfl (fun q2=>?_) (fun q2=>?_))))
 refine xmt rfl (xmi rfl (xmi rfl (TL.lssV rfl rfl rfl rfl (TL.pickT (.bool _) rfl rfl rfl rfl (TL.pickF (.bool _) rfl rfl rfl rfl (xab rfl (dR ?_)))))))
 refine FQ.ret1 (v:=(.bool _)) (Bs:=[A _]) [0] rfl rfl rfl ⟨rfl,trivial⟩ ?_
 first | exact ⟨(by unfold above; dsimp only; rw [if_pos q1]),rfl⟩ | exact ⟨(by unfold above; dsimp only; rw [if_neg q1,if_pos q2]),rfl⟩ | exact ⟨(by unfold above; dsimp only; rw [if_neg q1,if_neg q2]),rfl⟩
 refine xmf rfl (xo rfl (xo rfl (xo rfl (xpF rfl (xpF rfl (xaf rfl (dR ?_)))))))
 refine FQ.ret1 (v:=(.bool false)) (Bs:=[A _]) [0] rfl rfl rfl ⟨rfl,trivial⟩ ?_
 first | exact ⟨(by unfold above; dsimp only; rw [if_pos q1]),rfl⟩ | exact ⟨(by unfold above; dsimp only; rw [if_neg q1,if_pos q2]),rfl⟩ | exact ⟨(by unfold above; dsimp only; rw [if_neg q1,if_neg q2]),rfl⟩
theorem zu2 {S:Type} [MemLike S] {mt:TypeId} {mv:Value} {A:S->Assn} (hM:MemI Tryz.prog mt mv A) {l:Lay} (hl:l.Ok) {p:Pen} {σ:S} {a b r:Int} {k:Nat} {σ2:S} (h:merge l p k σ a b=some (r,σ2)) (hz:Room (12 * k) σ:=by exact zaC):FnD Tryz.prog 258 [zbw l mt mv p,.int .i64 a,.int .i64 b] [A σ] (.int .i64 r) [A σ2]:=by
 induction k generalizing σ a b r σ2
 case zero=>simp [merge] at h
 case succ k ih =>
  refine Fn.enter (Tryz.func258) rfl rfl (fun w0 R=>?_)
  refine sA (xB 1 rfl (fun bk1=>(xai rfl (dS (TC.block (sA (xmi rfl (TL.eql rfl rfl rfl rfl (fun q1=>?_) (fun q1=>?_)))))))))
  refine xat rfl (dT rfl (xmi rfl (xai rfl (dR (TQ.blockRet (TQ.thenRet ?_))))))
  refine FQ.ret1 (v:=(.int _ _)) (Bs:=[A _]) [0] rfl rfl rfl ⟨rfl,trivial⟩ ?_
  rw [merge,if_pos q1] at h; cases h; exact ⟨rfl,rfl⟩
  refine xaf rfl (TL.done (TQ.then (TC.condF rfl (sA (xmi rfl (TL.eql rfl rfl rfl rfl (fun q2=>?_) (fun q2=>?_)))))))
  refine xat rfl (dT rfl (xmi rfl (xai rfl (dR (TQ.blockRet (TQ.thenRet ?_))))))
  refine FQ.ret1 (v:=(.int _ _)) (Bs:=[A _]) [0] rfl rfl rfl ⟨rfl,trivial⟩ ?_
  rw [merge,if_neg q1,if_pos q2] at h; cases h; exact ⟨rfl,rfl⟩
  refine xaf rfl (TL.done (TQ.then (TC.condF rfl (sA (xL6 1 zaa rfl rfl (xmi rfl (xmi rfl (xD [0] (zvK hM hl) zx5 rfl ?_))))))))
  refine TL.cases rfl (fun q3=>?_) (fun q3=>?_)
  refine xat rfl (TL.done (TQ.then (TC.condT rfl (TC.seq (TC.draw (od [1,3,5,7,9,13,10,14,16]) [1] fc_m (by kernel_rfl) (xL6 1 zaa rfl rfl (xmi rfl (xL6 1 zaa rfl rfl ?_))))))))
  refine xL6 1 zaa rfl rfl (xmi rfl (xmi rfl (xd [0] (zd0 hM hl) zeb rfl (kL1 rfl trivial) ?_)))
  rw [merge,if_neg q1,if_neg q2] at h
  dsimp only at h
  rw [if_pos q3] at h
  obtain ⟨⟨c,σ3⟩,h1,h9⟩:=Option.bind_eq_some_iff.1 h
  refine xd [0] (ih h1 zaC) znY rfl (kL1 rfl trivial) (xd [0] (zoH hM hl) zly rfl (kL1 rfl trivial) (dA (xmi rfl (xai rfl (dR (TQ.blockRet (TQ.thenRet ?_)))))))
  refine FQ.ret1 (v:=(.int _ _)) (Bs:=[A _]) [0] rfl rfl rfl ⟨rfl,trivial⟩ ?_
  cases h9; exact ⟨rfl,rfl⟩
  refine xaf rfl (TL.done (TQ.then (TC.condF rfl (TC.skip (TQ.inBlock (TQ.then (TC.seq (TC.draw (od [1,3,5,7,9,11,12,14,16]) [1] fc_m (by kernel_rfl) ?_))))))))
  refine xL6 1 zaa rfl rfl (xmi rfl (xL6 1 zaa rfl rfl (xmi rfl (xL6 1 zaa rfl rfl (xmi rfl (xd [0] (zd0 hM hl) zeb rfl (kL1 rfl trivial) ?_))))))
  rw [merge,if_neg q1,if_neg q2] at h
  dsimp only at h
  rw [if_neg (by rw [q3]; decide)] at h
  obtain ⟨⟨c,σ3⟩,h1,h9⟩:=Option.bind_eq_some_iff.1 h
  refine xd [0] (ih h1 zaC) znY rfl (kL1 rfl trivial) (xd [0] (zoH hM hl) zly rfl (kL1 rfl trivial) (dA (xmi rfl (xai rfl (dR ?_)))))
  refine FQ.ret1 (v:=(.int _ _)) (Bs:=[A _]) [0] rfl rfl rfl ⟨rfl,trivial⟩ ?_
  cases h9; exact ⟨rfl,rfl⟩
theorem zeG {S:Type} [MemLike S] {mt:TypeId} {mv:Value} {A:S->Assn} (hM:MemI Tryz.prog mt mv A) {l:Lay} (hl:l.Ok) {p:Pen} {σ:S} {a b r:Int} {k:Nat} {σ2:S} (h:zeo l p k σ a b=some (r,σ2)) (hz:Room (12 * k+2) σ:=by exact zaC):FnD Tryz.prog 239 [zbw l mt mv p,.int .i64 a,.int .i64 b] [A σ] (.int .i64 r) [A σ2]:=by
 obtain ⟨⟨c,σ3⟩,h1,h9⟩:=Option.bind_eq_some_iff.1 h
 cases h9
 refine Fn.enter (Tryz.func239) rfl rfl (fun w0 R=>?_)
 refine sA (xB 1 rfl (fun bk1=>(xai rfl (dA (xL6 1 zaa rfl rfl (xmi rfl (xmi rfl (xD [0] (zu2 hM hl h1) znY rfl (xai rfl ?_)))))))))
 refine dA (xL6 1 zaa rfl rfl (xmi rfl (xD [0] (zjc hM hl) zjx rfl (dA (xmi rfl (xai rfl (dR ?_)))))))
 refine FQ.ret1 (v:=(.int _ _)) (Bs:=[A _]) [0] rfl rfl rfl ⟨rfl,trivial⟩ ?_
 exact ⟨rfl,rfl⟩
theorem zrW {S:Type} [MemLike S] {mt:TypeId} {mv:Value} {A:S->Assn} (hM:MemI Tryz.prog mt mv A) {l:Lay} (hl:l.Ok) {p:Pen} {σ:S} {x m:Int} {k:Nat} {σ2:S} (h0:0<=m) (h:zf8 l k σ x m true=some σ2) (hz:Room (7 * k+7) σ:=by exact zaC):FnD Tryz.prog 241 [zbw l mt mv p,.int .i64 x,.int .i64 m,.bool true] [A σ] (.tuple #[]) [A σ2]:=by
 unfold zf8 at h
 dsimp only [zjW] at h
 simp only [if_true,Bool.false_eq_true,if_false] at h
 refine Fn.enter (Tryz.func241) rfl rfl (fun w0 R=>?_)
 refine sA (xB 1 rfl (fun bk1=>(dS (TC.draw (od [1,3,7,9,4,11,13]) [1] fc_m (by kernel_rfl) (xL6 1 zaa rfl rfl (xmi rfl (xmi rfl (TL.shl _ rfl rfl (by omega) rfl rfl rfl (xd [0] (zfX hM hl) zhJ rfl (kL1 rfl trivial) ?_)))))))))
 refine TL.andNot _ rfl rfl rfl rfl rfl (xai rfl (dB (xmt rfl (TL.done (TQ.then (TC.condT rfl (TC.region (xmi rfl ?_))))))))
 refine xmi rfl (TL.shl _ rfl rfl (by omega) rfl rfl rfl (TL.or _ rfl rfl rfl rfl rfl (xai rfl (dA (xL6 1 zaa rfl rfl (xmi rfl (xmi rfl (xD [0] (zgM hM hl) zju rfl ?_))))))))
 refine dA (xL6 1 zaa rfl rfl (xmi rfl (xD [0] (zeD hM hl) zhN rfl (xai rfl (dK (TC.loopK (X:=Nat×S×Int) [4] [1] (fun y=>[(9,.int .i64 y.2.2)]) (fun y=>[(0,A y.2.1)]) (fun y=>zbL l y.1 y.2.1 y.2.2=some σ2/\Room (7 * y.1) y.2.1) (fun y=>y.1) ((k,_,_)) ⟨h,zaC⟩ ⟨rfl,trivial⟩ ⟨rfl,trivial⟩ (fun y hI=>?_)))))))
 obtain ⟨k,σ1,z⟩:=y
 obtain ⟨hI,hzI⟩:=hI
 rcases k with _ | k
 ·simp [zbL] at hI
 dsimp only at hI hzI
 refine TC.sub (env':=[(9,_),(4,_)]) (L':=[(0,_),(1,_)]) ⟨rfl,rfl,trivial⟩ ⟨rfl,rfl,trivial⟩ (sB (xmi rfl (TL.neq rfl rfl rfl rfl (fun q1=>?_) (fun q1=>?_))))
 refine TL.done (TQ.then (TC.condT rfl (TC.skip (TQ.then (TC.seq (TC.block (TC.draw (od [1,3,5,7,8,10]) [1] fc_m (by kernel_rfl) (xL6 1 zaa rfl rfl ?_))))))))
 refine xmi rfl (xL6 1 zaa rfl rfl (xmi rfl (xd [0] (zfX hM hl) zhJ rfl (kL1 rfl trivial) (xd [0] (zgM hM hl) zju rfl (kL1 rfl trivial) (dI (xL6 1 zaa rfl rfl (xmi rfl (xD [0] (zeD hM hl) zhN rfl ?_))))))))
 refine xai rfl (TL.done (TQ.roundK ((k,_,_)) ⟨⟨(by rw [zbL,if_pos q1] at hI; exact hI),zaC⟩,Nat.lt_succ_self _⟩ ⟨rfl,trivial⟩ ⟨rfl,trivial⟩ (kE1 rfl trivial) (kL1 rfl trivial)))
 refine TL.done (TQ.then (TC.condF rfl (TC.exit (TQ.thenExit (TQ.thenExit (TQ.blockHere ?_))))))
 refine FQ.end0 (Bs:=[A _]) [0] rfl rfl ⟨rfl,trivial⟩ ?_
 rw [zbL,if_neg q1] at hI; cases hI; exact ⟨rfl,rfl⟩
theorem zqd {S:Type} [MemLike S] {mt:TypeId} {mv:Value} {A:S->Assn} (hM:MemI Tryz.prog mt mv A) {l:Lay} (hl:l.Ok) {p:Pen} {σ:S} {x m:Int} {k:Nat} {σ2:S} (h0:0<=m) (h:zf8 l k σ x m false=some σ2) (hz:Room (7 * k+7) σ:=by exact zaC):FnD Tryz.prog 241 [zbw l mt mv p,.int .i64 x,.int .i64 m,.bool false] [A σ] (.tuple #[]) [A σ2]:=by
 unfold zf8 at h
 dsimp only [zjW] at h
 simp only [if_true,Bool.false_eq_true,if_false] at h
 refine Fn.enter (Tryz.func241) rfl rfl (fun w0 R=>?_)
 refine sA (xB 1 rfl (fun bk1=>(dS (TC.draw (od [1,3,7,9,4,11,13]) [1] fc_m (by kernel_rfl) (xL6 1 zaa rfl rfl (xmi rfl (xmi rfl (TL.shl _ rfl rfl (by omega) rfl rfl rfl (xd [0] (zfX hM hl) zhJ rfl (kL1 rfl trivial) ?_)))))))))
 refine TL.andNot _ rfl rfl rfl rfl rfl (xai rfl (dB (xmf rfl (dF rfl (xL6 1 zaa rfl rfl (xmi rfl (xmi rfl (xD [0] (zgM hM hl) zju rfl ?_))))))))
 refine dA (xL6 1 zaa rfl rfl (xmi rfl (xD [0] (zeD hM hl) zhN rfl (xai rfl (dK (TC.loopK (X:=Nat×S×Int) [4] [1] (fun y=>[(9,.int .i64 y.2.2)]) (fun y=>[(0,A y.2.1)]) (fun y=>zbL l y.1 y.2.1 y.2.2=some σ2/\Room (7 * y.1) y.2.1) (fun y=>y.1) ((k,_,_)) ⟨h,zaC⟩ ⟨rfl,trivial⟩ ⟨rfl,trivial⟩ (fun y hI=>?_)))))))
 obtain ⟨k,σ1,z⟩:=y
 obtain ⟨hI,hzI⟩:=hI
 rcases k with _ | k
 ·simp [zbL] at hI
 dsimp only at hI hzI
 refine TC.sub (env':=[(9,_),(4,_)]) (L':=[(0,_),(1,_)]) ⟨rfl,rfl,trivial⟩ ⟨rfl,rfl,trivial⟩ (sB (xmi rfl (TL.neq rfl rfl rfl rfl (fun q1=>?_) (fun q1=>?_))))
 refine TL.done (TQ.then (TC.condT rfl (TC.skip (TQ.then (TC.seq (TC.block (TC.draw (od [1,3,5,7,8,10]) [1] fc_m (by kernel_rfl) (xL6 1 zaa rfl rfl ?_))))))))
 refine xmi rfl (xL6 1 zaa rfl rfl (xmi rfl (xd [0] (zfX hM hl) zhJ rfl (kL1 rfl trivial) (xd [0] (zgM hM hl) zju rfl (kL1 rfl trivial) (dI (xL6 1 zaa rfl rfl (xmi rfl (xD [0] (zeD hM hl) zhN rfl ?_))))))))
 refine xai rfl (TL.done (TQ.roundK ((k,_,_)) ⟨⟨(by rw [zbL,if_pos q1] at hI; exact hI),zaC⟩,Nat.lt_succ_self _⟩ ⟨rfl,trivial⟩ ⟨rfl,trivial⟩ (kE1 rfl trivial) (kL1 rfl trivial)))
 refine TL.done (TQ.then (TC.condF rfl (TC.exit (TQ.thenExit (TQ.thenExit (TQ.blockHere ?_))))))
 refine FQ.end0 (Bs:=[A _]) [0] rfl rfl ⟨rfl,trivial⟩ ?_
 rw [zbL,if_neg q1] at hI; cases hI; exact ⟨rfl,rfl⟩
theorem zrX {S:Type} [MemLike S] {mt:TypeId} {mv:Value} {A:S->Assn} (hM:MemI Tryz.prog mt mv A) {l:Lay} (hl:l.Ok) {p:Pen} {σ:S} {x m:Int} {on:Bool} {k:Nat} {σ2:S} (h0:0<=m) (h:zf8 l k σ x m on=some σ2) (hz:Room (7 * k+7) σ:=by exact zaC):FnD Tryz.prog 241 [zbw l mt mv p,.int .i64 x,.int .i64 m,.bool on] [A σ] (.tuple #[]) [A σ2]:=by
 cases on
 ·exact zqd hM hl h0 h
 ·exact zrW hM hl h0 h
theorem zmq {S:Type} [MemLike S] {mt:TypeId} {mv:Value} {A:S->Assn} (hM:MemI Tryz.prog mt mv A) {l:Lay} (hl:l.Ok) {p:Pen} {σ:S} {x m:Int} (h0:0<=m) (hz:Room (1) σ:=by exact zaC):FnD Tryz.prog 257 [zbw l mt mv p,.int .i64 x,.int .i64 m] [A σ] (.bool (marked l σ x m)) [A (zfB l σ x)]:=by
 refine Fn.enter (Tryz.func257) rfl rfl (fun w0 R=>?_)
 refine sA (xB 1 rfl (fun bk1=>(xaf rfl (dA (xL6 1 zaa rfl rfl (xmi rfl (xD [0] (zfX hM hl) zhJ rfl (xmi rfl (TL.shr _ rfl rfl (by omega) rfl rfl rfl ?_)))))))))
 refine TL.and _ rfl rfl rfl rfl rfl (TL.eqlV rfl rfl rfl rfl (xab rfl (dR ?_)))
 refine FQ.ret1 (v:=(.bool _)) (Bs:=[A _]) [0] rfl rfl rfl ⟨rfl,trivial⟩ ?_
 exact ⟨rfl,rfl⟩
theorem zwj {S:Type} [MemLike S] {mt:TypeId} {mv:Value} {A:S->Assn} (hM:MemI Tryz.prog mt mv A) {l:Lay} (hl:l.Ok) {p:Pen} {σ:S} {x m:Int} (h0:0<=m) (hz:Room (1) σ:=by exact zaC):FnD Tryz.prog 278 [zbw l mt mv p,.int .i64 x,.int .i64 m] [A σ] (.bool (has l σ x m)) [A (zb2 l σ x)]:=by
 refine Fn.enter (Tryz.func278) rfl rfl (fun w0 R=>?_)
 refine sA (xB 1 rfl (fun bk1=>(xaf rfl (dA (xL6 1 zaa rfl rfl (xmi rfl (xD [0] (ziJ hM hl) zjt rfl (TL.shr _ rfl rfl (by decide) rfl rfl rfl (xmi rfl ?_)))))))))
 refine TL.shr _ rfl rfl (by omega) rfl rfl rfl (TL.and _ rfl rfl rfl rfl rfl (TL.eqlV rfl rfl rfl rfl (xab rfl (dR ?_))))
 refine FQ.ret1 (v:=(.bool _)) (Bs:=[A _]) [0] rfl rfl rfl ⟨rfl,trivial⟩ ?_
 exact ⟨rfl,rfl⟩
theorem zvl {S:Type} [MemLike S] {mt:TypeId} {mv:Value} {A:S->Assn} (hM:MemI Tryz.prog mt mv A) {l:Lay} (hl:l.Ok) {p:Pen} {σ:S} {x m r:Int} {k:Nat} {σ2:S} (h0:0<=m) (h:first l k σ x m=some (r,σ2)) (hz:Room (4 * k+1) σ:=by exact zaC):FnD Tryz.prog 264 [zbw l mt mv p,.int .i64 x,.int .i64 m] [A σ] (.int .i64 r) [A σ2]:=by
 unfold first at h
 refine Fn.enter (Tryz.func264) rfl rfl (fun w0 R=>?_)
 refine sA (xB 1 rfl (fun bk1=>(xai rfl (dA (xmi rfl (xai rfl (dB (xL6 1 zaa rfl rfl (xmi rfl ?_)))))))))
 refine xmi rfl (xD [0] (zwj hM hl h0) zsP rfl (TL.cases rfl (fun q1=>?_) (fun q1=>?_)))
 refine xnt rfl (TL.done (TQ.then (TC.condF rfl (TC.skip (TQ.then (TC.block (TC.loopK (X:=Nat×S×Int) [2,3] [1] (fun y=>[(7,.int .i64 y.2.2)]) (fun y=>[(0,A y.2.1)]) (fun y=>zcI l m y.1 y.2.1 y.2.2=some (r,σ2)/\Room (4 * y.1) y.2.1) (fun y=>y.1) ((k,zb2 l σ x,x)) ⟨(by rw [if_pos q1] at h; exact h),zaC⟩ ⟨rfl,trivial⟩ ⟨rfl,trivial⟩ (fun y hI=>?_))))))))
 obtain ⟨k,σ1,z⟩:=y
 obtain ⟨hI,hzI⟩:=hI
 rcases k with _ | k
 ·simp [zcI] at hI
 dsimp only at hI hzI
 refine TC.sub (env':=[(7,_),(2,_),(3,_)]) (L':=[(0,_),(1,_)]) ⟨rfl,rfl,rfl,trivial⟩ ⟨rfl,rfl,trivial⟩ (TC.block (sA (xL6 1 zaa rfl rfl (xmi rfl (xD [0] (zd0 hM hl) zeb rfl (xai rfl (dK (sA ?_))))))))
 refine xL6 1 zaa rfl rfl (xmi rfl (xmi rfl (xD [0] (zwj hM hl h0) zsP rfl (TL.cases rfl (fun q2=>?_) (fun q2=>?_)))))
 refine xat rfl (TL.done (TQ.then (TC.condT rfl (TC.region (xmi rfl (xai rfl (TL.done (TQ.inBlock ?_))))))))
 refine TQ.inBlock (TQ.roundK ((k,zb2 l (zdO l σ1 z 3) (tget l σ1 z 3),_)) ⟨⟨(by rw [zcI] at hI; dsimp only at hI; rw [if_pos q2] at hI; exact hI),zaC⟩,Nat.lt_succ_self _⟩ ⟨rfl,trivial⟩ ⟨rfl,trivial⟩ (kE2 rfl rfl trivial) (kL1 rfl trivial))
 refine xaf rfl (TL.done (TQ.then (TC.condF rfl (sA (xL6 1 zaa rfl rfl (xmi rfl (xmi rfl (xD [0] (zmq hM hl h0) zsR rfl ?_))))))))
 refine TL.cases rfl (fun q3=>?_) (fun q3=>?_)
 refine xat rfl (dT rfl (xmi rfl (xai rfl (dR (TQ.blockRet (TQ.blockRet (TQ.thenRet (TQ.blockRet ?_))))))))
 refine FQ.ret1 (v:=(.int _ _)) (Bs:=[A _]) [0] rfl rfl rfl ⟨rfl,trivial⟩ ?_
 rw [zcI] at hI; dsimp only at hI; rw [if_neg (by rw [q2]; decide),if_pos q3] at hI; cases hI; exact ⟨rfl,rfl⟩
 refine xaf rfl (TL.done (TQ.then (TC.condF rfl (TC.region (xL6 1 zaa rfl rfl (xmi rfl (xD [0] (zd0 hM hl) zeb rfl (xai rfl ?_))))))))
 refine TL.done (TQ.inBlock (TQ.inBlock (TQ.roundK ((k,zdO l (zb2 l (zb2 l (zdO l σ1 z 3) (tget l σ1 z 3)) z) z 4,_)) ⟨⟨(by rw [zcI] at hI; dsimp only at hI; rw [if_neg (by rw [q2]; decide),if_neg (by rw [q3]; decide)] at hI; exact hI),zaC⟩,Nat.lt_succ_self _⟩ ⟨rfl,trivial⟩ ⟨rfl,trivial⟩ (kE2 rfl rfl trivial) (kL1 rfl trivial))))
 refine xnf rfl (dT rfl (xai rfl (dRR ?_)))
 refine FQ.ret1 (v:=(.int _ _)) (Bs:=[A _]) [0] rfl rfl rfl ⟨rfl,trivial⟩ ?_
 rw [if_neg (by rw [q1]; decide)] at h; cases h; exact ⟨rfl,rfl⟩
theorem zpG {S:Type} [MemLike S] {mt:TypeId} {mv:Value} {A:S->Assn} (hM:MemI Tryz.prog mt mv A) {l:Lay} (hl:l.Ok) {p:Pen} {σ:S} {i u r:Int} {k:Nat} {σ2:S} (h:zfN l p k σ i u=some (r,σ2)) (hz:Room (29 * k+9) σ:=by exact zaC):FnD Tryz.prog 240 [zbw l mt mv p,.int .i64 i,.int .i64 u] [A σ] (.int .i64 r) [A σ2]:=by
 unfold zfN at h
 dsimp only at h
 obtain ⟨⟨a,σa⟩,h1,h⟩:=Option.bind_eq_some_iff.1 h
 obtain ⟨⟨j,σb⟩,h2,h⟩:=Option.bind_eq_some_iff.1 h
 obtain ⟨⟨s,σc⟩,h3,h4⟩:=Option.bind_eq_some_iff.1 h
 dsimp only at h1 h2 h3 h4
 refine Fn.enter (Tryz.func240) rfl rfl (fun w0 R=>?_)
 refine sA (xB 1 rfl (fun bk1=>(xai rfl (dA (xf 0 zaj rfl (xf 0 zaH rfl (xL3 1 zab rfl rfl (xmi rfl (xmi rfl ?_)))))))))
 refine xD [] (zcX hl) zfh rfl (xai rfl (dS (TC.draw (od [1,3,5,7,9,13,15,17,10,18,20,23,25,27,29,31]) [1] fc_m (by kernel_rfl) (xf 0 zaj rfl (xL6 1 zaa rfl rfl (xf 0 zaj rfl (xL6 1 zaa rfl rfl (xmi rfl ?_))))))))
 refine xf 0 zaj rfl (xL6 1 zaa rfl rfl (xmi rfl (xd [0] (zeY hM hl h1) zfg rfl (kL1 rfl trivial) (xd [0] (zll hM hl h2) znZ rfl (kL1 rfl trivial) (xd [0] (zc1 hM hl h3) zfe rfl (kL1 rfl trivial) (xmu rfl (xei rfl rfl (xei rfl rfl ?_))))))))
 refine xai rfl (xai rfl (dA (xf 0 zaj rfl (xL6 1 zaa rfl rfl (xmi rfl (xmi rfl (xD [0] (zeG hM hl h4) zhL rfl (xai rfl ?_))))))))
 refine dR ?_
 refine FQ.ret1 (v:=(.int _ _)) (Bs:=[A _]) [0] rfl rfl rfl ⟨rfl,trivial⟩ ?_
 exact ⟨rfl,rfl⟩
theorem zrb {S:Type} [MemLike S] {mt:TypeId} {mv:Value} {A:S->Assn} (hM:MemI Tryz.prog mt mv A) {l:Lay} (hl:l.Ok) {p:Pen} {σ:S} {i u v:Int} {b:Bool} {k:Nat} {σ2:S} (h:same l k σ i u v=some (b,σ2)) (hz:Room (2 * k) σ:=by exact zaC):FnD Tryz.prog 202 [zbw l mt mv p,.int .i64 i,.int .i64 u,.int .i64 v] [A σ] (.bool b) [A σ2]:=by
 unfold same at h
 obtain ⟨⟨a,σa⟩,h1,h⟩:=Option.bind_eq_some_iff.1 h
 obtain ⟨⟨c,σb⟩,h2,h⟩:=Option.bind_eq_some_iff.1 h
 dsimp only at h1 h2 h
 cases h
 refine Fn.enter (Tryz.func202) rfl rfl (fun w0 R=>?_)
 refine sA (xB 1 rfl (fun bk1=>(xaf rfl (dS (TC.draw (od [1,3,5,7,9,11,13,19,21,23,25,27,29,31,14,16,32,34,37,39]) [1] fc_m (by kernel_rfl) (xf 0 zaj rfl (xL6 1 zaa rfl rfl (xf 0 zaj rfl (xf 0 zaH rfl ?_)))))))))
 refine xL3 1 zab rfl rfl (xmi rfl (xmi rfl (xf 0 zaj rfl (xL6 1 zaa rfl rfl (xf 0 zaj rfl (xf 0 zaH rfl (xL3 1 zab rfl rfl (xmi rfl ?_))))))))
 refine xmi rfl (xd [] (zcX hl) zfh rfl (kL1 rfl trivial) (xd [0] (zeY hM hl h1) zfg rfl (kL1 rfl trivial) (xd [] (zcX hl) zfh rfl (kL1 rfl trivial) (xd [0] (zeY hM hl h2) zfg rfl (kL1 rfl trivial) (TL.eqlV rfl rfl rfl rfl (xab rfl (dR ?_)))))))
 refine FQ.ret1 (v:=(.bool _)) (Bs:=[A _]) [0] rfl rfl rfl ⟨rfl,trivial⟩ ?_
 exact ⟨rfl,rfl⟩
theorem zpA {S:Type} [MemLike S] {mt:TypeId} {mv:Value} {A:S->Assn} (hM:MemI Tryz.prog mt mv A) {l:Lay} (hl:l.Ok) {p:Pen} {σ:S} {i u r:Int} {k:Nat} {σ2:S} (h:count l k σ i u=some (r,σ2)) (hz:Room (k+1) σ:=by exact zaC):FnD Tryz.prog 245 [zbw l mt mv p,.int .i64 i,.int .i64 u] [A σ] (.int .i64 r) [A σ2]:=by
 unfold count at h
 obtain ⟨⟨a,σa⟩,h1,h⟩:=Option.bind_eq_some_iff.1 h
 dsimp only at h1 h
 cases h
 refine Fn.enter (Tryz.func245) rfl rfl (fun w0 R=>?_)
 refine sA (xB 1 rfl (fun bk1=>(xai rfl (dS (TC.draw (od [1,3,5,7,9,11,13,15,17,18,20,22,25]) [1] fc_m (by kernel_rfl) (xf 0 zaj rfl (xL6 1 zaa rfl rfl (xf 0 zaj rfl (xL6 1 zaa rfl rfl ?_)))))))))
 refine xf 0 zaj rfl (xf 0 zaH rfl (xL3 1 zab rfl rfl (xmi rfl (xmi rfl (xd [] (zcX hl) zfh rfl (kL1 rfl trivial) (xd [0] (zeY hM hl h1) zfg rfl (kL1 rfl trivial) (xd [0] (zuo hM hl) zx7 rfl (kL1 rfl trivial) (xai rfl ?_))))))))
 refine dR ?_
 refine FQ.ret1 (v:=(.int _ _)) (Bs:=[A _]) [0] rfl rfl rfl ⟨rfl,trivial⟩ ?_
 exact ⟨rfl,rfl⟩
theorem zpJ {mt:TypeId} {mv:Value} {l:Lay} (hl:l.Ok) {p:Pen} {i s:Int}:FnD Tryz.prog 238 [zbw l mt mv p,.int .i64 i,.int .i64 s] [] (.tuple #[.int .i64 (l.arc s i 0),.int .i64 (l.arc s i 1)]) []:=by
 refine Fn.enter (Tryz.func238) rfl rfl (fun w0 R=>?_)
 refine sA (xB 0 rfl (fun bk0=>(xai rfl (xai rfl (dS (TC.draw (od [1,3,5,7,9,13,15,17,19,21,10,22,25,27]) [0] fc_m (by kernel_rfl) (xf 0 zaj rfl (xf 0 zaH rfl (xL3 0 zab rfl rfl ?_)))))))))
 refine xmi rfl (xmi rfl (xf 0 zaj rfl (xf 0 zaH rfl (xL3 0 zab rfl rfl (xmi rfl (xmi rfl (xd [] (zt5 hl) zn0 rfl (kL1 rfl trivial) (xd [] (zt5 hl) zn0 rfl (kL1 rfl trivial) ?_))))))))
 refine xai rfl (xai rfl (dR ?_))
 refine FQ.ret2 (v:=(.int _ _)) (x:=(.int _ _)) (Bs:=[]) [] rfl rfl rfl rfl trivial ?_
 exact ⟨rfl,rfl⟩
theorem zsh {S:Type} [MemLike S] {mt:TypeId} {mv:Value} {A:S->Assn} (hM:MemI Tryz.prog mt mv A) {l:Lay} (hl:l.Ok) {p:Pen} {σ:S} {i s u v r:Int} {k:Nat} {σ2:S} (h:link l p k σ i s u v=some (r,σ2)) (hz:Room (94 * k+24) σ:=by exact zaC):FnD Tryz.prog 208 [zbw l mt mv p,.int .i64 i,.int .i64 s,.int .i64 u,.int .i64 v] [A σ] (.int .i64 r) [A σ2]:=by
 unfold link at h
 obtain ⟨⟨a,σa⟩,h1,h⟩:=Option.bind_eq_some_iff.1 h
 obtain ⟨⟨x,σb⟩,h2,h⟩:=Option.bind_eq_some_iff.1 h
 obtain ⟨⟨b,σc⟩,h3,h⟩:=Option.bind_eq_some_iff.1 h
 obtain ⟨⟨y,σd⟩,h4,h5⟩:=Option.bind_eq_some_iff.1 h
 dsimp only at h1 h2 h3 h4 h5
 refine Fn.enter (Tryz.func208) rfl rfl (fun w0 R=>?_)
 refine sA (xB 1 rfl (fun bk1=>(xai rfl (dA (xL6 1 zbS rfl rfl (xmi rfl (xmi rfl (xD [] (zpJ hl) zsV rfl (xmu rfl ?_)))))))))
 refine xei rfl rfl (xei rfl rfl (xai rfl (xai rfl (dS (TC.draw (od [1,3,5,7,9,13,10,14,17]) [1] fc_m (by kernel_rfl) (xf 0 zaj rfl (xL6 1 zaa rfl rfl (xL6 1 zbS rfl rfl ?_))))))))
 refine xmi rfl (xmi rfl (xmi rfl (xd [0] (zpG hM hl h1) zsU rfl (kL1 rfl trivial) (xd [0] (zeG hM hl h2) zhL rfl (kL1 rfl trivial) (xai rfl (dS (TC.draw (od [1,3,5,7,9,11,12,14,17]) [1] fc_m (by kernel_rfl) (xf 0 zaj rfl ?_))))))))
 refine xL6 1 zaa rfl rfl (xmi rfl (xL6 1 zbS rfl rfl (xmi rfl (xmi rfl (xd [0] (zpG hM hl h3) zsU rfl (kL1 rfl trivial) (xd [0] (zeG hM hl h4) zhL rfl (kL1 rfl trivial) (xai rfl (dA ?_))))))))
 refine xf 0 zaj rfl (xL6 1 zaa rfl rfl (xmi rfl (xmi rfl (xD [0] (zeG hM hl h5) zhL rfl (xai rfl (dR ?_))))))
 refine FQ.ret1 (v:=(.int _ _)) (Bs:=[A _]) [0] rfl rfl rfl ⟨rfl,trivial⟩ ?_
 exact ⟨rfl,rfl⟩
theorem zAb {S:Type} [MemLike S] {mt:TypeId} {mv:Value} {A:S->Assn} (hM:MemI Tryz.prog mt mv A) {l:Lay} (hl:l.Ok) {p:Pen} {σ:S} {i s:Int} {r:Int×Int} {k:Nat} {σ2:S} (h:cut l p k σ i s=some (r,σ2)) (hz:Room (69 * k+36) σ:=by exact zaC):FnD Tryz.prog 212 [zbw l mt mv p,.int .i64 i,.int .i64 s] [A σ] (.tuple #[.int .i64 r.1,.int .i64 r.2]) [A σ2]:=by
 unfold cut at h
 dsimp only at h
 obtain ⟨⟨i0,σa⟩,h1,h⟩:=Option.bind_eq_some_iff.1 h
 obtain ⟨⟨j0,σb⟩,h2,h⟩:=Option.bind_eq_some_iff.1 h
 obtain ⟨⟨rt,σc⟩,h3,h⟩:=Option.bind_eq_some_iff.1 h
 obtain ⟨⟨s1,σd⟩,h4,h⟩:=Option.bind_eq_some_iff.1 h
 obtain ⟨⟨s2,σe⟩,h5,h⟩:=Option.bind_eq_some_iff.1 h
 obtain ⟨⟨s3,σf⟩,h6,h⟩:=Option.bind_eq_some_iff.1 h
 obtain ⟨⟨s4,σg⟩,h7,h⟩:=Option.bind_eq_some_iff.1 h
 obtain ⟨⟨m,σh⟩,h8,h9⟩:=Option.bind_eq_some_iff.1 h
 dsimp only at h1 h2 h3 h4 h5 h6 h7 h8 h9
 cases h9
 refine Fn.enter (Tryz.func212) rfl rfl (fun w0 R=>?_)
 refine sA (xB 1 rfl (fun bk1=>(xai rfl (xai rfl (dA (xL6 1 zbS rfl rfl (xmi rfl (xmi rfl (xD [] (zpJ hl) zsV rfl ?_)))))))))
 refine xmu rfl (xei rfl rfl (xei rfl rfl (xai rfl (xai rfl (dS (TC.draw (od [1,3,5,9,11,13,6,14,17,19]) [1] fc_m (by kernel_rfl) (xf 0 zaj rfl (xL6 1 zaa rfl rfl ?_))))))))
 refine xmi rfl (xf 0 zaj rfl (xL6 1 zaa rfl rfl (xmi rfl (xd [0] (zll hM hl h1) znZ rfl (kL1 rfl trivial) (xd [0] (zll hM hl h2) znZ rfl (kL1 rfl trivial) (xai rfl (xai rfl (dB ?_))))))))
 refine xmi rfl (xmi rfl (TL.gtr rfl rfl rfl rfl (fun q1=>?_) (fun q1=>?_)))
 refine TL.done (TQ.then (TC.condT rfl (TC.region (xmi rfl (xmi rfl (xai rfl (xai rfl (dS ?_))))))))
 refine TC.draw (od [1,3,5,7,9,13,10,14,17,19,21,23,25]) [1] fc_m (by kernel_rfl) (xf 0 zaj rfl (xL6 1 zaa rfl rfl (xf 0 zaj rfl (xL6 1 zaa rfl rfl (xmi rfl (xmi rfl (xd [0] (zeY hM hl h3) zfg rfl (kL1 rfl trivial) (xd [0] (zc1 hM hl (by rw [if_pos q1] at h4; exact h4)) zfe rfl (kL1 rfl trivial) ?_))))))))
 refine xmu rfl (xei rfl rfl (xei rfl rfl (xai rfl (xai rfl (dA (xf 0 zaj rfl (xL6 1 zaa rfl rfl (xmi rfl ?_))))))))
 refine xD [0] (zc1 hM hl h5) zfe rfl (xmu rfl (xei rfl rfl (xei rfl rfl (xai rfl (dA (xf 0 zaj rfl (xL6 1 zaa rfl rfl (xmi rfl ?_))))))))
 refine xmi rfl (xD [0] (zc1 hM hl (by rw [if_pos q1] at h6; exact h6)) zfe rfl (xmu rfl (xei rfl rfl (xei rfl rfl (xai rfl (xai rfl (dA (xf 0 zaj rfl ?_))))))))
 refine xL6 1 zaa rfl rfl (xmi rfl (xD [0] (zc1 hM hl h7) zfe rfl (xmu rfl (xei rfl rfl (xei rfl rfl (xai rfl (dA (xf 0 zaj rfl ?_))))))))
 refine xL6 1 zaa rfl rfl (xmi rfl (xD [0] (zhh hM hl) zjz rfl (dA (xf 0 zaj rfl (xL6 1 zaa rfl rfl (xmi rfl (xD [0] (zhh hM hl) zjz rfl (dA ?_))))))))
 refine xmi rfl (xf 0 zaj rfl (xL6 1 zaa rfl rfl (xmi rfl (xmi rfl (xD [0] (zeG hM hl h8) zhL rfl (xai rfl (xai rfl (dR ?_))))))))
 refine FQ.ret2 (v:=(.int _ _)) (x:=(.int _ _)) (Bs:=[A _]) [0] rfl rfl rfl rfl ⟨rfl,trivial⟩ ?_
 exact ⟨rfl,rfl⟩
 refine TL.done (TQ.then (TC.condF rfl (TC.skip (TQ.then (TC.seq (TC.draw (od [1,3,5,7,9,13,10,14,17,19,21,23,25]) [1] fc_m (by kernel_rfl) (xf 0 zaj rfl (xL6 1 zaa rfl rfl ?_))))))))
 refine xf 0 zaj rfl (xL6 1 zaa rfl rfl (xmi rfl (xmi rfl (xd [0] (zeY hM hl h3) zfg rfl (kL1 rfl trivial) (xd [0] (zc1 hM hl (by rw [if_neg q1] at h4; exact h4)) zfe rfl (kL1 rfl trivial) (xmu rfl (xei rfl rfl (xei rfl rfl ?_))))))))
 refine xai rfl (xai rfl (dA (xf 0 zaj rfl (xL6 1 zaa rfl rfl (xmi rfl (xD [0] (zc1 hM hl h5) zfe rfl (xmu rfl (xei rfl rfl ?_))))))))
 refine xei rfl rfl (xai rfl (dA (xf 0 zaj rfl (xL6 1 zaa rfl rfl (xmi rfl (xmi rfl (xD [0] (zc1 hM hl (by rw [if_neg q1] at h6; exact h6)) zfe rfl (xmu rfl ?_))))))))
 refine xei rfl rfl (xei rfl rfl (xai rfl (xai rfl (dA (xf 0 zaj rfl (xL6 1 zaa rfl rfl (xmi rfl (xD [0] (zc1 hM hl h7) zfe rfl ?_))))))))
 refine xmu rfl (xei rfl rfl (xei rfl rfl (xai rfl (dA (xf 0 zaj rfl (xL6 1 zaa rfl rfl (xmi rfl (xD [0] (zhh hM hl) zjz rfl ?_))))))))
 refine dA (xf 0 zaj rfl (xL6 1 zaa rfl rfl (xmi rfl (xD [0] (zhh hM hl) zjz rfl (dA (xmi rfl (xf 0 zaj rfl (xL6 1 zaa rfl rfl ?_))))))))
 refine xmi rfl (xmi rfl (xD [0] (zeG hM hl h8) zhL rfl (xai rfl (xai rfl (dR ?_)))))
 refine FQ.ret2 (v:=(.int _ _)) (x:=(.int _ _)) (Bs:=[A _]) [0] rfl rfl rfl rfl ⟨rfl,trivial⟩ ?_
 exact ⟨rfl,rfl⟩
theorem zwB {b:Bool}:FnD Tryz.prog 204 [.bool b] [] (.int .u64 (bit b)) []:=by
 refine Fn.enter (Tryz.func204) rfl rfl (fun w0 R=>?_)
 refine sA (xai rfl (dB (xmb rfl (TL.cases rfl (fun q1=>?_) (fun q1=>?_)))))
 refine dT rfl (xai rfl (dRR ?_))
 refine FQ.ret1 (v:=(.int _ _)) (Bs:=[]) [] rfl rfl rfl trivial ?_
 cases b<;>first | exact ⟨rfl,rfl⟩ | (exfalso; simp at q1)
 refine dF rfl (xai rfl (dR ?_))
 refine FQ.ret1 (v:=(.int _ _)) (Bs:=[]) [] rfl rfl rfl trivial ?_
 cases b<;>first | exact ⟨rfl,rfl⟩ | (exfalso; simp at q1)
theorem zxK {S:Type} [MemLike S] {mt:TypeId} {mv:Value} {A:S->Assn} (hM:MemI Tryz.prog mt mv A) {l:Lay} (hl:l.Ok) {σ:S} {u v:Int} (hz:Room (1) σ:=by exact zaC):FnD Tryz.prog 171 [zjE l mt mv,.int .i64 u,.int .i64 v] [A σ] (.tuple #[.int .i64 (find l σ u v).slot,.bool (find l σ u v).tree,.bool (find l σ u v).ok]) [A (zmJ l σ u v)]:=by
 refine Fn.enter (Tryz.func171) rfl rfl (fun w0 R=>?_)
 refine sA (xB 1 rfl (fun bk1=>(xai rfl (xaf rfl (xaf rfl (dS (TC.draw (od [1,3,5,7,9,11,15,17,12,18,21]) [1] fc_m (by kernel_rfl) (xf 3 zbE rfl (xlc 1 zbv rfl rfl ?_)))))))))
 refine xf 0 zaM rfl (xL3 1 zab rfl rfl (xmi rfl (xmi rfl (TL.ncI rfl rfl rfl (xmc rfl (xd [] (zjF hl) zjA rfl (kL1 rfl trivial) (TL.mload 0 hM rfl rfl rfl rfl rfl (kL1 rfl trivial) (xai rfl ?_))))))))
 refine dB (xmi rfl (TL.eql rfl rfl rfl rfl (fun q1=>?_) (fun q1=>?_)))
 refine dT rfl (xai rfl (xaf rfl (xaf rfl (dRR ?_))))
 refine FQ.ret3 (v:=(.int _ _)) (x:=(.bool false)) (y:=(.bool false)) (Bs:=[A _]) [0] rfl rfl rfl rfl rfl ⟨rfl,trivial⟩ ?_
 first | exact ⟨(by unfold find; dsimp only; rw [if_pos q1]),rfl⟩ | exact ⟨(by unfold find; dsimp only; rw [if_neg q1]; rfl),rfl⟩
 refine dF rfl (xmi rfl (TL.shr _ rfl rfl (by decide) rfl rfl rfl (TL.conv _ rfl zdK zaO (rfl) rfl rfl (TL.sub _ rfl rfl (rfl) rfl rfl (xmi rfl (TL.and _ rfl rfl rfl rfl rfl (TL.eqlV rfl rfl rfl rfl (xai rfl ?_))))))))
 refine xab rfl (xat rfl (dR ?_))
 refine FQ.ret3 (v:=(.int _ _)) (x:=(.bool _)) (y:=(.bool true)) (Bs:=[A _]) [0] rfl rfl rfl rfl rfl ⟨rfl,trivial⟩ ?_
 first | exact ⟨(by unfold find; dsimp only; rw [if_pos q1]),rfl⟩ | exact ⟨(by unfold find; dsimp only; rw [if_neg q1]; rfl),rfl⟩
theorem zyP {S:Type} [MemLike S] {mt:TypeId} {mv:Value} {A:S->Assn} (hM:MemI Tryz.prog mt mv A) {l:Lay} (hl:l.Ok) {σ:S} {s u v i:Int} {t:Bool} (hz:Room (3) σ:=by exact zaC):FnD Tryz.prog 161 [zjE l mt mv,.int .i64 s,.int .i64 u,.int .i64 v,.int .i64 i,.bool t] [A σ] (.tuple #[]) [A (eput l σ s u v i t)]:=by
 refine Fn.enter (Tryz.func161) rfl rfl (fun w0 R=>?_)
 refine sA (xB 1 rfl (fun bk1=>(dS (TC.draw (od [1,3,5,7,9,13,15,17,19,21,23,25,27,29,31,33,10,34]) [1] fc_m (by kernel_rfl) (xf 3 zbE rfl (xlc 1 zbv rfl rfl (xf 0 zaM rfl (xL3 1 zab rfl rfl (xmi rfl ?_)))))))))
 refine xmi rfl (xmi rfl (TL.min2 rfl rfl rfl rfl (TL.shl _ rfl rfl (by decide) rfl rfl rfl (xmi rfl (xmi rfl (TL.max2 rfl rfl rfl rfl (TL.or _ rfl rfl rfl rfl rfl (TL.conv _ rfl zf9 zbs (rfl) rfl rfl ?_))))))))
 refine TL.ncI rfl rfl rfl (xmc rfl (xd [] (zty hl) zs6 rfl (kL1 rfl trivial) (TL.mstore 0 hM rfl rfl rfl (by first | exact zcR _ | exact zby _ _ | exact MemLike.rng _ _ | decide | assumption) rfl rfl rfl (kL1 rfl trivial) (dS (TC.draw (od [1,3,5,7,9,13,15,17,19,10,20]) [1] fc_m (by kernel_rfl) (xf 3 zbE rfl (xlc 1 zbv rfl rfl (xf 0 zaM rfl ?_))))))))
 refine xL3 1 zab rfl rfl (xmi rfl (xmi rfl (TL.conv _ rfl zf9 zbs (rfl) rfl rfl (TL.ncI rfl rfl rfl (xmc rfl (xd [] (zlj hl) zn8 rfl (kL1 rfl trivial) (TL.mstore 0 hM rfl rfl rfl (by first | exact zcR _ | exact zby _ _ | exact MemLike.rng _ _ | decide | assumption) rfl rfl rfl (kL1 rfl trivial) (TL.done ?_))))))))
 refine TQ.then (TC.draw (od [1,3,5,7,9,11,15,17,19,21,23,29,31,12,24,27,32]) [1] fc_m (by kernel_rfl) (xf 3 zbE rfl (xlc 1 zbv rfl rfl (xf 0 zaM rfl (xL3 1 zab rfl rfl (xmi rfl (xmi rfl (xmi rfl ?_))))))))
 refine TL.add _ rfl rfl (rfl) rfl rfl (TL.conv _ rfl zf9 zbs (rfl) rfl rfl (TL.shl _ rfl rfl (by decide) rfl rfl rfl (xmb rfl (TL.ncI rfl rfl rfl (xmc rfl (xd [] (zjF hl) zjA rfl (kL1 rfl trivial) (xd [] zwB zs5 rfl (kL1 rfl trivial) (TL.or _ rfl rfl rfl rfl rfl ?_))))))))
 refine TL.mstore 0 hM rfl rfl rfl (by first | exact zcR _ | exact zby _ _ | exact MemLike.rng _ _ | decide | assumption) rfl rfl rfl (kL1 rfl trivial) (TL.done ?_)
 refine FQ.end0 (Bs:=[A _]) [0] rfl rfl ⟨rfl,trivial⟩ ?_
 exact ⟨rfl,rfl⟩
theorem zkw {S:Type} [MemLike S] {mt:TypeId} {mv:Value} {A:S->Assn} (hM:MemI Tryz.prog mt mv A) {l:Lay} (hl:l.Ok) {σ:S} {u v:Int} (hz:Room (1) σ:=by exact zaC):FnD Tryz.prog 174 [zjE l mt mv,.int .i64 u,.int .i64 v] [A σ] (.tuple #[]) [A (zcu l σ u v)]:=by
 refine Fn.enter (Tryz.func174) rfl rfl (fun w0 R=>?_)
 refine sA (xB 1 rfl (fun bk1=>(TL.done (TQ.then (TC.draw (od [1,3,5,7,9,11,15,17,12,18]) [1] fc_m (by kernel_rfl) (xf 3 zbE rfl (xlc 1 zbv rfl rfl (xf 0 zaM rfl (xL3 1 zab rfl rfl ?_)))))))))
 refine xmi rfl (xmi rfl (TL.ncI rfl rfl rfl (xmc rfl (xd [] (zjF hl) zjA rfl (kL1 rfl trivial) (TL.mstore 0 hM rfl rfl rfl (by first | exact zcR _ | exact zby _ _ | exact MemLike.rng _ _ | decide | assumption) rfl rfl rfl (kL1 rfl trivial) (TL.done ?_))))))
 refine FQ.end0 (Bs:=[A _]) [0] rfl rfl ⟨rfl,trivial⟩ ?_
 exact ⟨rfl,rfl⟩
theorem zpt {S:Type} [MemLike S] {mt:TypeId} {mv:Value} {A:S->Assn} (hM:MemI Tryz.prog mt mv A) {l:Lay} (hl:l.Ok) {σ:S} {s:Int} (hz:Room (1) σ:=by exact zaC):FnD Tryz.prog 170 [zjE l mt mv,.int .i64 s] [A σ] (.tuple #[.int .i64 (endsU l σ s),.int .i64 (endsV l σ s)]) [A (zhd l σ s)]:=by
 refine Fn.enter (Tryz.func170) rfl rfl (fun w0 R=>?_)
 refine sA (xB 1 rfl (fun bk1=>(xai rfl (xai rfl (dS (TC.draw (od [1,3,5,7,9,13,15,10,16,19,21]) [1] fc_m (by kernel_rfl) (xf 3 zbE rfl (xlc 1 zbv rfl rfl (xf 0 zaM rfl ?_)))))))))
 refine xL3 1 zab rfl rfl (xmi rfl (TL.ncI rfl rfl rfl (xmc rfl (xd [] (zty hl) zs6 rfl (kL1 rfl trivial) (TL.mload 0 hM rfl rfl rfl rfl rfl (kL1 rfl trivial) (TL.conv _ rfl zdK zaO (rfl) rfl rfl (xai rfl (dA ?_))))))))
 refine xmi rfl (TL.shr _ rfl rfl (by decide) rfl rfl rfl (xmi rfl (TL.and _ rfl rfl rfl rfl rfl (xai rfl (xai rfl (dR ?_))))))
 refine FQ.ret2 (v:=(.int _ _)) (x:=(.int _ _)) (Bs:=[A _]) [0] rfl rfl rfl rfl ⟨rfl,trivial⟩ ?_
 exact ⟨rfl,rfl⟩
theorem zdq {S:Type} [MemLike S] {mt:TypeId} {mv:Value} {A:S->Assn} (hM:MemI Tryz.prog mt mv A) {l:Lay} (hl:l.Ok) {σ:S} {s:Int} (hz:Room (3) σ:=by exact zaC):FnD Tryz.prog 134 [zjE l mt mv,.int .i64 s] [A σ] (edgV (eget l σ s)) [A (zfj l σ s)]:=by
 refine Fn.enter (Tryz.func134) rfl rfl (fun w0 R=>?_)
 refine sA (xB 1 rfl (fun bk1=>(TL.alloc 2 (cs:=#[.int .i64 0,.int .i64 0,.int .i64 0,.bool false]) zdi rfl rfl rfl (fun _=>trivial) (fun bk2=>(dA (xL4 1 za2 rfl rfl (xmi rfl (xD [0] (zpt hM hl) zti rfl (xmu rfl (xei rfl rfl ?_))))))))))
 refine xei rfl rfl (xai rfl (xai rfl (dA (xL4 1 za2 rfl rfl (xmi rfl (xmi rfl (xD [0] (zxK hM hl) zyu rfl (xmu rfl ?_))))))))
 refine xei rfl rfl (TL.ext (.bool _) rfl rfl rfl rfl (TL.ext (.bool _) rfl rfl rfl rfl (xai rfl (xab rfl (xab rfl (dS (TC.draw (od [1,3,5,7,9,11,13,17,19,25,14,20,23,27,28]) [1] fc_m (by kernel_rfl) (xmi rfl ?_))))))))
 refine xmi rfl (xf 3 zbE rfl (xlc 1 zbv rfl rfl (xf 0 zaM rfl (xL3 1 zab rfl rfl (xmi rfl (TL.ncI rfl rfl rfl (xmc rfl (xmb rfl ?_))))))))
 refine xd [] (zlj hl) zn8 rfl (kL1 rfl trivial) (TL.mload 0 hM rfl rfl rfl rfl rfl (kL1 rfl trivial) (TL.conv _ rfl zdK zaO (rfl) rfl rfl (TL.bld [.int .i64 0,.int .i64 0,.int .i64 0,.bool false] [(.int _ _),(.int _ _),(.int _ _),(.bool _)] [_,_,_,_] zdi zxV ⟨rfl,rfl,rfl,rfl,trivial⟩ ⟨rfl,rfl⟩ rfl rfl (TL.stW 2 4 [_,_,_,_] rfl rfl rfl rfl rfl rfl zbR rfl rfl (kL1 rfl trivial) (dR ?_)))))
 refine FQ.retG (rs:=[.cell 4 217]) [(.agg _)] (Bs:=[A _]) [0] rfl ⟨⟨_,_,_,_,_,2,rfl,rfl,.inr ⟨4,[_,_,_,_],zbR,rfl,rfl⟩⟩,trivial⟩ rfl rfl ⟨rfl,trivial⟩ ?_
 exact ⟨rfl,rfl⟩
theorem zvo {S:Type} [MemLike S] {mt:TypeId} {mv:Value} {A:S->Assn} (hM:MemI Tryz.prog mt mv A) {l:Lay} (hl:l.Ok) {σ:S} {s:Int} {t:Bool} (hz:Room (2) σ:=by exact zaC):FnD Tryz.prog 207 [zjE l mt mv,.int .i64 s,.bool t] [A σ] (.tuple #[]) [A (zhc l σ s t)]:=by
 refine Fn.enter (Tryz.func207) rfl rfl (fun w0 R=>?_)
 refine sA (xB 1 rfl (fun bk1=>(dA (xL4 1 za2 rfl rfl (xmi rfl (xD [0] (zpt hM hl) zti rfl (xmu rfl (xei rfl rfl (xei rfl rfl ?_)))))))))
 refine xai rfl (xai rfl (TL.done (TQ.then (TC.draw (od [1,3,5,7,9,11,15,17,19,21,23,29,31,12,24,27,32]) [1] fc_m (by kernel_rfl) (xf 3 zbE rfl (xlc 1 zbv rfl rfl (xf 0 zaM rfl (xL3 1 zab rfl rfl ?_))))))))
 refine xmi rfl (xmi rfl (xmi rfl (TL.add _ rfl rfl (rfl) rfl rfl (TL.conv _ rfl zf9 zbs (rfl) rfl rfl (TL.shl _ rfl rfl (by decide) rfl rfl rfl (xmb rfl (TL.ncI rfl rfl rfl (xmc rfl ?_))))))))
 refine xd [] (zjF hl) zjA rfl (kL1 rfl trivial) (xd [] zwB zs5 rfl (kL1 rfl trivial) (TL.or _ rfl rfl rfl rfl rfl (TL.mstore 0 hM rfl rfl rfl (by first | exact zcR _ | exact zby _ _ | exact MemLike.rng _ _ | decide | assumption) rfl rfl rfl (kL1 rfl trivial) (TL.done ?_))))
 refine FQ.end0 (Bs:=[A _]) [0] rfl rfl ⟨rfl,trivial⟩ ?_
 exact ⟨rfl,rfl⟩
theorem zpv {S:Type} [MemLike S] {mt:TypeId} {mv:Value} {A:S->Assn} (hM:MemI Tryz.prog mt mv A) {l:Lay} (hl:l.Ok) {σ:S} {s i:Int} (hz:Room (1) σ:=by exact zaC):FnD Tryz.prog 265 [zjE l mt mv,.int .i64 s,.int .i64 i] [A σ] (.tuple #[]) [A (zgw l σ s i)]:=by
 refine Fn.enter (Tryz.func265) rfl rfl (fun w0 R=>?_)
 refine sA (xB 1 rfl (fun bk1=>(TL.done (TQ.then (TC.draw (od [1,3,5,7,9,13,15,17,19,10,20]) [1] fc_m (by kernel_rfl) (xf 3 zbE rfl (xlc 1 zbv rfl rfl (xf 0 zaM rfl (xL3 1 zab rfl rfl ?_)))))))))
 refine xmi rfl (xmi rfl (TL.conv _ rfl zf9 zbs (rfl) rfl rfl (TL.ncI rfl rfl rfl (xmc rfl (xd [] (zlj hl) zn8 rfl (kL1 rfl trivial) (TL.mstore 0 hM rfl rfl rfl (by first | exact zcR _ | exact zby _ _ | exact MemLike.rng _ _ | decide | assumption) rfl rfl rfl (kL1 rfl trivial) (TL.done ?_)))))))
 refine FQ.end0 (Bs:=[A _]) [0] rfl rfl ⟨rfl,trivial⟩ ?_
 exact ⟨rfl,rfl⟩
theorem zjQ {S:Type} [MemLike S] {mt:TypeId} {mv:Value} {A:S->Assn} (hM:MemI Tryz.prog mt mv A) {l:Lay} (hl:l.Ok) {p:Pen} {σ:S} {c:Int} (hz:Room (1) σ:=by exact zaC):FnD Tryz.prog 233 [adjV l mt mv p,.int .i64 c] [A σ] (.int .i64 (aget σ c)) [A (MemLike.ld σ c)]:=by
 refine Fn.enter (Tryz.func233) rfl rfl (fun w0 R=>?_)
 refine sA (xB 1 rfl (fun bk1=>(xai rfl (dA (xf 6 zaw rfl (xf 3 zbE rfl (xlc 1 zbv rfl rfl (xmi rfl (TL.mload 0 hM rfl rfl rfl rfl rfl trivial ?_)))))))))
 refine TL.conv _ rfl zdK zaO (rfl) rfl rfl (xai rfl (dR ?_))
 refine FQ.ret1 (v:=(.int _ _)) (Bs:=[A _]) [0] rfl rfl rfl ⟨rfl,trivial⟩ ?_
 exact ⟨rfl,rfl⟩
theorem zfl {S:Type} [MemLike S] {mt:TypeId} {mv:Value} {A:S->Assn} (hM:MemI Tryz.prog mt mv A) {l:Lay} (hl:l.Ok) {p:Pen} {σ:S} {c v:Int} (hz:Room (1) σ:=by exact zaC):FnD Tryz.prog 234 [adjV l mt mv p,.int .i64 c,.int .i64 v] [A σ] (.tuple #[]) [A (MemLike.st σ c (IntKind.u64.wrap v))]:=by
 refine Fn.enter (Tryz.func234) rfl rfl (fun w0 R=>?_)
 refine sA (xB 1 rfl (fun bk1=>(dG (xf 6 zaw rfl (xf 3 zbE rfl (xlc 1 zbv rfl rfl (xmi rfl (xmi rfl (TL.conv _ rfl zf9 zbs (rfl) rfl rfl ?_)))))))))
 refine TL.mstore 0 hM rfl rfl rfl (by first | exact zcR _ | exact zby _ _ | exact MemLike.rng _ _ | decide | assumption) rfl rfl rfl trivial (TL.done ?_)
 refine FQ.end0 (Bs:=[A _]) [0] rfl rfl ⟨rfl,trivial⟩ ?_
 exact ⟨rfl,rfl⟩
theorem zkR {s d:Int}:FnD Tryz.prog 206 [.int .i64 s,.int .i64 d] [] (.int .i64 (side s d)) []:=by
 refine Fn.enter (Tryz.func206) rfl rfl (fun w0 R=>?_)
 refine sA (xai rfl (dA (xmi rfl (TL.mul _ rfl rfl (rfl) rfl rfl (xmi rfl (TL.add _ rfl rfl (rfl) rfl rfl (TL.add _ rfl rfl (rfl) rfl rfl (xai rfl ?_))))))))
 refine dR ?_
 refine FQ.ret1 (v:=(.int _ _)) (Bs:=[]) [] rfl rfl rfl trivial ?_
 exact ⟨rfl,rfl⟩
theorem zlQ {mt:TypeId} {mv:Value} {l:Lay} (hl:l.Ok) {p:Pen} {x:Int}:FnD Tryz.prog 235 [adjV l mt mv p,.int .i64 x] [] (.int .i64 (za5 l x)) []:=by
 refine Fn.enter (Tryz.func235) rfl rfl (fun w0 R=>?_)
 refine sA (xB 0 rfl (fun bk0=>(xai rfl (dA (xf 6 zaw rfl (xf 0 zaM rfl (xL3 0 zab rfl rfl (xmi rfl (TL.sub _ rfl rfl (rfl) rfl rfl ?_)))))))))
 refine TL.quo _ rfl rfl (by omega) (quo2 _) rfl rfl (xmi rfl (TL.sub _ rfl rfl (rfl) rfl rfl (TL.rem _ rfl rfl (by omega) (rfl) rfl rfl (xD [] (zxv hl) zx9 rfl (xai rfl (dR ?_))))))
 refine FQ.ret1 (v:=(.int _ _)) (Bs:=[]) [] rfl rfl rfl trivial ?_
 exact ⟨rfl,rfl⟩
theorem zhg {mt:TypeId} {mv:Value} {l:Lay} (hl:l.Ok) {p:Pen} {x:Int}:FnD Tryz.prog 236 [adjV l mt mv p,.int .i64 x] [] (.int .i64 (zaP l x)) []:=by
 refine Fn.enter (Tryz.func236) rfl rfl (fun w0 R=>?_)
 refine sA (xB 0 rfl (fun bk0=>(xai rfl (dA (xf 6 zaw rfl (xf 0 zaM rfl (xL3 0 zab rfl rfl (xmi rfl (TL.sub _ rfl rfl (rfl) rfl rfl ?_)))))))))
 refine TL.quo _ rfl rfl (by omega) (quo2 _) rfl rfl (xmi rfl (TL.sub _ rfl rfl (rfl) rfl rfl (TL.rem _ rfl rfl (by omega) (rfl) rfl rfl (xD [] (zxc hl) zx8 rfl (xai rfl (dR ?_))))))
 refine FQ.ret1 (v:=(.int _ _)) (Bs:=[]) [] rfl rfl rfl trivial ?_
 exact ⟨rfl,rfl⟩
theorem zf4 {S:Type} [MemLike S] {mt:TypeId} {mv:Value} {A:S->Assn} (hM:MemI Tryz.prog mt mv A) {l:Lay} (hl:l.Ok) {p:Pen} {σ:S} {v i:Int} {k:Nat} {σ2:S} (h:zeT l k σ v i=some σ2) (hz:Room (7 * k+9) σ:=by exact zaC):FnD Tryz.prog 237 [adjV l mt mv p,.int .i64 v,.int .i64 i] [A σ] (.tuple #[]) [A σ2]:=by
 unfold zeT at h
 dsimp only at h
 refine Fn.enter (Tryz.func237) rfl rfl (fun w0 R=>?_)
 refine sA (xB 1 rfl (fun bk1=>(dA (xf 6 zaw rfl (xf 0 zaM rfl (xL3 1 zab rfl rfl (xmi rfl (xmi rfl (xD [] (zcX hl) zfh rfl ?_)))))))))
 refine xai rfl (dS (TC.draw (od [1,3,5,7,9,11,12,14,17,19]) [1] fc_m (by kernel_rfl) (xL10 1 zao rfl rfl (xf 6 zaw rfl (xf 0 zaM rfl (xL3 1 zab rfl rfl (xmi rfl (xmi rfl ?_))))))))
 refine xd [] (zlq hl) zlB rfl (kL1 rfl trivial) (xd [0] (zjQ hM hl) zjw rfl (kL1 rfl trivial) (TL.neqV rfl rfl rfl rfl (xab rfl (dA (xmb rfl (xf 0 zbe rfl (xf 0 zaj rfl (xL6 1 zaa rfl rfl ?_))))))))
 refine xmi rfl (xD [0] (zmq hM hl (by decide)) zsR rfl (TL.neqB rfl rfl zz6 rfl rfl (TL.cases rfl (fun q1=>?_) (fun q1=>?_))))
 refine TL.done (TQ.then (TC.condT rfl (TC.region (xf 0 zbe rfl (xf 0 zaj rfl (xL6 1 zaa rfl rfl (xmi rfl (xmb rfl ?_))))))))
 refine xD [0] (zrX hM hl (by decide) (by rw [if_pos (by simpa using q1)] at h; exact h)) zsT rfl (TL.done ?_)
 refine FQ.end0 (Bs:=[A _]) [0] rfl rfl ⟨rfl,trivial⟩ ?_
 exact ⟨rfl,rfl⟩
 refine TL.done (TQ.then (TC.condF rfl (TC.skip ?_)))
 refine FQ.end0 (Bs:=[A _]) [0] rfl rfl ⟨rfl,trivial⟩ ?_
 rw [if_neg (fun hc=>by revert q1 hc; cases marked l (MemLike.ld σ (l.head v i)) (l.vertex i v) 0<;>simp<;>omega)] at h; cases h; exact ⟨rfl,rfl⟩
theorem zrq {S:Type} [MemLike S] {mt:TypeId} {mv:Value} {A:S->Assn} (hM:MemI Tryz.prog mt mv A) {l:Lay} (hl:l.Ok) {p:Pen} {σ:S} {x v i:Int} {k:Nat} {σ2:S} (h:push l k σ x v i=some σ2) (hz:Room (7 * k+14) σ:=by exact zaC):FnD Tryz.prog 205 [adjV l mt mv p,.int .i64 x,.int .i64 v,.int .i64 i] [A σ] (.tuple #[]) [A σ2]:=by
 unfold push at h
 dsimp only at h
 refine Fn.enter (Tryz.func205) rfl rfl (fun w0 R=>?_)
 refine sA (xB 1 rfl (fun bk1=>(dA (xf 6 zaw rfl (xf 0 zaM rfl (xL3 1 zab rfl rfl (xmi rfl (xmi rfl (xD [] (zlq hl) zlB rfl ?_)))))))))
 refine xai rfl (dA (xL10 1 zao rfl rfl (xmi rfl (xD [0] (zjQ hM hl) zjw rfl (xai rfl (dS (TC.draw (od [1,3,5,9,6,10]) [1] fc_m (by kernel_rfl) (xL10 1 zao rfl rfl ?_))))))))
 refine xL10 1 zao rfl rfl (xmi rfl (xmi rfl (xd [] (zlQ hl) zn1 rfl (kL1 rfl trivial) (xd [0] (zfl hM hl) zff rfl (kL1 rfl trivial) (dS (TC.draw (od [1,3,5,6,8]) [1] fc_m (by kernel_rfl) (xL10 1 zao rfl rfl (xL10 1 zao rfl rfl ?_))))))))
 refine xmi rfl (xd [] (zhg hl) zjv rfl (kL1 rfl trivial) (xd [0] (zfl hM hl) zff rfl (kL1 rfl trivial) (dB (xmi rfl (TL.neq rfl rfl rfl rfl (fun q1=>?_) (fun q1=>?_))))))
 refine TL.done (TQ.then (TC.condT rfl (TC.draw (od [1,3,5,9,6,10]) [1] fc_m (by kernel_rfl) (xL10 1 zao rfl rfl (xL10 1 zao rfl rfl (xmi rfl (xmi rfl (xd [] (zhg hl) zjv rfl (kL1 rfl trivial) ?_))))))))
 refine xd [0] (zfl hM hl) zff rfl (kL1 rfl trivial) (dA (xL10 1 zao rfl rfl (xmi rfl (xmi rfl (xD [0] (zfl hM hl) zff rfl (dG (xL10 1 zao rfl rfl (xmi rfl ?_))))))))
 refine xmi rfl (xD [0] (zf4 hM hl (by rw [if_pos q1] at h; exact h)) zhM rfl (TL.done ?_))
 refine FQ.end0 (Bs:=[A _]) [0] rfl rfl ⟨rfl,trivial⟩ ?_
 exact ⟨rfl,rfl⟩
 refine dF rfl (xL10 1 zao rfl rfl (xmi rfl (xmi rfl (xD [0] (zfl hM hl) zff rfl (dG (xL10 1 zao rfl rfl (xmi rfl (xmi rfl ?_))))))))
 refine xD [0] (zf4 hM hl (by rw [if_neg q1] at h; exact h)) zhM rfl (TL.done ?_)
 refine FQ.end0 (Bs:=[A _]) [0] rfl rfl ⟨rfl,trivial⟩ ?_
 exact ⟨rfl,rfl⟩
theorem zru {S:Type} [MemLike S] {mt:TypeId} {mv:Value} {A:S->Assn} (hM:MemI Tryz.prog mt mv A) {l:Lay} (hl:l.Ok) {p:Pen} {σ:S} {x v i:Int} {k:Nat} {σ2:S} (h:pull l k σ x v i=some σ2) (hz:Room (7 * k+13) σ:=by exact zaC):FnD Tryz.prog 211 [adjV l mt mv p,.int .i64 x,.int .i64 v,.int .i64 i] [A σ] (.tuple #[]) [A σ2]:=by
 unfold pull at h
 dsimp only at h
 refine Fn.enter (Tryz.func211) rfl rfl (fun w0 R=>?_)
 refine sA (xB 1 rfl (fun bk1=>(dS (TC.draw (od [1,3,5,11,13,15,6,8,16,18,21,23]) [1] fc_m (by kernel_rfl) (xL10 1 zao rfl rfl (xL10 1 zao rfl rfl (xmi rfl (xL10 1 zao rfl rfl (xL10 1 zao rfl rfl ?_)))))))))
 refine xmi rfl (xd [] (zhg hl) zjv rfl (kL1 rfl trivial) (xd [0] (zjQ hM hl) zjw rfl (kL1 rfl trivial) (xd [] (zlQ hl) zn1 rfl (kL1 rfl trivial) (xd [0] (zjQ hM hl) zjw rfl (kL1 rfl trivial) (xai rfl (xai rfl (dB (xmi rfl ?_))))))))
 refine TL.eql rfl rfl rfl rfl (fun q1=>?_) (fun q1=>?_)
 refine TL.done (TQ.then (TC.condT rfl (TC.draw (od [1,3,5,7,9,11,15,12,16]) [1] fc_m (by kernel_rfl) (xL10 1 zao rfl rfl (xf 6 zaw rfl (xf 0 zaM rfl (xL3 1 zab rfl rfl (xmi rfl ?_))))))))
 refine xmi rfl (xmi rfl (xd [] (zlq hl) zlB rfl (kL1 rfl trivial) (xd [0] (zfl hM hl) zff rfl (kL1 rfl trivial) (dB (xmi rfl (TL.neq rfl rfl rfl rfl (fun q2=>?_) (fun q2=>?_)))))))
 refine TL.done (TQ.then (TC.condT rfl (TC.draw (od [1,3,5,9,6,10]) [1] fc_m (by kernel_rfl) (xL10 1 zao rfl rfl (xL10 1 zao rfl rfl (xmi rfl (xmi rfl (xd [] (zhg hl) zjv rfl (kL1 rfl trivial) ?_))))))))
 refine xd [0] (zfl hM hl) zff rfl (kL1 rfl trivial) (dG (xL10 1 zao rfl rfl (xmi rfl (xmi rfl (xD [0] (zf4 hM hl (by rw [if_pos q1,if_pos q2] at h; exact h)) zhM rfl (TL.done ?_))))))
 refine FQ.end0 (Bs:=[A _]) [0] rfl rfl ⟨rfl,trivial⟩ ?_
 exact ⟨rfl,rfl⟩
 refine TL.done (TQ.then (TC.condF rfl (TC.skip (TQ.then (TC.region (xL10 1 zao rfl rfl (xmi rfl (xmi rfl ?_))))))))
 refine xD [0] (zf4 hM hl (by rw [if_pos q1,if_neg q2] at h; exact h)) zhM rfl (TL.done ?_)
 refine FQ.end0 (Bs:=[A _]) [0] rfl rfl ⟨rfl,trivial⟩ ?_
 exact ⟨rfl,rfl⟩
 refine TL.done (TQ.then (TC.condF rfl (TC.draw (od [1,3,5,9,6,10]) [1] fc_m (by kernel_rfl) (xL10 1 zao rfl rfl (xL10 1 zao rfl rfl (xmi rfl (xmi rfl (xd [] (zlQ hl) zn1 rfl (kL1 rfl trivial) ?_))))))))
 refine xd [0] (zfl hM hl) zff rfl (kL1 rfl trivial) (dB (xmi rfl (TL.neq rfl rfl rfl rfl (fun q2=>?_) (fun q2=>?_))))
 refine TL.done (TQ.then (TC.condT rfl (TC.draw (od [1,3,5,9,6,10]) [1] fc_m (by kernel_rfl) (xL10 1 zao rfl rfl (xL10 1 zao rfl rfl (xmi rfl (xmi rfl (xd [] (zhg hl) zjv rfl (kL1 rfl trivial) ?_))))))))
 refine xd [0] (zfl hM hl) zff rfl (kL1 rfl trivial) (dG (xL10 1 zao rfl rfl (xmi rfl (xmi rfl (xD [0] (zf4 hM hl (by rw [if_neg q1,if_pos q2] at h; exact h)) zhM rfl (TL.done ?_))))))
 refine FQ.end0 (Bs:=[A _]) [0] rfl rfl ⟨rfl,trivial⟩ ?_
 exact ⟨rfl,rfl⟩
 refine TL.done (TQ.then (TC.condF rfl (TC.skip (TQ.then (TC.region (xL10 1 zao rfl rfl (xmi rfl (xmi rfl ?_))))))))
 refine xD [0] (zf4 hM hl (by rw [if_neg q1,if_neg q2] at h; exact h)) zhM rfl (TL.done ?_)
 refine FQ.end0 (Bs:=[A _]) [0] rfl rfl ⟨rfl,trivial⟩ ?_
 exact ⟨rfl,rfl⟩
theorem zm0 {S:Type} [MemLike S] {mt:TypeId} {mv:Value} {A:S->Assn} (hM:MemI Tryz.prog mt mv A) {l:Lay} (hl:l.Ok) {p:Pen} {σ:S} {s:Int} {k:Nat} {σ2:S} (h:add l k σ s=some σ2) (hz:Room (14 * k+31) σ:=by exact zaC):FnD Tryz.prog 162 [adjV l mt mv p,.int .i64 s] [A σ] (.tuple #[]) [A σ2]:=by
 unfold add at h
 dsimp only at h
 obtain ⟨σ1,h1,h2⟩:=Option.bind_eq_some_iff.1 h
 refine Fn.enter (Tryz.func162) rfl rfl (fun w0 R=>?_)
 refine sA (xB 1 rfl (fun bk1=>(dA (xf 6 zaw rfl (xL4 1 za2 rfl rfl (xmi rfl (xD [0] (zdq hM hl) zdp rfl (TL.alloc 2 (cs:=#[.int .i64 0,.int .i64 0,.int .i64 0,.bool false]) zdi rfl rfl rfl (fun _=>trivial) (fun bk2=>(TL.stW 2 4 [_,_,_,_] rfl rfl rfl rfl rfl rfl zbR rfl rfl trivial ?_))))))))))
 refine dS (TC.draw (od [1,3,7,9,11,13,4,14]) [1,2] fc_m (by kernel_rfl) (xL10 1 zao rfl rfl (xmi rfl (xf 0 zbn rfl (xli 2 zad rfl rfl (xf 2 zbD rfl (xli 2 zad rfl rfl (xd [] zkR zlD rfl (kL2 rfl rfl trivial) ?_))))))))
 refine xd [0] (zrq hM hl h1) zs4 rfl (kL2 rfl rfl trivial) (TL.done (TQ.then (TC.draw (od [1,3,7,9,11,13,4,14]) [1,2] fc_m (by kernel_rfl) (xL10 1 zao rfl rfl (xmi rfl (xf 1 zbm rfl (xli 2 zad rfl rfl (xf 2 zbD rfl ?_))))))))
 refine xli 2 zad rfl rfl (xd [] zkR zlD rfl (kL2 rfl rfl trivial) (xd [0] (zrq hM hl h2) zs4 rfl (kL2 rfl rfl trivial) (TL.done ?_)))
 refine FQ.end0 (Bs:=[A _]) [0] rfl rfl ⟨rfl,trivial⟩ ?_
 exact ⟨rfl,rfl⟩
theorem zjN {S:Type} [MemLike S] {mt:TypeId} {mv:Value} {A:S->Assn} (hM:MemI Tryz.prog mt mv A) {l:Lay} (hl:l.Ok) {p:Pen} {σ:S} {s:Int} {k:Nat} {σ2:S} (h:remove l k σ s=some σ2) (hz:Room (14 * k+29) σ:=by exact zaC):FnD Tryz.prog 173 [adjV l mt mv p,.int .i64 s] [A σ] (.tuple #[]) [A σ2]:=by
 unfold remove at h
 dsimp only at h
 obtain ⟨σ1,h1,h2⟩:=Option.bind_eq_some_iff.1 h
 refine Fn.enter (Tryz.func173) rfl rfl (fun w0 R=>?_)
 refine sA (xB 1 rfl (fun bk1=>(dA (xf 6 zaw rfl (xL4 1 za2 rfl rfl (xmi rfl (xD [0] (zdq hM hl) zdp rfl (TL.alloc 2 (cs:=#[.int .i64 0,.int .i64 0,.int .i64 0,.bool false]) zdi rfl rfl rfl (fun _=>trivial) (fun bk2=>(TL.stW 2 4 [_,_,_,_] rfl rfl rfl rfl rfl rfl zbR rfl rfl trivial ?_))))))))))
 refine dS (TC.draw (od [1,3,7,9,11,13,4,14]) [1,2] fc_m (by kernel_rfl) (xL10 1 zao rfl rfl (xmi rfl (xf 0 zbn rfl (xli 2 zad rfl rfl (xf 2 zbD rfl (xli 2 zad rfl rfl (xd [] zkR zlD rfl (kL2 rfl rfl trivial) ?_))))))))
 refine xd [0] (zru hM hl h1) zs1 rfl (kL2 rfl rfl trivial) (TL.done (TQ.then (TC.draw (od [1,3,7,9,11,13,4,14]) [1,2] fc_m (by kernel_rfl) (xL10 1 zao rfl rfl (xmi rfl (xf 1 zbm rfl (xli 2 zad rfl rfl (xf 2 zbD rfl ?_))))))))
 refine xli 2 zad rfl rfl (xd [] zkR zlD rfl (kL2 rfl rfl trivial) (xd [0] (zru hM hl h2) zs1 rfl (kL2 rfl rfl trivial) (TL.done ?_)))
 refine FQ.end0 (Bs:=[A _]) [0] rfl rfl ⟨rfl,trivial⟩ ?_
 exact ⟨rfl,rfl⟩
theorem zue {S:Type} [MemLike S] {mt:TypeId} {mv:Value} {A:S->Assn} (hM:MemI Tryz.prog mt mv A) {l:Lay} (hl:l.Ok) {p:Pen} {σ:S} {v i:Int} (hz:Room (1) σ:=by exact zaC):FnD Tryz.prog 248 [adjV l mt mv p,.int .i64 v,.int .i64 i] [A σ] (.tuple #[.int .i64 (afirst l σ v i).1,.bool (afirst l σ v i).2]) [A (zgB l σ v i)]:=by
 refine Fn.enter (Tryz.func248) rfl rfl (fun w0 R=>?_)
 refine sA (xB 1 rfl (fun bk1=>(xai rfl (xaf rfl (dS (TC.draw (od [1,3,5,7,9,11,12,14,17]) [1] fc_m (by kernel_rfl) (xL10 1 zao rfl rfl (xf 6 zaw rfl (xf 0 zaM rfl ?_)))))))))
 refine xL3 1 zab rfl rfl (xmi rfl (xmi rfl (xd [] (zlq hl) zlB rfl (kL1 rfl trivial) (xd [0] (zjQ hM hl) zjw rfl (kL1 rfl trivial) (xai rfl (dB (xmi rfl (TL.eql rfl rfl rfl rfl (fun q1=>?_) (fun q1=>?_)))))))))
 refine dT rfl (xai rfl (xaf rfl (dRR ?_)))
 refine FQ.ret2 (v:=(.int _ _)) (x:=(.bool false)) (Bs:=[A _]) [0] rfl rfl rfl rfl ⟨rfl,trivial⟩ ?_
 first | exact ⟨(by unfold afirst; dsimp only; rw [if_pos q1]),rfl⟩ | exact ⟨(by unfold afirst; dsimp only; rw [if_neg q1]),rfl⟩
 refine dF rfl (xmi rfl (TL.sub _ rfl rfl (rfl) rfl rfl (TL.quo _ rfl rfl (by omega) (quo2 _) rfl rfl (xai rfl (xat rfl (dR ?_))))))
 refine FQ.ret2 (v:=(.int _ _)) (x:=(.bool true)) (Bs:=[A _]) [0] rfl rfl rfl rfl ⟨rfl,trivial⟩ ?_
 first | exact ⟨(by unfold afirst; dsimp only; rw [if_pos q1]),rfl⟩ | exact ⟨(by unfold afirst; dsimp only; rw [if_neg q1]),rfl⟩
theorem zlf {S:Type} [MemLike S] {mt:TypeId} {mv:Value} {A:S->Assn} (hM:MemI Tryz.prog mt mv A) {l:Lay} (hl:l.Ok) {p:Pen} {σ:S} {s i:Int} {on:Bool} {k:Nat} {σ2:S} (h:lmark l k σ s i on=some σ2) (hz:Room (7 * k+7) σ:=by exact zaC):FnD Tryz.prog 209 [adjV l mt mv p,.int .i64 s,.int .i64 i,.bool on] [A σ] (.tuple #[]) [A σ2]:=by
 unfold lmark at h
 refine Fn.enter (Tryz.func209) rfl rfl (fun w0 R=>?_)
 refine sA (xB 1 rfl (fun bk1=>(TL.done (TQ.then (TC.draw (od [1,3,5,7,9,11,13,15,17,19,23,20,24]) [1] fc_m (by kernel_rfl) (xf 0 zap rfl (xf 0 zbe rfl (xf 0 zaj rfl (xL6 1 zaa rfl rfl ?_)))))))))
 refine xf 0 zap rfl (xf 6 zaw rfl (xf 0 zaM rfl (xL3 1 zab rfl rfl (xmi rfl (xmi rfl (xmb rfl (xd [] (zt5 hl) zn0 rfl (kL1 rfl trivial) (xd [0] (zrX hM hl (by decide) h) zsT rfl (kL1 rfl trivial) ?_))))))))
 refine TL.done ?_
 refine FQ.end0 (Bs:=[A _]) [0] rfl rfl ⟨rfl,trivial⟩ ?_
 exact ⟨rfl,rfl⟩
theorem zoS {S:Type} [MemLike S] {mt:TypeId} {mv:Value} {A:S->Assn} (hM:MemI Tryz.prog mt mv A) {l:Lay} (hl:l.Ok) {p:Pen} {σ:S} {s:Int} {k:Nat} {σ2:S} (h:plant l p k σ s=some σ2) (hz:Room (7 * k+12+k * (94 * k+24)) σ:=by exact zaC):FnD Tryz.prog 163 [adjV l mt mv p,.int .i64 s] [A σ] (.tuple #[]) [A σ2]:=by
 unfold plant at h
 dsimp only at h
 obtain ⟨σ1,h1,h2⟩:=Option.bind_eq_some_iff.1 h
 refine Fn.enter (Tryz.func163) rfl rfl (fun w0 R=>?_)
 refine sA (xB 1 rfl (fun bk1=>(dA (xf 0 zap rfl (xf 6 zaw rfl (xL4 1 za2 rfl rfl (xmi rfl (xD [0] (zdq hM hl) zdp rfl (TL.alloc 2 (cs:=#[.int .i64 0,.int .i64 0,.int .i64 0,.bool false]) zdi rfl rfl rfl (fun _=>trivial) (fun bk2=>?_))))))))))
 refine TL.stW 2 4 [_,_,_,_] rfl rfl rfl rfl rfl rfl zbR rfl rfl trivial (dA (xf 0 zap rfl (xf 6 zaw rfl (xL4 1 za2 rfl rfl (xmi rfl (xD [0] (zvo hM hl) zyn rfl (dB (xf 2 zbD rfl ?_))))))))
 refine xli 2 zad rfl rfl (TL.add _ rfl rfl (rfl) rfl rfl (xmi rfl (dK (TC.loopK (X:=Nat×S×Int) [1,2,4,18] [1,2] (fun y=>[(19,.int .i64 y.2.2)]) (fun y=>[(0,A y.2.1)]) (fun y=>zcV l p s (eget l σ s).u (eget l σ s).v y.1 k y.2.1 y.2.2 (IntKind.i64.wrap ((eget l σ s).level+1))=some σ1/\Room (y.1 * (94 * k+24)+(7 * k+7)) y.2.1) (fun y=>y.1) ((k,_,0)) ⟨h1,zaC⟩ ⟨rfl,trivial⟩ ⟨rfl,trivial⟩ (fun y hI=>?_)))))
 obtain ⟨j,σ3,z⟩:=y
 obtain ⟨hI,hzI⟩:=hI
 rcases j with _ | j
 ·simp [zcV] at hI
 dsimp only at hI hzI
 rw [Nat.add_one_mul] at hzI
 refine TC.sub (env':=[(19,_),(1,_),(2,_),(4,_),(18,_)]) (L':=[(0,_),(1,_),(2,_)]) ⟨rfl,rfl,rfl,rfl,rfl,trivial⟩ ⟨rfl,rfl,rfl,trivial⟩ (sA (TL.lss rfl rfl rfl rfl (fun q1=>?_) (fun q1=>?_)))
 refine dS (TC.condT rfl (TC.skip (TQ.then (TC.seq (TC.block (sA (xmi rfl (xai rfl ?_))))))))
 refine dG (xf 0 zap rfl (xf 0 zbe rfl (xL6 1 zbS rfl rfl (xmi rfl (xmi rfl (xf 0 zbn rfl (xli 2 zad rfl rfl (xf 1 zbm rfl ?_))))))))
 refine xli 2 zad rfl rfl ?_
 rw [zcV,if_pos q1] at hI
 obtain ⟨⟨r,σ4⟩,h3,h4⟩:=Option.bind_eq_some_iff.1 hI
 refine xD [0] (zsh hM hl h3) zs3 rfl (dI (TL.add _ rfl rfl (rfl) rfl rfl (xmi rfl (TL.done (TQ.roundK ((j,_,_)) ⟨⟨h4,zaC⟩,Nat.lt_succ_self _⟩ ⟨rfl,trivial⟩ ⟨rfl,trivial⟩ (kE4 rfl rfl rfl rfl trivial) (kL2 rfl rfl trivial))))))
 refine dS (TC.condF rfl (TC.exit (TQ.thenExit (TQ.thenExit (TQ.blockHere (TQ.then (TC.region (xL10 1 zaY rfl rfl ?_))))))))
 refine xmi rfl (xf 2 zbD rfl (xli 2 zad rfl rfl ?_))
 rw [zcV,if_neg q1] at hI
 cases hI
 refine xD [0] (zlf hM hl h2) zn3 rfl (TL.done ?_)
 refine FQ.end0 (Bs:=[A _]) [0] rfl rfl ⟨rfl,trivial⟩ ?_
 exact ⟨rfl,rfl⟩
theorem zxM {S:Type} [MemLike S] {mt:TypeId} {mv:Value} {A:S->Assn} (hM:MemI Tryz.prog mt mv A) {l:Lay} (hl:l.Ok) {p:Pen} {σ:S} {s:Int} {k:Nat} {σ2:S} (h:fell l p k σ s=some σ2) (hz:Room (3+k * (69 * k+36)) σ:=by exact zaC):FnD Tryz.prog 175 [adjV l mt mv p,.int .i64 s] [A σ] (.tuple #[]) [A σ2]:=by
 unfold fell at h
 refine Fn.enter (Tryz.func175) rfl rfl (fun w0 R=>?_)
 refine sA (xB 1 rfl (fun bk1=>(dA (xf 0 zap rfl (xf 6 zaw rfl (xL4 1 za2 rfl rfl (xmi rfl (xD [0] (zdq hM hl) zdp rfl (TL.fv 2 3 (.int _ _) rfl zhb zad rfl rfl rfl ?_)))))))))
 refine TL.add _ rfl rfl (rfl) rfl rfl (xmi rfl (dK (TC.loopK (X:=Nat×S×Int) [1,2,11] [1] (fun y=>[(12,.int .i64 y.2.2)]) (fun y=>[(0,A y.2.1)]) (fun y=>ze9 l p s y.1 k y.2.1 y.2.2 (IntKind.i64.wrap ((eget l σ s).level+1))=some σ2/\Room (y.1 * (69 * k+36)) y.2.1) (fun y=>y.1) ((k,_,0)) ⟨h,zaC⟩ ⟨rfl,trivial⟩ ⟨rfl,trivial⟩ (fun y hI=>?_))))
 obtain ⟨j,σ3,z⟩:=y
 obtain ⟨hI,hzI⟩:=hI
 rcases j with _ | j
 ·simp [ze9] at hI
 dsimp only at hI hzI
 rw [Nat.add_one_mul] at hzI
 refine TC.sub (env':=[(12,_),(1,_),(2,_),(11,_)]) (L':=[(0,_),(1,_)]) ⟨rfl,rfl,rfl,rfl,trivial⟩ ⟨rfl,rfl,trivial⟩ (sA (TL.lss rfl rfl rfl rfl (fun q1=>?_) (fun q1=>?_)))
 refine dS (TC.condT rfl (TC.skip (TQ.then (TC.seq (TC.block (sA (xmi rfl (xai rfl ?_))))))))
 refine dG (xf 0 zap rfl (xf 0 zbe rfl (xL6 1 zbS rfl rfl (xmi rfl (xmi rfl ?_)))))
 rw [ze9,if_pos q1] at hI
 obtain ⟨⟨r,σ4⟩,h3,h4⟩:=Option.bind_eq_some_iff.1 hI
 refine xD [0] (zAb hM hl h3) zym rfl (dI (TL.add _ rfl rfl (rfl) rfl rfl (xmi rfl (TL.done (TQ.roundK ((j,_,_)) ⟨⟨h4,zaC⟩,Nat.lt_succ_self _⟩ ⟨rfl,trivial⟩ ⟨rfl,trivial⟩ (kE3 rfl rfl rfl trivial) (kL1 rfl trivial))))))
 refine dS (TC.condF rfl (TC.exit (TQ.thenExit (TQ.thenExit (TQ.blockHere ?_)))))
 refine FQ.end0 (Bs:=[A _]) [0] rfl rfl ⟨rfl,trivial⟩ ?_
 rw [ze9,if_neg q1] at hI; cases hI; exact ⟨rfl,rfl⟩
theorem zqT {S:Type} [MemLike S] {mt:TypeId} {mv:Value} {A:S->Assn} (hM:MemI Tryz.prog mt mv A) {l:Lay} (hl:l.Ok) {p:Pen} {σ:S} {s:Int} {k:Nat} {σ2:S} (h:treeUp l p k σ s=some σ2) (hz:Room (108 * k+42) σ:=by exact zaC):FnD Tryz.prog 247 [adjV l mt mv p,.int .i64 s] [A σ] (.tuple #[]) [A σ2]:=by
 unfold treeUp at h
 dsimp only at h
 obtain ⟨σ1,h1,h⟩:=Option.bind_eq_some_iff.1 h
 obtain ⟨⟨r,σ3⟩,h2,h3⟩:=Option.bind_eq_some_iff.1 h
 dsimp only at h3
 refine Fn.enter (Tryz.func247) rfl rfl (fun w0 R=>?_)
 refine sA (xB 1 rfl (fun bk1=>(dA (xf 0 zap rfl (xf 6 zaw rfl (xL4 1 za2 rfl rfl (xmi rfl (xD [0] (zdq hM hl) zdp rfl (TL.alloc 2 (cs:=#[.int .i64 0,.int .i64 0,.int .i64 0,.bool false]) zdi rfl rfl rfl (fun _=>trivial) (fun bk2=>?_))))))))))
 refine TL.stW 2 4 [_,_,_,_] rfl rfl rfl rfl rfl rfl zbR rfl rfl trivial (dA (xL10 1 zaY rfl rfl (xmi rfl (xf 2 zbD rfl (xli 2 zad rfl rfl (xD [0] (zlf hM hl h1) zn3 rfl (dA (xf 0 zap rfl ?_))))))))
 refine xf 6 zaw rfl (xL4 1 za2 rfl rfl (xmi rfl (xf 2 zbD rfl (xli 2 zad rfl rfl (TL.add _ rfl rfl (rfl) rfl rfl (xD [0] (zpv hM hl) zsQ rfl (dA (xf 0 zap rfl ?_))))))))
 refine xf 0 zbe rfl (xL6 1 zbS rfl rfl (xf 2 zbD rfl (xli 2 zad rfl rfl (TL.add _ rfl rfl (rfl) rfl rfl (xmi rfl (xf 0 zbn rfl (xli 2 zad rfl rfl (xf 1 zbm rfl ?_))))))))
 refine xli 2 zad rfl rfl (xD [0] (zsh hM hl h2) zs3 rfl (dG (xL10 1 zaY rfl rfl (xmi rfl (xf 2 zbD rfl (xli 2 zad rfl rfl (TL.add _ rfl rfl (rfl) rfl rfl (xD [0] (zlf hM hl h3) zn3 rfl ?_))))))))
 refine TL.done ?_
 refine FQ.end0 (Bs:=[A _]) [0] rfl rfl ⟨rfl,trivial⟩ ?_
 exact ⟨rfl,rfl⟩
theorem zuV {S:Type} [MemLike S] {mt:TypeId} {mv:Value} {A:S->Assn} (hM:MemI Tryz.prog mt mv A) {l:Lay} (hl:l.Ok) {p:Pen} {σ:S} {s:Int} {k:Nat} {σ2:S} (h:plain l k σ s=some σ2) (hz:Room (28 * k+64) σ:=by exact zaC):FnD Tryz.prog 249 [adjV l mt mv p,.int .i64 s] [A σ] (.tuple #[]) [A σ2]:=by
 unfold plain at h
 dsimp only at h
 obtain ⟨σ1,h1,h2⟩:=Option.bind_eq_some_iff.1 h
 refine Fn.enter (Tryz.func249) rfl rfl (fun w0 R=>?_)
 refine sA (xB 1 rfl (fun bk1=>(dA (xf 0 zap rfl (xf 6 zaw rfl (xL4 1 za2 rfl rfl (xmi rfl (xD [0] (zdq hM hl) zdp rfl (TL.fv 2 3 (.int _ _) rfl zhb zad rfl rfl rfl ?_)))))))))
 refine xai rfl (dA (xf 0 zap rfl (xL10 1 zao rfl rfl (xmi rfl (xD [0] (zjN hM hl h1) zn7 rfl (dA (xf 0 zap rfl (xf 6 zaw rfl ?_))))))))
 refine xL4 1 za2 rfl rfl (xmi rfl (xmi rfl (TL.add _ rfl rfl (rfl) rfl rfl (xD [0] (zpv hM hl) zsQ rfl (dG (xf 0 zap rfl (xL10 1 zao rfl rfl (xmi rfl ?_))))))))
 refine xD [0] (zm0 hM hl h2) ztl rfl (TL.done ?_)
 refine FQ.end0 (Bs:=[A _]) [0] rfl rfl ⟨rfl,trivial⟩ ?_
 exact ⟨rfl,rfl⟩
theorem zg3 {S:Type} [MemLike S] {mt:TypeId} {mv:Value} {A:S->Assn} (hM:MemI Tryz.prog mt mv A) {l:Lay} (hl:l.Ok) {p:Pen} {σ:S} {i v m r:Int} {k:Nat} {σ2:S} (h0:0<=m) (h:lfirst l k σ i v m=some (r,σ2)) (hz:Room (5 * k+1) σ:=by exact zaC):FnD Tryz.prog 246 [adjV l mt mv p,.int .i64 i,.int .i64 v,.int .i64 m] [A σ] (.int .i64 r) [A σ2]:=by
 unfold lfirst at h
 obtain ⟨⟨a,σ1⟩,h1,h2⟩:=Option.bind_eq_some_iff.1 h
 refine Fn.enter (Tryz.func246) rfl rfl (fun w0 R=>?_)
 refine sA (xB 1 rfl (fun bk1=>(xai rfl (dS (TC.draw (od [1,3,5,7,9,11,13,15,17,19,21,23,25,27,33,28,30,34,37]) [1] fc_m (by kernel_rfl) (xf 0 zap rfl (xf 0 zbe rfl (xf 0 zaj rfl (xL6 1 zaa rfl rfl ?_)))))))))
 refine xf 0 zap rfl (xf 0 zbe rfl (xf 0 zaj rfl (xL6 1 zaa rfl rfl (xf 0 zap rfl (xf 6 zaw rfl (xf 0 zaM rfl (xL3 1 zab rfl rfl (xmi rfl ?_))))))))
 refine xmi rfl (xmi rfl (xd [] (zcX hl) zfh rfl (kL1 rfl trivial) (xd [0] (zeY hM hl h1) zfg rfl (kL1 rfl trivial) (xd [0] (zvl hM hl h0 h2) zx6 rfl (kL1 rfl trivial) (xai rfl (dR ?_))))))
 refine FQ.ret1 (v:=(.int _ _)) (Bs:=[A _]) [0] rfl rfl rfl ⟨rfl,trivial⟩ ?_
 exact ⟨rfl,rfl⟩
theorem zup {S:Type} [MemLike S] {mt:TypeId} {mv:Value} {A:S->Assn} (hM:MemI Tryz.prog mt mv A) {l:Lay} (hl:l.Ok) {p:Pen} {σ:S} {i v:Int} {k:Nat} {σ2:S} (h:trees l p k σ i v=some σ2) (hz:Room (5 * k+1+k * (113 * k+43)) σ:=by exact zaC):FnD Tryz.prog 214 [adjV l mt mv p,.int .i64 i,.int .i64 v] [A σ] (.tuple #[]) [A σ2]:=by
 unfold trees at h
 obtain ⟨⟨a,σ1⟩,h1,h2⟩:=Option.bind_eq_some_iff.1 h
 dsimp only at h2
 refine Fn.enter (Tryz.func214) rfl rfl (fun w0 R=>?_)
 refine sA (xB 1 rfl (fun bk1=>(dA (xL10 1 zaY rfl rfl (xmi rfl (xmi rfl (xD [0] (zg3 hM hl (by decide) h1) zlA rfl (xai rfl (dK ?_)))))))))
 refine TC.loopK (X:=Nat×S×Int) [1,2,3] [1] (fun y=>[(6,.int .i64 y.2.2)]) (fun y=>[(0,A y.2.1)]) (fun y=>zcU l p i v y.1 k y.2.1 y.2.2=some σ2/\Room (y.1 * (113 * k+43)) y.2.1) (fun y=>y.1) ((k,_,_)) ⟨h2,zaC⟩ ⟨rfl,trivial⟩ ⟨rfl,trivial⟩ (fun y hI=>?_)
 obtain ⟨j,σ3,z⟩:=y
 obtain ⟨hI,hzI⟩:=hI
 rcases j with _ | j
 ·simp [zcU] at hI
 dsimp only at hI hzI
 rw [Nat.add_one_mul] at hzI
 refine TC.sub (env':=[(6,_),(1,_),(2,_),(3,_)]) (L':=[(0,_),(1,_)]) ⟨rfl,rfl,rfl,rfl,trivial⟩ ⟨rfl,rfl,trivial⟩ (sB (xmi rfl (TL.neq rfl rfl rfl rfl (fun q1=>?_) (fun q1=>?_))))
 refine TL.done (TQ.then (TC.condT rfl (TC.skip (TQ.then (TC.seq (TC.block (sA (xf 0 zap rfl ?_))))))))
 refine xf 6 zaw rfl (xf 0 zaM rfl (xL3 1 zab rfl rfl (xmi rfl (xD [] (zht hl) zkt rfl (xmu rfl (TL.ext (.agg _) rfl rfl rfl rfl (TL.ext (.bool _) rfl rfl rfl rfl (TL.alloc 2 (cs:=#[.bool false,.int .i64 0,.int .i64 0,.int .i64 0,.int .i64 0]) zgf rfl rfl rfl (fun _=>trivial) (fun bk2=>?_)))))))))
 refine TL.stW 2 5 [_,_,_,_,_] rfl rfl rfl rfl rfl rfl zcL rfl rfl trivial (xab rfl (dG (xL10 1 zaY rfl rfl (xf 3 zqx rfl (xli 2 zad rfl rfl ?_)))))
 rw [zcU,if_pos q1] at hI
 obtain ⟨σ4,h3,hI⟩:=Option.bind_eq_some_iff.1 hI
 obtain ⟨⟨r,σ5⟩,h5,h6⟩:=Option.bind_eq_some_iff.1 hI
 refine xD [0] (zqT hM hl h3) zye rfl (dI (xL10 1 zaY rfl rfl (xmi rfl (xmi rfl (xD [0] (zg3 hM hl (by decide) h5) zlA rfl (xai rfl (TL.done (TQ.roundK ((j,_,_)) ⟨⟨h6,zaC⟩,Nat.lt_succ_self _⟩ ⟨rfl,trivial⟩ ⟨rfl,trivial⟩ (kE3 rfl rfl rfl trivial) (kL1 rfl trivial)))))))))
 refine TL.done (TQ.then (TC.condF rfl (TC.exit (TQ.thenExit (TQ.thenExit (TQ.blockHere ?_))))))
 refine FQ.end0 (Bs:=[A _]) [0] rfl rfl ⟨rfl,trivial⟩ ?_
 rw [zcU,if_neg q1] at hI; cases hI; exact ⟨rfl,rfl⟩
theorem zw0 {S:Type} [MemLike S] {mt:TypeId} {mv:Value} {A:S->Assn} (hM:MemI Tryz.prog mt mv A) {l:Lay} (hl:l.Ok) {p:Pen} {σ:S} {i v:Int} {r:Int×Bool} {k:Nat} {σ2:S} (h:seek l k σ i v=some (r,σ2)) (hz:Room (5 * k+1+k * (35 * k+69)) σ:=by exact zaC):FnD Tryz.prog 215 [adjV l mt mv p,.int .i64 i,.int .i64 v] [A σ] (.tuple #[.int .i64 r.1,.bool r.2]) [A σ2]:=by
 unfold seek at h
 obtain ⟨⟨a,σ1⟩,h1,h2⟩:=Option.bind_eq_some_iff.1 h
 dsimp only at h2
 refine Fn.enter (Tryz.func215) rfl rfl (fun w0 R=>?_)
 refine sA (xB 1 rfl (fun bk1=>(xai rfl (xaf rfl (dB (xL10 1 zaY rfl rfl (xmi rfl (xmi rfl (xD [0] (zg3 hM hl (by decide) h1) zlA rfl ?_)))))))))
 refine xai rfl (dK (TC.loopK (X:=Nat×S×Int) [1,2,3] [1] (fun y=>[(8,.int .i64 y.2.2),(6,.int .i64 0),(7,.bool false)]) (fun y=>[(0,A y.2.1)]) (fun y=>zee l i v y.1 k y.2.1 y.2.2=some (r,σ2)/\Room (y.1 * (35 * k+69)) y.2.1) (fun y=>y.1) ((k,_,_)) ⟨h2,zaC⟩ ⟨rfl,rfl,rfl,trivial⟩ ⟨rfl,trivial⟩ (fun y hI=>?_)))
 obtain ⟨j,σ3,z⟩:=y
 obtain ⟨hI,hzI⟩:=hI
 rcases j with _ | j
 ·simp [zee] at hI
 dsimp only at hI hzI
 rw [Nat.add_one_mul] at hzI
 refine TC.sub (env':=[(8,_),(6,_),(7,_),(1,_),(2,_),(3,_)]) (L':=[(0,_),(1,_)]) ⟨rfl,rfl,rfl,rfl,rfl,rfl,trivial⟩ ⟨rfl,rfl,trivial⟩ (sB (xmi rfl (TL.neq rfl rfl rfl rfl (fun q1=>?_) (fun q1=>?_))))
 refine TL.done (TQ.then (TC.condT rfl (TC.skip (TQ.then (TC.seq (TC.block (sA (xf 0 zap rfl ?_))))))))
 refine xf 6 zaw rfl (xf 0 zaM rfl (xL3 1 zab rfl rfl (xmi rfl (xD [] (zht hl) zkt rfl (xmu rfl (TL.ext (.agg _) rfl rfl rfl rfl (TL.ext (.bool _) rfl rfl rfl rfl (TL.alloc 2 (cs:=#[.bool false,.int .i64 0,.int .i64 0,.int .i64 0,.int .i64 0]) zgf rfl rfl rfl (fun _=>trivial) (fun bk2=>?_)))))))))
 refine TL.stW 2 5 [_,_,_,_,_] rfl rfl rfl rfl rfl rfl zcL rfl rfl trivial (xab rfl (dA (xf 0 zap rfl (xL10 1 zao rfl rfl (xf 2 zqy rfl (xli 2 zad rfl rfl (xmi rfl (xD [0] (zue hM hl) zyd rfl ?_))))))))
 refine xmu rfl (xei rfl rfl (TL.ext (.bool _) rfl rfl rfl rfl (xai rfl (xab rfl (dB (xf 0 zap rfl (xf 6 zaw rfl (xL4 1 za2 rfl rfl ?_))))))))
 refine xmi rfl (xD [0] (zdq hM hl) zdp rfl (TL.alloc 3 (cs:=#[.int .i64 0,.int .i64 0,.int .i64 0,.bool false]) zdi rfl rfl rfl (fun _=>trivial) (fun bk3=>(TL.stW 3 4 [_,_,_,_] rfl rfl rfl rfl rfl rfl zbR rfl rfl trivial (dA (xf 0 zap rfl (xf 0 zbe rfl (xL6 1 zbS rfl rfl (xmi rfl ?_)))))))))
 refine xf 0 zbn rfl (xli 3 zad rfl rfl (xf 1 zbm rfl (xli 3 zad rfl rfl ?_)))
 rw [zee,if_pos q1] at hI
 dsimp only at hI
 obtain ⟨⟨b,σ4⟩,h3,hI⟩:=Option.bind_eq_some_iff.1 hI
 dsimp only at hI
 refine xD [0] (zrb hM hl h3) zs7 rfl (TL.cases rfl (fun q2=>?_) (fun q2=>?_))
 refine xnt rfl (TL.done (TQ.then (TC.condF rfl (TC.skip (TQ.then (TC.region (xL10 1 zaY rfl rfl (xmi rfl ?_))))))))
 rw [if_pos (by simpa using q2)] at hI
 obtain ⟨σ5,h4,hI⟩:=Option.bind_eq_some_iff.1 hI
 obtain ⟨⟨r2,σ6⟩,h5,h6⟩:=Option.bind_eq_some_iff.1 hI
 refine xD [0] (zuV hM hl h4) zyc rfl (dI (xL10 1 zaY rfl rfl (xmi rfl (xmi rfl (xD [0] (zg3 hM hl (by decide) h5) zlA rfl (xai rfl (TL.done (TQ.roundK ((j,_,_)) ⟨⟨h6,zaC⟩,Nat.lt_succ_self _⟩ ⟨rfl,rfl,rfl,trivial⟩ ⟨rfl,trivial⟩ (kE3 rfl rfl rfl trivial) (kL1 rfl trivial)))))))))
 refine xnf rfl (dT rfl (xmi rfl (xai rfl (xat rfl (dRR (TQ.blockRet (TQ.thenRet (TQ.thenRet ?_))))))))
 refine TQ.blockRet (TQ.thenRet ?_)
 refine FQ.ret2 (v:=(.int _ _)) (x:=(.bool true)) (Bs:=[A _]) [0] rfl rfl rfl rfl ⟨rfl,trivial⟩ ?_
 rw [if_neg (by simpa using q2)] at hI; cases hI; exact ⟨rfl,rfl⟩
 refine dE rfl (sA (xai rfl (xaf rfl (dR ?_))))
 refine FQ.ret2 (v:=(.int _ _)) (x:=(.bool false)) (Bs:=[A _]) [0] rfl rfl rfl rfl ⟨rfl,trivial⟩ ?_
 rw [zee,if_neg q1] at hI; cases hI; exact ⟨rfl,rfl⟩
theorem zpX {S:Type} [MemLike S] {mt:TypeId} {mv:Value} {A:S->Assn} (hM:MemI Tryz.prog mt mv A) {l:Lay} (hl:l.Ok) {p:Pen} {σ:S} {i u v r:Int} {k:Nat} {σ2:S} (h:smaller l k σ i u v=some (r,σ2)) (hz:Room (2 * k+2) σ:=by exact zaC):FnD Tryz.prog 213 [adjV l mt mv p,.int .i64 i,.int .i64 u,.int .i64 v] [A σ] (.int .i64 r) [A σ2]:=by
 unfold smaller at h
 obtain ⟨⟨a,σ1⟩,h1,h⟩:=Option.bind_eq_some_iff.1 h
 obtain ⟨⟨b,σ3⟩,h2,h⟩:=Option.bind_eq_some_iff.1 h
 dsimp only at h2 h
 cases h
 refine Fn.enter (Tryz.func213) rfl rfl (fun w0 R=>?_)
 refine sA (xB 1 rfl (fun bk1=>(xai rfl (dS (TC.seq (TC.draw (od [1,3,5,7,9,13,15,17,19,21,10,22,25]) [1] fc_m (by kernel_rfl) (xf 0 zap rfl (xf 0 zbe rfl (xL6 1 zbS rfl rfl ?_)))))))))
 refine xmi rfl (xmi rfl (xf 0 zap rfl (xf 0 zbe rfl (xL6 1 zbS rfl rfl (xmi rfl (xmi rfl (xd [0] (zpA hM hl h1) zsS rfl (kL1 rfl trivial) (xd [0] (zpA hM hl h2) zsS rfl (kL1 rfl trivial) ?_))))))))
 refine TL.lss rfl rfl rfl rfl (fun q1=>?_) (fun q1=>?_)
 refine dT rfl (xmi rfl (xai rfl (dRR ?_)))
 refine FQ.ret1 (v:=(.int _ _)) (Bs:=[A _]) [0] rfl rfl rfl ⟨rfl,trivial⟩ ?_
 first | exact ⟨iE (by rw [if_pos q1]),rfl⟩ | exact ⟨iE (by rw [if_neg q1]),rfl⟩
 refine dF rfl (xmi rfl (xai rfl (dR ?_)))
 refine FQ.ret1 (v:=(.int _ _)) (Bs:=[A _]) [0] rfl rfl rfl ⟨rfl,trivial⟩ ?_
 first | exact ⟨iE (by rw [if_pos q1]),rfl⟩ | exact ⟨iE (by rw [if_neg q1]),rfl⟩
theorem zg6 {mt:TypeId} {mv:Value} {l:Lay} {p:Pen}:FnD Tryz.prog 133 [layV l,.iface mt mv,.agg #[.int .i64 p.thread,.int .i64 p.tag]] [] (adjV l mt mv p) []:=by
 refine Fn.enter (Tryz.func133) rfl rfl (fun w0 R=>?_)
 refine sA (xB 0 rfl (fun bk0=>(xB 1 rfl (fun bk1=>(TL.alloc 2 (cs:=#[.int .i64 0,.int .i64 0,.int .i64 0,.nilIface,.int .i64 0,.int .i64 0,.int .i64 0,.int .i64 0,.int .i64 0,.nilIface]) zsE rfl rfl rfl (fun _=>trivial) (fun bk2=>(dA (xL3 0 zab rfl rfl (xmc rfl (xL2 1 za9 rfl rfl (TL.bld [.int .i64 0,.int .i64 0,.int .i64 0,.nilIface,.int .i64 0,.int .i64 0] [(.agg _),(.iface _ _),(.agg _)] [_,_,_,_,_,_] zjj znV ⟨rfl,rfl,rfl,trivial⟩ ⟨rfl,rfl⟩ rfl rfl ?_)))))))))))
 refine TL.bld [.int .i64 0,.int .i64 0,.int .i64 0,.nilIface,.int .i64 0,.int .i64 0] [(.agg _)] [_,_,_,_,_,_] zsF zx1 ⟨rfl,trivial⟩ ⟨rfl,rfl⟩ rfl rfl (TL.alloc 3 (cs:=#[.int .i64 0,.int .i64 0,.int .i64 0,.nilIface,.int .i64 0,.int .i64 0]) zsF rfl rfl rfl (fun _=>trivial) (fun bk3=>(TL.stW 3 6 [_,_,_,_,_,_] rfl rfl rfl rfl rfl rfl zbS rfl rfl trivial (dA (xL6 3 zbS rfl rfl (xL3 0 zab rfl rfl (xmc rfl (TL.bld [.int .i64 0,.int .i64 0,.int .i64 0,.nilIface] [(.agg _),(.iface _ _)] [_,_,_,_] zxR zx0 ⟨rfl,rfl,trivial⟩ ⟨rfl,rfl⟩ rfl rfl ?_))))))))
 refine TL.bld [.int .i64 0,.int .i64 0,.int .i64 0,.nilIface,.int .i64 0,.int .i64 0,.int .i64 0,.int .i64 0,.int .i64 0,.nilIface] [(.agg _),(.agg _)] [_,_,_,_,_,_,_,_,_,_] zxQ zxZ ⟨rfl,rfl,trivial⟩ ⟨rfl,rfl⟩ rfl rfl (TL.bld [.int .i64 0,.int .i64 0,.int .i64 0,.nilIface,.int .i64 0,.int .i64 0,.int .i64 0,.int .i64 0,.int .i64 0,.nilIface] [(.agg _)] [_,_,_,_,_,_,_,_,_,_] zxP zxY ⟨rfl,trivial⟩ ⟨rfl,rfl⟩ rfl rfl (TL.bld [.int .i64 0,.int .i64 0,.int .i64 0,.nilIface,.int .i64 0,.int .i64 0,.int .i64 0,.int .i64 0,.int .i64 0,.nilIface] [(.agg _)] [_,_,_,_,_,_,_,_,_,_] zsE zxX ⟨rfl,trivial⟩ ⟨rfl,rfl⟩ rfl rfl ?_))
 refine TL.stW 2 10 [_,_,_,_,_,_,_,_,_,_] rfl rfl rfl rfl rfl rfl zcf rfl rfl trivial (dR ?_)
 refine FQ.retG (rs:=[.cell 6 196]) [(.agg _)] (Bs:=[]) [] rfl ⟨⟨_,_,_,_,_,2,rfl,rfl,.inr ⟨10,[_,_,_,_,_,_,_,_,_,_],zcf,rfl,rfl⟩⟩,trivial⟩ rfl rfl trivial ?_
 exact ⟨rfl,rfl⟩
theorem zsm {S:Type} [MemLike S] {mt:TypeId} {mv:Value} {A:S->Assn} (hM:MemI Tryz.prog mt mv A) {l:Lay} (hl:l.Ok) {p:Pen} {σ:S} {u v:Int} {b:Bool} {k:Nat} {σ2:S} (h:same l k σ 0 u v=some (b,σ2)) (hz:Room (2 * k) σ:=by exact zaC):FnD Tryz.prog 160 [adjV l mt mv p,.int .i64 u,.int .i64 v] [A σ] (.bool b) [A σ2]:=by
 refine Fn.enter (Tryz.func160) rfl rfl (fun w0 R=>?_)
 refine sA (xB 1 rfl (fun bk1=>(xaf rfl (dA (xf 0 zaT rfl (xf 0 zap rfl (xf 0 zbe rfl (xL6 1 zbS rfl rfl (xmi rfl ?_)))))))))
 refine xmi rfl (xD [0] (zrb hM hl h) zs7 rfl (xab rfl (dR ?_)))
 refine FQ.ret1 (v:=(.bool _)) (Bs:=[A _]) [0] rfl rfl rfl ⟨rfl,trivial⟩ ?_
 exact ⟨rfl,rfl⟩
theorem zqs {S:Type} [MemLike S] {mt:TypeId} {mv:Value} {A:S->Assn} (hM:MemI Tryz.prog mt mv A) {l:Lay} (hl:l.Ok) {p:Pen} {σ:S} {s u v:Int} {b:Bool} {k:Nat} {σ2:S} (h:zbt l p k σ s u v=some (b,σ2)) (hz:Room (23 * k+46+k * (94 * k+24)) σ:=by exact zaC):FnD Tryz.prog 120 [adjV l mt mv p,.int .i64 s,.int .i64 u,.int .i64 v] [A σ] (.bool b) [A σ2]:=by
 unfold zbt at h
 obtain ⟨⟨j,σ1⟩,h1,h⟩:=Option.bind_eq_some_iff.1 h
 dsimp only at h
 refine Fn.enter (Tryz.func120) rfl rfl (fun w0 R=>?_)
 refine sA (xB 1 rfl (fun bk1=>(xaf rfl (dA (xL10 1 zcf rfl rfl (xmi rfl (xmi rfl (xD [0] (zsm hM hl h1) zyx rfl (xab rfl ?_)))))))))
 refine dA (xf 0 zaT rfl (xf 0 zap rfl (xf 6 zaw rfl (xL4 1 za2 rfl rfl (xmi rfl (xmi rfl (xmi rfl (xD [0] (zyP hM hl) zyw rfl ?_))))))))
 refine dB (xmb rfl (TL.cases rfl (fun q1=>?_) (fun q1=>?_)))
 refine TL.done (TQ.then (TC.condT rfl (TC.region (xf 0 zaT rfl (xf 0 zap rfl (xL10 1 zao rfl rfl (xmi rfl ?_)))))))
 rw [if_pos (by simpa using q1)] at h
 obtain ⟨σ3,h2,h3⟩:=Option.bind_eq_some_iff.1 h
 cases h3
 refine xD [0] (zm0 hM hl h2) ztl rfl (dA (xmb rfl (TL.not _ _ rfl rfl rfl rfl (xab rfl (dR ?_)))))
 refine FQ.ret1 (v:=(.bool _)) (Bs:=[A _]) [0] rfl rfl rfl ⟨rfl,trivial⟩ ?_
 first | exact ⟨by rw [q1]; rfl,rfl⟩ | exact ⟨by simp [*],rfl⟩
 refine TL.done (TQ.then (TC.condF rfl (TC.region (xf 0 zaT rfl (xL10 1 zaY rfl rfl (xmi rfl ?_))))))
 rw [if_neg (by simpa using q1)] at h
 obtain ⟨σ3,h2,h3⟩:=Option.bind_eq_some_iff.1 h
 cases h3
 refine xD [0] (zoS hM hl h2) ztk rfl (dA (xmb rfl (TL.not _ _ rfl rfl rfl rfl (xab rfl (dR ?_)))))
 refine FQ.ret1 (v:=(.bool _)) (Bs:=[A _]) [0] rfl rfl rfl ⟨rfl,trivial⟩ ?_
 first | exact ⟨by rw [q1]; rfl,rfl⟩ | exact ⟨by simp [*],rfl⟩
theorem zp5 {S:Type} [MemLike S] {mt:TypeId} {mv:Value} {A:S->Assn} (hM:MemI Tryz.prog mt mv A) {l:Lay} (hl:l.Ok) {p:Pen} {σ:S} {i u v:Int} {r:Int×Bool} {k:Nat} {σ2:S} (h:replace l p k σ i u v=some (r,σ2)) (hz:Room (33 * k+45+k * (113 * k+43)+k * (35 * k+69)+k * (94 * k+24)) σ:=by exact zaC):FnD Tryz.prog 176 [adjV l mt mv p,.int .i64 i,.int .i64 u,.int .i64 v] [A σ] (.tuple #[.int .i64 r.1,.bool r.2]) [A σ2]:=by
 unfold replace at h
 refine Fn.enter (Tryz.func176) rfl rfl (fun w0 R=>?_)
 refine sA (xB 1 rfl (fun bk1=>(xai rfl (xaf rfl (dB (xmi rfl (TL.add _ rfl rfl (rfl) rfl rfl (xf 0 zaT rfl (xf 0 zap rfl ?_)))))))))
 refine xf 6 zaw rfl (xf 0 zaM rfl (xL3 1 zab rfl rfl (xD [] (zcH hl) zgh rfl (TL.geq rfl rfl rfl rfl (fun q1=>?_) (fun q1=>?_)))))
 refine dT rfl (xai rfl (xaf rfl (dRR ?_)))
 refine FQ.ret2 (v:=(.int _ _)) (x:=(.bool false)) (Bs:=[A _]) [0] rfl rfl rfl rfl ⟨rfl,trivial⟩ ?_
 first | (rw [if_pos (by omega)] at h; cases h; exact ⟨rfl,rfl⟩) | exact ⟨by dsimp only at q2; rw [q2],rfl⟩ | (rw [if_neg (by simpa using q2)] at h; cases h; exact ⟨by simp_all,rfl⟩)
 refine dF rfl (xf 0 zaT rfl (xL10 1 zaY rfl rfl (xmi rfl (xmi rfl (xmi rfl ?_)))))
 rw [if_neg (by omega)] at h
 obtain ⟨⟨w,σ3⟩,h1,h⟩:=Option.bind_eq_some_iff.1 h
 obtain ⟨σ4,h2,h⟩:=Option.bind_eq_some_iff.1 h
 obtain ⟨⟨⟨b,ok⟩,σ5⟩,h3,h⟩:=Option.bind_eq_some_iff.1 h
 dsimp only at h2 h3 h
 refine xD [0] (zpX hM hl h1) zyl rfl (xai rfl (dA (xf 0 zaT rfl (xL10 1 zaY rfl rfl (xmi rfl (xmi rfl (xD [0] (zup hM hl h2) zyk rfl (dB ?_))))))))
 refine xf 0 zaT rfl (xL10 1 zaY rfl rfl (xmi rfl (xmi rfl (xD [0] (zw0 hM hl h3) zyj rfl (xmu rfl (xei rfl rfl (TL.ext (.bool _) rfl rfl rfl rfl (xai rfl ?_))))))))
 refine xab rfl (dA (xmb rfl (TL.cases rfl (fun q2=>?_) (fun q2=>?_))))
 refine dT rfl (xf 0 zaT rfl (xf 0 zap rfl (xL10 1 zao rfl rfl (xmi rfl ?_))))
 rw [if_pos (by simpa using q2)] at h
 obtain ⟨σ6,h4,h⟩:=Option.bind_eq_some_iff.1 h
 obtain ⟨σ7,h5,h6⟩:=Option.bind_eq_some_iff.1 h
 cases h6
 refine xD [0] (zjN hM hl h4) zn7 rfl (dG (xf 0 zaT rfl (xL10 1 zaY rfl rfl (xmi rfl (xD [0] (zoS hM hl h5) ztk rfl (dA (xmi rfl (xmb rfl ?_))))))))
 refine xai rfl (xab rfl (dR ?_))
 refine FQ.ret2 (v:=(.int _ _)) (x:=(.bool _)) (Bs:=[A _]) [0] rfl rfl rfl rfl ⟨rfl,trivial⟩ ?_
 first | (rw [if_pos (by omega)] at h; cases h; exact ⟨rfl,rfl⟩) | exact ⟨by dsimp only at q2; rw [q2],rfl⟩ | (rw [if_neg (by simpa using q2)] at h; cases h; exact ⟨by simp_all,rfl⟩)
 refine dF rfl (xmi rfl (xmb rfl (xai rfl (xab rfl (dR ?_)))))
 refine FQ.ret2 (v:=(.int _ _)) (x:=(.bool _)) (Bs:=[A _]) [0] rfl rfl rfl rfl ⟨rfl,trivial⟩ ?_
 first | (rw [if_pos (by omega)] at h; cases h; exact ⟨rfl,rfl⟩) | exact ⟨by dsimp only at q2; rw [q2],rfl⟩ | (rw [if_neg (by simpa using q2)] at h; cases h; exact ⟨by simp_all,rfl⟩)
theorem zeI {S:Type} [MemLike S] {mt:TypeId} {mv:Value} {A:S->Assn} (hM:MemI Tryz.prog mt mv A) {l:Lay} (hl:l.Ok) {p:Pen} {σ:S} {s b:Int} {t o:Bool} {k:Nat} {σ2:S} (h:zbu l p k σ s=some ((t,b,o),σ2)) (hz:Room (14 * k+37+k * (69 * k+36)+k * (33 * k+45+k * (113 * k+43)+k * (35 * k+69)+k * (94 * k+24))) σ:=by exact zaC):FnD Tryz.prog 135 [adjV l mt mv p,.int .i64 s] [A σ] (.tuple #[.bool t,.int .i64 b,.bool o]) [A σ2]:=by
 unfold zbu at h
 dsimp only at h
 refine Fn.enter (Tryz.func135) rfl rfl (fun w0 R=>?_)
 refine sA (xB 1 rfl (fun bk1=>(xaf rfl (xai rfl (xaf rfl (dA (xf 0 zaT rfl (xf 0 zap rfl (xf 6 zaw rfl ?_)))))))))
 refine xL4 1 za2 rfl rfl (xmi rfl (xD [0] (zdq hM hl) zdp rfl (TL.alloc 2 (cs:=#[.int .i64 0,.int .i64 0,.int .i64 0,.bool false]) zdi rfl rfl rfl (fun _=>trivial) (fun bk2=>(TL.stW 2 4 [_,_,_,_] rfl rfl rfl rfl rfl rfl zbR rfl rfl trivial (dB (xf 3 znW rfl (xlb 2 zdb rfl rfl (TL.not _ _ rfl rfl rfl rfl ?_)))))))))
 refine TL.done (TQ.then (TC.cond rfl (fun q1=>?_) (fun q1=>?_)))
 refine sA (xf 0 zaT rfl (xf 0 zap rfl (xL10 1 zao rfl rfl (xmi rfl ?_))))
 rw [if_neg (by simpa using q1)] at h
 obtain ⟨σ3,h1,h2⟩:=Option.bind_eq_some_iff.1 h
 cases h2
 refine xD [0] (zjN hM hl h1) zn7 rfl (dA (xf 0 zaT rfl (xf 0 zap rfl (xf 6 zaw rfl (xL4 1 za2 rfl rfl (xf 0 zbn rfl (xli 2 zad rfl rfl (xf 1 zbm rfl ?_))))))))
 refine xli 2 zad rfl rfl (xD [0] (zkw hM hl) zth rfl (dA (xaf rfl (xai rfl (xaf rfl (dRR ?_))))))
 refine FQ.ret3 (v:=(.bool false)) (x:=(.int _ _)) (y:=(.bool false)) (Bs:=[A _]) [0] rfl rfl rfl rfl rfl ⟨rfl,trivial⟩ ?_
 exact ⟨rfl,rfl⟩
 refine TC.skip (TQ.then (sA (xf 0 zaT rfl (xL10 1 zaY rfl rfl (xmi rfl ?_)))))
 rw [if_pos (by simpa using q1)] at h
 obtain ⟨σ3,h1,h⟩:=Option.bind_eq_some_iff.1 h
 obtain ⟨⟨⟨b2,o2⟩,σ4⟩,h2,h3⟩:=Option.bind_eq_some_iff.1 h
 dsimp only at h2 h3
 cases h3
 refine xD [0] (zxM hM hl h1) zyt rfl (dA (xf 0 zaT rfl (xf 0 zap rfl (xf 6 zaw rfl (xL4 1 za2 rfl rfl (xf 0 zbn rfl (xli 2 zad rfl rfl (xf 1 zbm rfl ?_))))))))
 refine xli 2 zad rfl rfl (xD [0] (zkw hM hl) zth rfl (dB (xf 2 zbD rfl (xli 2 zad rfl rfl (xai rfl (dK (TC.loopK (X:=Nat×S×Int×Int×Bool) [2,4,7] [1,2] (fun y=>[(8,.int .i64 y.2.2.1),(5,.int .i64 y.2.2.2.1),(6,.bool y.2.2.2.2)]) (fun y=>[(0,A y.2.1)]) (fun y=>zbp l p (eget l σ s).u (eget l σ s).v y.1 k y.2.1 y.2.2.1 (y.2.2.2.1,y.2.2.2.2)=some ((b,o),σ2)/\Room (y.1 * (33 * k+45+k * (113 * k+43)+k * (35 * k+69)+k * (94 * k+24))) y.2.1) (fun y=>y.1) ((k,_,_,0,false)) ⟨h2,zaC⟩ ⟨rfl,rfl,rfl,trivial⟩ ⟨rfl,trivial⟩ (fun y hI=>?_))))))))
 obtain ⟨j,σ5,z,b4,o4⟩:=y
 obtain ⟨hI,hzI⟩:=hI
 rcases j with _ | j
 ·simp [zbp] at hI
 dsimp only at hI hzI
 rw [Nat.add_one_mul] at hzI
 refine TC.sub (env':=[(8,_),(5,_),(6,_),(2,_),(4,_),(7,_)]) (L':=[(0,_),(1,_),(2,_)]) ⟨rfl,rfl,rfl,rfl,rfl,rfl,trivial⟩ ⟨rfl,rfl,rfl,trivial⟩ (sB (xmi rfl (TL.geq rfl rfl rfl rfl (fun q2=>?_) (fun q2=>?_))))
 refine TL.done (TQ.then (TC.condT rfl (TC.skip (TQ.then (TC.seq (TC.block (sA (xL10 1 zcf rfl rfl ?_))))))))
 refine xmi rfl (xf 0 zbn rfl (xli 2 zad rfl rfl (xf 1 zbm rfl (xli 2 zad rfl rfl ?_))))
 rw [zbp,if_pos q2] at hI
 obtain ⟨⟨⟨b3,o3⟩,σ6⟩,h4,hI⟩:=Option.bind_eq_some_iff.1 hI
 dsimp only at h4 hI
 refine xD [0] (zp5 hM hl h4) zys rfl (xmu rfl (xei rfl rfl (TL.ext (.bool _) rfl rfl rfl rfl (xai rfl (xab rfl (dA (xmb rfl (TL.cases rfl (fun q3=>?_) (fun q3=>?_)))))))))
 refine TL.done (TQ.then (TC.condT rfl (TC.exit (TQ.blockOut rfl (TQ.thenExit (TQ.thenExit (TQ.blockHere (TQ.then ?_))))))))
 refine sA (xmi rfl (xmb rfl (xat rfl (xai rfl (xab rfl (dR ?_))))))
 refine FQ.ret3 (v:=(.bool true)) (x:=(.int _ _)) (y:=(.bool _)) (Bs:=[A _]) [0] rfl rfl rfl rfl rfl ⟨rfl,trivial⟩ ?_
 rw [if_pos (by simpa using q3)] at hI; cases hI; exact ⟨rfl,rfl⟩
 refine TL.done (TQ.then (TC.condF rfl (TC.skip (TQ.inBlock (TQ.then (TC.region (xmi rfl (TL.sub _ rfl rfl (rfl) rfl rfl ?_))))))))
 refine xai rfl (TL.done (TQ.roundK ((j,_,_,_,_)) ⟨⟨(by rw [if_neg (by simpa using q3)] at hI; exact hI),zaC⟩,Nat.lt_succ_self _⟩ ⟨rfl,rfl,rfl,trivial⟩ ⟨rfl,trivial⟩ (kE3 rfl rfl rfl trivial) (kL2 rfl rfl trivial)))
 refine dE rfl (sA (xmi rfl (xmb rfl (xat rfl (xai rfl (xab rfl (dR ?_)))))))
 refine FQ.ret3 (v:=(.bool true)) (x:=(.int _ _)) (y:=(.bool _)) (Bs:=[A _]) [0] rfl rfl rfl rfl rfl ⟨rfl,trivial⟩ ?_
 rw [zbp,if_neg q2] at hI; cases hI; exact ⟨rfl,rfl⟩
theorem at_Li {ab mb N cap:Nat} {c:Cnt} {i:Int} (h0:0<=i) (h1:i<N):FnD Tryz.prog 82 [.pointer (some ⟨ab,0,none⟩),.int .i64 i,.pointer (some ⟨ab,1,none⟩)] [arO ab mb (N) cap 139 c] (.pointer (some ⟨mb,0+i.toNat * 1,none⟩)) [arO ab mb (N) cap 139 c.ld]:=by
 refine Fn.enter (Tryz.func82) rfl rfl (fun w0 R=>?_)
 refine sA (TL.asg (.pointer none) rfl rfl rfl (dB (xmi rfl (TL.lssF rfl rfl (by omega) rfl rfl (xmf rfl (xmi rfl (xmp rfl (xN0 rfl ?_))))))))
 refine xf 0 zdm rfl (xls 0 zh1 rfl rfl (xz za4 rfl (TL.geqF rfl rfl (by omega) rfl rfl (xpF rfl (dF rfl (xmp rfl (xN0 rfl (xli 0 zad rfl rfl ?_))))))))
 refine TL.add _ rfl rfl (rfl) rfl rfl (xN0 rfl (TL.st 0 #[_,_,_,_,_,_] (.int _ _) rfl rfl rfl rfl rfl rfl zad rfl rfl trivial (dA (xmp rfl (xN0 rfl (xf 0 zdm rfl (xls 0 zh1 rfl rfl (xmi rfl ?_))))))))
 refine TL.ia _ rfl rfl za4 (by omega) (by omega) rfl rfl rfl (xap rfl (dR ?_))
 refine FQ.ret1 (v:=(.pointer (some ⟨_,_,none⟩))) (Bs:=[_]) [0] rfl rfl rfl ⟨rfl,trivial⟩ ?_
 exact ⟨rfl,rfl⟩
theorem at_Si {ab mb N cap:Nat} {c:Cnt} {i:Int} (h0:0<=i) (h1:i<N):FnD Tryz.prog 82 [.pointer (some ⟨ab,0,none⟩),.int .i64 i,.pointer (some ⟨ab,2,none⟩)] [arO ab mb (N) cap 139 c] (.pointer (some ⟨mb,0+i.toNat * 1,none⟩)) [arO ab mb (N) cap 139 c.st]:=by
 refine Fn.enter (Tryz.func82) rfl rfl (fun w0 R=>?_)
 refine sA (TL.asg (.pointer none) rfl rfl rfl (dB (xmi rfl (TL.lssF rfl rfl (by omega) rfl rfl (xmf rfl (xmi rfl (xmp rfl (xN0 rfl ?_))))))))
 refine xf 0 zdm rfl (xls 0 zh1 rfl rfl (xz za4 rfl (TL.geqF rfl rfl (by omega) rfl rfl (xpF rfl (dF rfl (xmp rfl (xN0 rfl (xli 0 zad rfl rfl ?_))))))))
 refine TL.add _ rfl rfl (rfl) rfl rfl (xN0 rfl (TL.st 0 #[_,_,_,_,_,_] (.int _ _) rfl rfl rfl rfl rfl rfl zad rfl rfl trivial (dA (xmp rfl (xN0 rfl (xf 0 zdm rfl (xls 0 zh1 rfl rfl (xmi rfl ?_))))))))
 refine TL.ia _ rfl rfl za4 (by omega) (by omega) rfl rfl rfl (xap rfl (dR ?_))
 refine FQ.ret1 (v:=(.pointer (some ⟨_,_,none⟩))) (Bs:=[_]) [0] rfl rfl rfl ⟨rfl,trivial⟩ ?_
 exact ⟨rfl,rfl⟩
theorem at_o {ab mb N cap k:Nat} {c:Cnt} {i:Int} (h:¬(0<=i/\i<N)):FnD Tryz.prog 82 [.pointer (some ⟨ab,0,none⟩),.int .i64 i,.pointer (some ⟨ab,k,none⟩)] [arO ab mb (N) cap 139 c] (.pointer none) [arO ab mb (N) cap 139 c]:=by
 refine Fn.enter (Tryz.func82) rfl rfl (fun w0 R=>?_)
 refine sA (TL.asg (.pointer none) rfl rfl rfl (dB (xmi rfl (TL.lss rfl rfl rfl rfl (fun q1=>?_) (fun q1=>?_)))))
 refine xmt rfl (xo rfl (xo rfl (xo rfl (xo rfl (xo rfl (xo rfl (xo rfl (xpT rfl ?_))))))))
 refine dT rfl (TL.asg (.pointer none) rfl rfl rfl (dRR ?_))
 refine FQ.ret1 (v:=(.pointer none)) (Bs:=[_]) [0] rfl rfl rfl ⟨rfl,trivial⟩ ?_
 exact ⟨rfl,rfl⟩
 refine xmf rfl (xmi rfl (xmp rfl (xN0 rfl (xf 0 zdm rfl (xls 0 zh1 rfl rfl (xz za4 rfl (TL.geq rfl rfl rfl rfl (fun q2=>?_) (fun q2=>?_))))))))
 refine xpH rfl (dT rfl (TL.asg (.pointer none) rfl rfl rfl (dRR ?_)))
 refine FQ.ret1 (v:=(.pointer none)) (Bs:=[_]) [0] rfl rfl rfl ⟨rfl,trivial⟩ ?_
 exact ⟨rfl,rfl⟩
 refine xpF rfl (TL.done (TQ.then (TC.condF rfl (TC.skip (TQ.then (TC.seq ?_))))))
 exact absurd (by omega:False) id
theorem zy5 {ab mb cap:Nat} {rs:Array Value} {σ:Array UInt64} {c:Cnt} {i:Int} (h0:0<=i) (h1:i<σ.size):FnD Tryz.prog 23 [.pointer (some ⟨ab,0,none⟩),.int .i64 i] [arO ab mb (σ.size) cap 139 c,pt mb (.cells (encM (σ)++rs) 29)] (.tuple #[.int .u64 (MemLike.get σ i),.int .i64 0]) [arO ab mb (σ.size) cap 139 c.ld,pt mb (.cells (encM (σ)++rs) 29)]:=by
 refine Fn.enter (Tryz.func23) rfl rfl (fun w0 R=>?_)
 refine sA (xai rfl (xai rfl (dA (xmp rfl (xmi rfl (xmp rfl (xN0 rfl (xf 1 zea rfl ?_))))))))
 refine xf 0 zjr rfl (xD [0] (at_Li h0 h1) zpp rfl (xap rfl (dB (xmp rfl (TL.nilP false rfl rfl zlx rfl rfl rfl (dF rfl (xmp rfl (xN0 rfl ?_))))))))
 refine TL.ldM 1 rfl rfl (by omega) (by omega) zkl rfl rfl (xai rfl (xai rfl (dR ?_)))
 refine FQ.ret2 (v:=(.int _ _)) (x:=(.int _ _)) (Bs:=[_,_]) [0,1] rfl rfl rfl rfl ⟨rfl,rfl,trivial⟩ ?_
 exact ⟨rfl,rfl⟩
theorem zy4 {ab mb cap:Nat} {rs:Array Value} {σ:Array UInt64} {c:Cnt} {i:Int} (h:¬(0<=i/\i<σ.size)):FnD Tryz.prog 23 [.pointer (some ⟨ab,0,none⟩),.int .i64 i] [arO ab mb (σ.size) cap 139 c,pt mb (.cells (encM (σ)++rs) 29)] (.tuple #[.int .u64 (MemLike.get σ i),.int .i64 20]) [arO ab mb (σ.size) cap 139 c,pt mb (.cells (encM (σ)++rs) 29)]:=by
 refine Fn.enter (Tryz.func23) rfl rfl (fun w0 R=>?_)
 refine sA (xai rfl (xai rfl (dA (xmp rfl (xmi rfl (xmp rfl (xN0 rfl (xf 1 zea rfl ?_))))))))
 refine xf 0 zjr rfl (xD [0] (at_o h) zpp rfl (TL.asg (.pointer none) rfl rfl rfl (dB (TL.mv (.pointer none) rfl rfl rfl (TL.nilP true rfl rfl zlx rfl rfl rfl (dT rfl (xai rfl (xai rfl ?_))))))))
 refine dRR ?_
 refine FQ.ret2 (v:=(.int _ _)) (x:=(.int _ _)) (Bs:=[_,_]) [0,1] rfl rfl rfl rfl ⟨rfl,rfl,trivial⟩ ?_
 exact ⟨by rw [zfO,if_neg h],rfl⟩
theorem zvP {ab mb cap:Nat} {rs:Array Value} {σ:Array UInt64} {c:Cnt} {i:Int} (h0:0<=i) (h1:i<σ.size) {y:Int} (hv:0<=y/\y<18446744073709551616):FnD Tryz.prog 17 [.pointer (some ⟨ab,0,none⟩),.int .i64 i,.int .u64 y] [arO ab mb (σ.size) cap 139 c,pt mb (.cells (encM (σ)++rs) 29)] (.int .i64 0) [arO ab mb (σ.size) cap 139 c.st,pt mb (.cells (encM (MemLike.st σ i y)++rs) 29)]:=by
 refine Fn.enter (Tryz.func17) rfl rfl (fun w0 R=>?_)
 refine sA (xai rfl (dA (xmp rfl (xmi rfl (xmp rfl (xN0 rfl (xf 1 zea rfl (xf 1 zjq rfl ?_))))))))
 refine xD [0] (at_Si h0 h1) zpp rfl (xap rfl (dB (xmp rfl (TL.nilP false rfl rfl zlx rfl rfl rfl (dF rfl (xmp rfl (xmi rfl (xN0 rfl ?_))))))))
 refine TL.stM 1 rfl rfl rfl (by omega) (by omega) (by omega) zkl rfl rfl trivial (dA (xai rfl (dR ?_)))
 refine FQ.ret1 (v:=(.int _ _)) (Bs:=[_,_]) [0,1] rfl rfl rfl ⟨rfl,rfl,trivial⟩ ?_
 exact ⟨rfl,rfl⟩
theorem zvO {ab mb cap:Nat} {rs:Array Value} {σ:Array UInt64} {c:Cnt} {i:Int} (h:¬(0<=i/\i<σ.size)) {y:Int} (hv:0<=y/\y<18446744073709551616):FnD Tryz.prog 17 [.pointer (some ⟨ab,0,none⟩),.int .i64 i,.int .u64 y] [arO ab mb (σ.size) cap 139 c,pt mb (.cells (encM (σ)++rs) 29)] (.int .i64 20) [arO ab mb (σ.size) cap 139 c,pt mb (.cells (encM (MemLike.st σ i y)++rs) 29)]:=by
 have hst:(MemLike.st σ i y:Array UInt64)=σ:=by rw [zjP,if_neg h]
 refine Fn.enter (Tryz.func17) rfl rfl (fun w0 R=>?_)
 refine sA (xai rfl (dA (xmp rfl (xmi rfl (xmp rfl (xN0 rfl (xf 1 zea rfl (xf 1 zjq rfl ?_))))))))
 refine xD [0] (at_o h) zpp rfl (TL.asg (.pointer none) rfl rfl rfl (dB (TL.mv (.pointer none) rfl rfl rfl (TL.nilP true rfl rfl zlx rfl rfl rfl (dT rfl (xai rfl (dRR ?_)))))))
 refine FQ.ret1 (v:=(.int _ _)) (Bs:=[_,_]) [0,1] rfl rfl rfl ⟨rfl,rfl,trivial⟩ ?_
 exact ⟨rfl,by rw [hst]⟩
theorem zud {ab mb:Nat} {σ:Array UInt64} {c:Cnt} {i:Int}:FnD Tryz.prog 23 [.pointer (some ⟨ab,0,none⟩),.int .i64 i] [arenaC ab mb 139 29 (σ) (c)] (.tuple #[.int .u64 (MemLike.get σ i),.int .i64 (if 0<=i/\i<σ.size then 0 else 20)]) [arenaC ab mb 139 29 (σ) (cntL σ i c)]:=by
 unfold cntL
 by_cases h:0<=i/\i<σ.size
 ·rw [if_pos h,if_pos h]; exact Fn.arenaC rfl fun cap rs=>zy5 h.1 h.2
 ·rw [if_neg h,if_neg h]; exact Fn.arenaC rfl fun cap rs=>zy4 h
theorem zqK {ab mb:Nat} {σ:Array UInt64} {c:Cnt} {i v:Int} (hv:0<=v/\v<18446744073709551616):FnD Tryz.prog 17 [.pointer (some ⟨ab,0,none⟩),.int .i64 i,.int .u64 v] [arenaC ab mb 139 29 (σ) (c)] (.int .i64 (if 0<=i/\i<σ.size then 0 else 20)) [arenaC ab mb 139 29 (MemLike.st σ i v) (cntS σ i c)]:=by
 unfold cntS
 by_cases h:0<=i/\i<σ.size
 ·rw [if_pos h,if_pos h]; exact Fn.arenaC (zgA _ _ _) fun cap rs=>zvP h.1 h.2 hv
 ·rw [if_neg h,if_neg h]; exact Fn.arenaC (zgA _ _ _) fun cap rs=>zvO h hv
theorem ziA {ab mb:Nat} {σ:Array UInt64} {i:Int}:FnD Tryz.prog 23 [.pointer (some ⟨ab,0,none⟩),.int .i64 i] [zam ab mb 139 29 (σ)] (.tuple #[.int .u64 (MemLike.get σ i),.int .i64 (if 0<=i/\i<σ.size then 0 else 20)]) [zam ab mb 139 29 (σ)]:=Fn.arena fun _=>⟨_,zud⟩
theorem zeS {ab mb:Nat} {σ:Array UInt64} {i v:Int} (hv:0<=v/\v<18446744073709551616):FnD Tryz.prog 17 [.pointer (some ⟨ab,0,none⟩),.int .i64 i,.int .u64 v] [zam ab mb 139 29 (σ)] (.int .i64 (if 0<=i/\i<σ.size then 0 else 20)) [zam ab mb 139 29 (MemLike.st σ i v)]:=Fn.arena fun _=>⟨_,zqK hv⟩
theorem zuO {ab mb:Nat} {σ:Array UInt64} {i:Int}:FnD Tryz.prog 301 [.agg #[.pointer (some ⟨ab,0,none⟩)],.int .i64 i] [zam ab mb 139 29 (σ)] (.int .u64 (MemLike.get σ i)) [zam ab mb 139 29 (σ)]:=by
 refine Fn.enter (Tryz.func301) rfl rfl (fun w0 R=>?_)
 refine sA (xB 1 rfl (fun bk1=>(xai rfl (dA (xf 0 zjo rfl (xlp 1 zdL rfl rfl (xmi rfl (xD [0] ziA zpq rfl (xmu rfl ?_)))))))))
 refine xei rfl rfl (xei rfl rfl (xai rfl (xai rfl (dA (xmi rfl (xai rfl (dR ?_)))))))
 refine FQ.ret1 (v:=(.int _ _)) (Bs:=[zam ab mb 139 29 (σ)]) [0] rfl rfl rfl ⟨rfl,trivial⟩ ?_
 exact ⟨rfl,rfl⟩
theorem zry {ab mb:Nat} {σ:Array UInt64} {i:Int} {y:Int} (hv:0<=y/\y<18446744073709551616):FnD Tryz.prog 302 [.agg #[.pointer (some ⟨ab,0,none⟩)],.int .i64 i,.int .u64 y] [zam ab mb 139 29 (σ)] (.tuple #[]) [zam ab mb 139 29 (MemLike.st σ i y)]:=by
 refine Fn.enter (Tryz.func302) rfl rfl (fun w0 R=>?_)
 refine sA (xB 1 rfl (fun bk1=>(dG (xf 0 zjo rfl (xlp 1 zdL rfl rfl (xmi rfl (xmi rfl (xD [0] (zeS hv) zku rfl (TL.done ?_)))))))))
 refine FQ.end0 (Bs:=[_]) [0] rfl rfl ⟨rfl,trivial⟩ ?_
 exact ⟨rfl,rfl⟩
theorem zfn {ab mb:Nat}:MemI (S:=Array UInt64) Tryz.prog 149 (.agg #[.pointer (some ⟨ab,0,none⟩)]) (zam ab mb 139 29) :=
 ⟨⟨301,_,zil (by kernel_rfl) (by kernel_rfl),fun _ _ _=>zuO⟩,⟨302,_,zil (by kernel_rfl) (by kernel_rfl),fun _ _ _ hv _=>zry hv⟩⟩
theorem zy1 {N:Nat} (hN:N<=16384):Go.Eng.Fn Tryz.prog 16 [.int .i64 ((N:Nat):Int)] [] (fun v Bs=>∃ ab mb,v=.tuple #[.pointer (some ⟨ab,0,none⟩),.int .i64 0]/\Bs=[arenaC ab mb 139 29 (Array.replicate N 0) (⟨0,0,0,0,0⟩)]):=by
 refine Fn.enter (Tryz.func16) rfl rfl (fun w0 R=>?_)
 refine sA (TL.asg (.pointer none) rfl rfl rfl (xai rfl (dB (xmi rfl (TL.lssF rfl rfl (by omega) rfl rfl (xmf rfl (xmi rfl (TL.gtrF rfl rfl (by omega) rfl rfl ?_))))))))
 refine xpF rfl (dF rfl (xmi rfl (TL.mkS 0 rfl rfl zjl zzL rfl (by omega) rfl rfl (fun bk0=>⟨trivial,?_⟩))))
 refine TL.bld [.slice none 0 0,.int .i64 0,.int .i64 0,.int .i64 0,.int .i64 0,.int .i64 0] [(.slice _ _ _)] [_,_,_,_,_,_] zsH zsK ⟨rfl,trivial⟩ ⟨rfl,rfl⟩ rfl rfl (xB 1 rfl (fun bk1=>(xap rfl (xai rfl (dR (TQ.conseq 0 (B:=pt _ (.cells (encM (Array.replicate N 0)++#[]) 29)) rfl (fun h hh=>by rw [<-zvt,Array.append_empty]; exact hh) (TQ.arenaC 1 0 (N:=N) (c:=⟨0,0,0,0,0⟩) (by simp) rfl rfl (by decide) ?_)))))))
 refine FQ.ret2 (v:=(.pointer (some ⟨_,_,none⟩))) (x:=(.int _ _)) (Bs:=[_]) [1] rfl rfl rfl rfl ⟨rfl,trivial⟩ ?_
 exact ⟨_,_,rfl,rfl⟩
theorem ze4 {ab:Nat}:FnD Tryz.prog 85 [.pointer (some ⟨ab,0,none⟩)] [] (.agg #[.pointer (some ⟨ab,0,none⟩)]) []:=by
 refine Fn.enter (Tryz.func85) rfl rfl (fun w0 R=>?_)
 refine sA (TL.alloc 0 (cs:=#[.pointer none]) zsG rfl rfl rfl (fun _=>trivial) (fun bk0=>(dA (xmp rfl (TL.bld [.pointer none] [(.pointer (some ⟨_,_,none⟩))] [_] zsG zx2 ⟨rfl,trivial⟩ ⟨rfl,rfl⟩ rfl rfl (TL.stW 0 1 [_] rfl rfl rfl rfl rfl rfl zmO rfl rfl trivial (dR ?_)))))))
 refine FQ.retG (rs:=[.cell 2 149]) [(.agg _)] (Bs:=[]) [] rfl ⟨⟨_,_,_,_,_,0,rfl,rfl,.inr ⟨1,[_],zmO,rfl,rfl⟩⟩,trivial⟩ rfl rfl trivial ?_
 exact ⟨rfl,rfl⟩
theorem zy7 {x:Int}:FnD Tryz.prog 189 [.int .i64 x] [] (wdV (wofI x)) []:=by
 refine Fn.enter (Tryz.func189) rfl rfl (fun w0 R=>?_)
 refine sA (TL.alloc 0 (cs:=#[.int .i64 0,.int .i64 0,.int .i64 0,.int .i64 0]) zb6 rfl rfl rfl (fun _=>trivial) (fun bk0=>(dA (xmi rfl (TL.max2 rfl rfl rfl rfl (TL.min2 rfl rfl rfl rfl (xai rfl (dA (xmi rfl ?_)))))))))
 refine xmi rfl (TL.bld [.int .i64 0,.int .i64 0,.int .i64 0,.int .i64 0] [(.int _ _),(.int _ _)] [_,_,_,_] zb6 zhC ⟨rfl,rfl,trivial⟩ ⟨rfl,rfl⟩ rfl rfl (TL.stW 0 4 [_,_,_,_] rfl rfl rfl rfl rfl rfl zaI rfl rfl trivial (dR ?_)))
 refine FQ.retG (rs:=[.cell 2 260]) [(.agg _)] (Bs:=[]) [] rfl ⟨⟨_,_,_,_,_,0,rfl,rfl,.inr ⟨4,[_,_,_,_],zaI,rfl,rfl⟩⟩,trivial⟩ rfl rfl trivial ?_
 exact ⟨rfl,rfl⟩
theorem zwU {tag:Int} {dn:Bool} (h:0<=tag/\tag<=16777215):FnD Tryz.prog 231 [.int .i64 tag,.bool dn] [] (.tuple #[.int .u64 (zaS tag dn),.int .i64 0]) []:=by
 refine Fn.enter (Tryz.func231) rfl rfl (fun w0 R=>?_)
 refine sA (xai rfl (xai rfl (dB (xmi rfl (xD [] zey zhK rfl ?_)))))
 rw [decide_eq_true h]
 refine xnt rfl (dF rfl (xmi rfl (TL.conv _ rfl zf9 zbs (rfl) rfl rfl (TL.shl _ rfl rfl (by decide) rfl rfl rfl (xai rfl (dB (xmb rfl (TL.cases rfl (fun q1=>?_) (fun q1=>?_)))))))))
 refine TL.done (TQ.then (TC.condT rfl (TC.region (xmi rfl (TL.or _ rfl rfl rfl rfl rfl (xai rfl (dA (xmi rfl ?_))))))))
 refine xai rfl (xai rfl (dR ?_))
 refine FQ.ret2 (v:=(.int _ _)) (x:=(.int _ _)) (Bs:=[]) [] rfl rfl rfl rfl trivial ?_
 first | exact ⟨by unfold zaS; rw [if_pos q1]; rfl,rfl⟩ | exact ⟨by unfold zaS; rw [if_neg (by rw [q1]; decide)]; rfl,rfl⟩
 refine dF rfl (xmi rfl (xai rfl (xai rfl (dR ?_))))
 refine FQ.ret2 (v:=(.int _ _)) (x:=(.int _ _)) (Bs:=[]) [] rfl rfl rfl rfl trivial ?_
 first | exact ⟨by unfold zaS; rw [if_pos q1]; rfl,rfl⟩ | exact ⟨by unfold zaS; rw [if_neg (by rw [q1]; decide)]; rfl,rfl⟩
theorem zwT {tag:Int} {dn:Bool} (h:¬(0<=tag/\tag<=16777215)):FnD Tryz.prog 231 [.int .i64 tag,.bool dn] [] (.tuple #[.int .u64 0,.int .i64 11]) []:=by
 refine Fn.enter (Tryz.func231) rfl rfl (fun w0 R=>?_)
 refine sA (xai rfl (xai rfl (dB (xmi rfl (xD [] zey zhK rfl ?_)))))
 rw [decide_eq_false h]
 refine xnf rfl (dT rfl (xai rfl (xai rfl (dRR ?_))))
 refine FQ.ret2 (v:=(.int _ _)) (x:=(.int _ _)) (Bs:=[]) [] rfl rfl rfl rfl trivial ?_
 exact ⟨rfl,rfl⟩
theorem zmv {l:Lay} (hl:l.Ok) {t:Int}:FnD Tryz.prog 70 [layV l,.int .i64 t] [] (.int .i64 (l.state t)) []:=by
 have hb:=zbH hl
 refine Fn.enter (Tryz.func70) rfl rfl (fun w0 R=>?_)
 refine sA (xB 0 rfl (fun bk0=>(xai rfl (dB (xmi rfl (TL.sub _ rfl rfl (rfl) rfl rfl (xf 2 zeP rfl (xli 0 zad rfl rfl (xD [] zbz zc9 rfl ?_)))))))))
 refine TL.casesP rfl (fun q1=>?_) (fun q1=>?_)
 refine xnt rfl (dF rfl (xmi rfl (TL.sub _ rfl rfl (rfl) rfl rfl (xai rfl (dR ?_)))))
 refine FQ.ret1 (v:=(.int _ _)) (Bs:=[]) [] rfl rfl rfl trivial ?_
 first | exact ⟨iE (by unfold Lay.state; rw [if_pos (by omega)]),rfl⟩ | exact ⟨iE (by unfold Lay.state; rw [if_neg (by omega)]),rfl⟩
 refine xnf rfl (dT rfl (xai rfl (dRR ?_)))
 refine FQ.ret1 (v:=(.int _ _)) (Bs:=[]) [] rfl rfl rfl trivial ?_
 first | exact ⟨iE (by unfold Lay.state; rw [if_pos (by omega)]),rfl⟩ | exact ⟨iE (by unfold Lay.state; rw [if_neg (by omega)]),rfl⟩
theorem zpc {l:Lay} (hl:l.Ok) {s:Int}:FnD Tryz.prog 138 [layV l,.int .i64 s] [] (.int .i64 (l.of s 0)) []:=by
 have hb:=zbH hl
 refine Fn.enter (Tryz.func138) rfl rfl (fun w0 R=>?_)
 refine sA (xB 0 rfl (fun bk0=>(xai rfl (dA (xL3 0 zab rfl rfl (xmi rfl (xD [] (zrP hl (by omega)) zjy rfl (xai rfl (dR ?_)))))))))
 refine FQ.ret1 (v:=(.int _ _)) (Bs:=[]) [] rfl rfl rfl trivial ?_
 exact ⟨rfl,rfl⟩
theorem zmW {o m t g:Int}:FnD Tryz.prog 188 [.agg #[.int .i64 o,.int .i64 m,.int .i64 t,.int .i64 g]] [] (wdV (wofI m)) []:=by
 refine Fn.enter (Tryz.func188) rfl rfl (fun w0 R=>?_)
 refine sA (xB 0 rfl (fun bk0=>(TL.alloc 1 (cs:=#[.int .i64 0,.int .i64 0,.int .i64 0,.int .i64 0]) zb6 rfl rfl rfl (fun _=>trivial) (fun bk1=>(dA (xf 1 zcq rfl (xli 0 zad rfl rfl (xD [] zy7 zyr rfl (TL.stW 1 4 [_,_,_,_] rfl rfl rfl rfl rfl rfl zaI rfl rfl trivial (dR ?_))))))))))
 refine FQ.retG (rs:=[.cell 2 260]) [(.agg _)] (Bs:=[]) [] rfl ⟨⟨_,_,_,_,_,1,rfl,rfl,.inr ⟨4,[_,_,_,_],zaI,rfl,rfl⟩⟩,trivial⟩ rfl rfl trivial ?_
 exact ⟨rfl,rfl⟩
theorem ztV {S:Type} [MemLike S] {mt:TypeId} {mv:Value} {A:S->Assn} (hM:MemI Tryz.prog mt mv A) {σ:S} {c:Int} (h:(zae (MemLike.get σ c)).2=false) (hz:Room (2) σ:=by exact zaC):FnD Tryz.prog 187 [.iface mt mv,.int .i64 c,.func (.func 188) #[] #[]] [A σ] (.tuple #[]) [A (MemLike.ld σ c)]:=by
 refine Fn.enter (Tryz.func187) rfl rfl (fun w0 R=>?_)
 refine sA (xmc rfl (xmi rfl (TL.mload 0 hM rfl rfl rfl rfl rfl trivial (xD [] zdu zfH rfl (xmu rfl (TL.ext (.agg _) rfl rfl rfl rfl (xei rfl rfl (TL.alloc 1 (cs:=#[.int .i64 0,.int .i64 0,.int .i64 0,.int .i64 0]) zb6 rfl rfl rfl (fun _=>trivial) (fun bk1=>?_)))))))))
 refine TL.stW 1 4 [_,_,_,_] rfl rfl rfl rfl rfl rfl zaI rfl rfl trivial (xai rfl (dB (xmi rfl (TL.neqT rfl rfl (by rw [h]; decide) rfl rfl (TL.done (TQ.then (TC.condT rfl (TC.ret ?_))))))))
 refine TQ.thenRet ?_
 refine FQ.ret0 (Bs:=[A (MemLike.ld σ c)]) [0] rfl rfl ⟨rfl,trivial⟩ ?_
 exact ⟨rfl,rfl⟩
theorem ztU {S:Type} [MemLike S] {mt:TypeId} {mv:Value} {A:S->Assn} (hM:MemI Tryz.prog mt mv A) {σ:S} {c:Int} (h:(zae (MemLike.get σ c)).2=true) (h2:(wofI (zae (MemLike.get σ c)).1.new).right=false) (hz:Room (2) σ:=by exact zaC):FnD Tryz.prog 187 [.iface mt mv,.int .i64 c,.func (.func 188) #[] #[]] [A σ] (.tuple #[]) [A (MemLike.ld σ c)]:=by
 refine Fn.enter (Tryz.func187) rfl rfl (fun w0 R=>?_)
 refine sA (xmc rfl (xmi rfl (TL.mload 0 hM rfl rfl rfl rfl rfl trivial (xD [] zdu zfH rfl (xmu rfl (TL.ext (.agg _) rfl rfl rfl rfl (xei rfl rfl (TL.alloc 1 (cs:=#[.int .i64 0,.int .i64 0,.int .i64 0,.int .i64 0]) zb6 rfl rfl rfl (fun _=>trivial) (fun bk1=>?_)))))))))
 refine TL.stW 1 4 [_,_,_,_] rfl rfl rfl rfl rfl rfl zaI rfl rfl trivial (xai rfl (dB (xmi rfl (TL.neqF rfl rfl (by rw [h]; decide) rfl rfl (dF rfl (TL.mv (.func _ _ _) rfl rfl rfl (xL4 1 zaI rfl rfl (TL.callC (c1:=[]) (c2:=[]) (vs:=[_]) [] [] rfl zmW ⟨rfl,trivial⟩ trivial ztd rfl rfl rfl rfl rfl trivial ?_))))))))
 refine xD [] zk2 zlC rfl (xmu rfl (xei rfl rfl (xei rfl rfl (xai rfl (xai rfl (dA (xmi rfl (TL.eqlF rfl rfl (by rw [h2]; decide) rfl rfl ?_))))))))
 refine TL.done (TQ.then (TC.condF rfl (TC.skip ?_)))
 refine FQ.end0 (Bs:=[A (MemLike.ld σ c)]) [0] rfl rfl ⟨rfl,trivial⟩ ?_
 exact ⟨rfl,rfl⟩
theorem ztT {S:Type} [MemLike S] {mt:TypeId} {mv:Value} {A:S->Assn} (hM:MemI Tryz.prog mt mv A) {σ:S} {c:Int} (h:(zae (MemLike.get σ c)).2=true) (h2:(wofI (zae (MemLike.get σ c)).1.new).right=true) (hz:Room (2) σ:=by exact zaC):FnD Tryz.prog 187 [.iface mt mv,.int .i64 c,.func (.func 188) #[] #[]] [A σ] (.tuple #[]) [A (MemLike.st (MemLike.ld σ c) c (wofI (zae (MemLike.get σ c)).1.new).pack)]:=by
 refine Fn.enter (Tryz.func187) rfl rfl (fun w0 R=>?_)
 refine sA (xmc rfl (xmi rfl (TL.mload 0 hM rfl rfl rfl rfl rfl trivial (xD [] zdu zfH rfl (xmu rfl (TL.ext (.agg _) rfl rfl rfl rfl (xei rfl rfl (TL.alloc 1 (cs:=#[.int .i64 0,.int .i64 0,.int .i64 0,.int .i64 0]) zb6 rfl rfl rfl (fun _=>trivial) (fun bk1=>?_)))))))))
 refine TL.stW 1 4 [_,_,_,_] rfl rfl rfl rfl rfl rfl zaI rfl rfl trivial (xai rfl (dB (xmi rfl (TL.neqF rfl rfl (by rw [h]; decide) rfl rfl (dF rfl (TL.mv (.func _ _ _) rfl rfl rfl (xL4 1 zaI rfl rfl (TL.callC (c1:=[]) (c2:=[]) (vs:=[_]) [] [] rfl zmW ⟨rfl,trivial⟩ trivial ztd rfl rfl rfl rfl rfl trivial ?_))))))))
 refine xD [] zk2 zlC rfl (xmu rfl (xei rfl rfl (xei rfl rfl (xai rfl (xai rfl (dA (xmi rfl (TL.eqlT rfl rfl (by rw [h2]; decide) rfl rfl ?_))))))))
 refine TL.done (TQ.then (TC.condT rfl (TC.region (xmc rfl (xmi rfl (xmi rfl (TL.mstore 0 hM rfl rfl rfl (by rw [h2]; exact zby _ _) rfl rfl rfl trivial (TL.done ?_))))))))
 refine FQ.end0 (Bs:=[A _]) [0] rfl rfl ⟨rfl,trivial⟩ ?_
 exact ⟨rfl,by rw [h2]; rfl⟩
theorem zqD {S:Type} [MemLike S] {mt:TypeId} {mv:Value} {A:S->Assn} (hM:MemI Tryz.prog mt mv A) {σ:S} {c:Int} (hz:Room (2) σ:=by exact zaC):FnD Tryz.prog 187 [.iface mt mv,.int .i64 c,.func (.func 188) #[] #[]] [A σ] (.tuple #[]) [A (zbq σ c)]:=by
 unfold zbq
 cases h:(zae (MemLike.get σ c)).2
 ·exact ztV hM h
 ·rw [if_pos rfl]
  cases h2:(wofI (zae (MemLike.get σ c)).1.new).right
  ·exact ztU hM h h2
  ·exact ztT hM h h2
theorem zpC {S:Type} [MemLike S] {mt:TypeId} {mv:Value} {A:S->Assn} (hM:MemI Tryz.prog mt mv A) {σ:S} {p:Pen} {c:Int} (hz:Room (2) σ:=by exact zaC):FnD Tryz.prog 148 [.agg #[.int .i64 p.thread,.int .i64 p.tag],.iface mt mv,.int .i64 c] [A σ] (.tuple #[]) [A (zbq σ c)]:=by
 refine Fn.enter (Tryz.func148) rfl rfl (fun w0 R=>?_)
 refine sA (xB 1 rfl (fun bk1=>(dG (xmc rfl (xmi rfl (xD [0] (zqD hM) zte rfl (TL.done ?_)))))))
 refine FQ.end0 (Bs:=[A (zbq σ c)]) [0] rfl rfl ⟨rfl,trivial⟩ ?_
 exact ⟨rfl,rfl⟩
theorem zuI {S:Type} [MemLike S] {mt:TypeId} {mv:Value} {A:S->Assn} (hM:MemI Tryz.prog mt mv A) {fS:FuncId} (hfS:zgU Tryz.prog mt "Store" fS=true) {l:Lay} (hl:l.Ok) {p:Pen} {σ:S} {tag:Int} {dn:Bool} (h:0<=tag/\tag<=16777215) (hz:Room (1) σ:=by exact zaC):FnD Tryz.prog 201 [.agg #[.int .i64 p.thread,.int .i64 p.tag],.iface mt mv,layV l,.int .i64 tag,.bool dn] [A σ] (.tuple #[]) [A (MemLike.st σ (l.state p.thread) (zaS tag dn))]:=by
 refine Fn.enter (Tryz.func201) rfl rfl (fun w0 R=>?_)
 refine sA (xB 1 rfl (fun bk1=>(xB 2 rfl (fun bk2=>(dA (xmi rfl (xmb rfl (xD [] (zwU h) zsW rfl (xmu rfl (xei rfl rfl ?_))))))))))
 refine xei rfl rfl (xai rfl (xai rfl (dA (xmi rfl (TL.eqlT rfl rfl (by decide) rfl rfl (TL.done (TQ.then (TC.condT rfl ?_))))))))
 refine TC.draw (od [1,3,5,7,11,13,15,17,8,18]) [1,2] fc_m (by kernel_rfl) (xmc rfl (xL3 2 zab rfl rfl (xf 0 zdo rfl (xli 1 zad rfl rfl (xmi rfl (TL.mf (xs:=[_]) (ys:=[]) [_] [] ⟨rfl,trivial⟩ trivial rfl rfl (TL.ncM hfS rfl rfl rfl (xmc rfl ?_))))))))
 refine xd [] (zmv hl) zws rfl (kL2 rfl rfl trivial) (TL.mstore 0 hM rfl rfl rfl (zfR h _) rfl rfl rfl (kL2 rfl rfl trivial) (TL.done ?_))
 refine FQ.end0 (Bs:=[A _]) [0] rfl rfl ⟨rfl,trivial⟩ ?_
 exact ⟨rfl,rfl⟩
theorem zuH {S:Type} [MemLike S] {mt:TypeId} {mv:Value} {A:S->Assn} (hM:MemI Tryz.prog mt mv A) {fS:FuncId} (hfS:zgU Tryz.prog mt "Store" fS=true) {l:Lay} (hl:l.Ok) {p:Pen} {σ:S} {tag:Int} {dn:Bool} (h:¬(0<=tag/\tag<=16777215)) (hz:Room (1) σ:=by exact zaC):FnD Tryz.prog 201 [.agg #[.int .i64 p.thread,.int .i64 p.tag],.iface mt mv,layV l,.int .i64 tag,.bool dn] [A σ] (.tuple #[]) [A (σ)]:=by
 refine Fn.enter (Tryz.func201) rfl rfl (fun w0 R=>?_)
 refine sA (xB 1 rfl (fun bk1=>(xB 2 rfl (fun bk2=>(dA (xmi rfl (xmb rfl (xD [] (zwT h) zsW rfl (xmu rfl (xei rfl rfl ?_))))))))))
 refine xei rfl rfl (xai rfl (xai rfl (dA (xmi rfl (TL.eqlF rfl rfl (by decide) rfl rfl (TL.done (TQ.then (TC.condF rfl ?_))))))))
 refine TC.skip ?_
 refine FQ.end0 (Bs:=[A _]) [0] rfl rfl ⟨rfl,trivial⟩ ?_
 exact ⟨rfl,rfl⟩
theorem zmi {S:Type} [MemLike S] {mt:TypeId} {mv:Value} {A:S->Assn} (hM:MemI Tryz.prog mt mv A) {fS:FuncId} (hfS:zgU Tryz.prog mt "Store" fS=true) {l:Lay} (hl:l.Ok) {p:Pen} {σ:S} {tag:Int} {dn:Bool} (hz:Room (1) σ:=by exact zaC):FnD Tryz.prog 201 [.agg #[.int .i64 p.thread,.int .i64 p.tag],.iface mt mv,layV l,.int .i64 tag,.bool dn] [A σ] (.tuple #[]) [A (zaZ l p σ tag dn)]:=by
 unfold zaZ
 by_cases h:0<=tag/\tag<=16777215
 ·rw [if_pos h]; exact zuI hM hfS hl h
 ·rw [if_neg h]; exact zuH hM hfS hl h
theorem zp9 {S:Type} [MemLike S] {mt:TypeId} {mv:Value} {A:S->Assn} (hM:MemI Tryz.prog mt mv A) {fS:FuncId} (hfS:zgU Tryz.prog mt "Store" fS=true) {l:Lay} (hl:l.Ok) {p:Pen} {σ:S} (hz:Room (1) σ:=by exact zaC):FnD Tryz.prog 156 [.agg #[.int .i64 p.thread,.int .i64 p.tag],.iface mt mv,layV l] [A σ] (.tuple #[]) [A (zaZ l p σ p.tag true)]:=by
 refine Fn.enter (Tryz.func156) rfl rfl (fun w0 R=>?_)
 refine sA (xB 1 rfl (fun bk1=>(xB 2 rfl (fun bk2=>(dG (xL2 1 za9 rfl rfl (xmc rfl (xL3 2 zab rfl rfl (xf 1 zdn rfl (xli 1 zad rfl rfl ?_))))))))))
 refine xD [0] (zmi hM hfS hl) zs8 rfl (TL.done ?_)
 refine FQ.end0 (Bs:=[A (zaZ l p σ p.tag true)]) [0] rfl rfl ⟨rfl,trivial⟩ ?_
 exact ⟨rfl,rfl⟩
theorem zxh {S:Type} [MemLike S] {mt:TypeId} {mv:Value} {A:S->Assn} (hM:MemI Tryz.prog mt mv A) {fS:FuncId} (hfS:zgU Tryz.prog mt "Store" fS=true) {l:Lay} (hl:l.Ok) {p:Pen} {σ:S} (hz:Room (1) σ:=by exact zaC):FnD Tryz.prog 158 [.agg #[.int .i64 p.thread,.int .i64 p.tag],.iface mt mv,layV l] [A σ] (.tuple #[]) [A (zaZ l p σ (IntKind.i64.wrap (p.tag+1)) false)]:=by
 refine Fn.enter (Tryz.func158) rfl rfl (fun w0 R=>?_)
 refine sA (xB 1 rfl (fun bk1=>(xB 2 rfl (fun bk2=>(dG (xL2 1 za9 rfl rfl (xmc rfl (xL3 2 zab rfl rfl (xf 1 zdn rfl (xli 1 zad rfl rfl ?_))))))))))
 refine TL.add _ rfl rfl (rfl) rfl rfl (xD [0] (zmi hM hfS hl) zs8 rfl (TL.done ?_))
 refine FQ.end0 (Bs:=[A (zaZ l p σ (IntKind.i64.wrap (p.tag+1)) false)]) [0] rfl rfl ⟨rfl,trivial⟩ ?_
 exact ⟨rfl,rfl⟩
theorem zr0 {l:Lay} (hl:l.Ok)  : FnD Tryz.prog 114 [layV l] [] (.bool true) []:=by
 have hb:=zbH hl
 refine Fn.enter (Tryz.func114) rfl rfl (fun w0 R=>?_)
 refine sA (xB 0 rfl (fun bk0=>(xaf rfl (dA (xf 0 zaA rfl (xli 0 zad rfl rfl (TL.sub _ rfl rfl (wr64 (by omega)) rfl rfl (xD [] zbz zc9 rfl (TL.casesP rfl (fun q1=>?_) (fun q1=>?_))))))))))
 refine xmt rfl (xf 1 zbB rfl (xli 0 zad rfl rfl (xD [] zbz zc9 rfl (TL.casesP rfl (fun q2=>?_) (fun q2=>?_)))))
 refine xpT rfl (xmt rfl (xf 2 zeP rfl (xli 0 zad rfl rfl (TL.sub _ rfl rfl (wr64 (by omega)) rfl rfl (xD [] zbz zc9 rfl (TL.pickT (.bool _) rfl rfl rfl rfl (xab rfl (dR ?_))))))))
 refine FQ.ret1 (v:=(.bool _)) (Bs:=[]) [] rfl rfl rfl trivial ?_
 first | exact ⟨congrArg Value.bool (decide_eq_true (by omega)),rfl⟩ | (exfalso; omega)
 refine xpG rfl (xmf rfl (xo rfl (xo rfl (xo rfl (xo rfl (xpF rfl (xaf rfl (dR ?_))))))))
 refine FQ.ret1 (v:=(.bool false)) (Bs:=[]) [] rfl rfl rfl trivial ?_
 first | exact ⟨congrArg Value.bool (decide_eq_true (by omega)),rfl⟩ | (exfalso; omega)
 refine xmf rfl (xo rfl (xo rfl (xo rfl (xpF rfl (xmf rfl (xo rfl (xo rfl (xo rfl ?_))))))))
 refine xo rfl (xpF rfl (xaf rfl (dR ?_)))
 refine FQ.ret1 (v:=(.bool false)) (Bs:=[]) [] rfl rfl rfl trivial ?_
 first | exact ⟨congrArg Value.bool (decide_eq_true (by omega)),rfl⟩ | (exfalso; omega)
theorem zux {mt:TypeId} {mv:Value} {A:Array UInt64->Assn} (hM:MemI Tryz.prog mt mv A) {fS:FuncId} (hfS:zgU Tryz.prog mt "Store" fS=true) {l:Lay} (hl:l.Ok) {σ:Array UInt64}:FnD Tryz.prog 115 [.iface mt mv,layV l] [A σ] (.tuple #[]) [A (zh7 l σ)]:=by
 have hb:=zbH hl
 refine Fn.enter (Tryz.func115) rfl rfl (fun w0 R=>?_)
 refine sA (xB 1 rfl (fun bk1=>(dB (xf 1 zbB rfl (xli 1 zad rfl rfl (xmi rfl (dK (TC.loopK (X:=Nat) [0,3,6] [1] (fun s=>[(7,.int .i64 ((s:Nat):Int))]) (fun s=>[(0,A (zeB l s σ))]) (fun s=>s<=l.S) (fun s=>l.S - s) (0) (Nat.zero_le _) ⟨rfl,trivial⟩ ⟨rfl,trivial⟩ (fun s hI=>(TC.sub (env':=[(7,_),(0,_),(3,_),(6,_)]) (L':=[(0,_),(1,_)]) ⟨rfl,rfl,rfl,rfl,trivial⟩ ⟨rfl,rfl,trivial⟩ ?_))))))))))
 refine sA (TL.lss rfl rfl rfl rfl (fun q1=>?_) (fun q1=>?_))
 refine dS (TC.condT rfl (TC.skip (TQ.then (TC.seq (TC.block (sA (xmi rfl (xai rfl ?_))))))))
 refine TL.done (TQ.then (TC.draw (od [1,3,5,9,11,13,15,17,19,6,20]) [1] fc_m (by kernel_rfl) (xmc rfl (xL3 1 zab rfl rfl (xmi rfl (xmi rfl (TL.add _ rfl rfl (wr64 (by omega)) rfl rfl (TL.conv _ rfl zf9 zbs (zuk (by omega)) rfl rfl ?_))))))))
 refine TL.mf (xs:=[_]) (ys:=[]) [_] [] ⟨rfl,trivial⟩ trivial rfl rfl (TL.ncM hfS rfl rfl rfl (xmc rfl (xd [] (zpc hl) ztp rfl (kL1 rfl trivial) (TL.mstore 0 hM rfl rfl rfl (by first | decide | omega) rfl rfl rfl (kL1 rfl trivial) (dI (TL.add (((s+1:Nat):Int)) rfl rfl (wrN (by omega)) rfl rfl (xmi rfl (TL.done ?_))))))))
 refine TQ.roundK (s+1) ⟨(by omega),(by omega)⟩ ⟨rfl,trivial⟩ ⟨rfl,trivial⟩ (kE3 rfl rfl rfl trivial) (kL1 rfl trivial)
 refine dS (TC.condF rfl (TC.exit (TQ.thenExit (TQ.thenExit (TQ.blockHere (TQ.then (sB (xf 1 zbB rfl ?_))))))))
 refine xli 1 zad rfl rfl (TL.eql rfl rfl rfl rfl (fun q2=>?_) (fun q2=>?_))
 refine TL.done (TQ.then (TC.condT rfl (TC.seq (TC.draw (od [1,3,7,9,11,4,12]) [1] fc_m (by kernel_rfl) (xmc rfl (xL3 1 zab rfl rfl (TL.mf (xs:=[_]) (ys:=[]) [_] [] ⟨rfl,trivial⟩ trivial rfl rfl (TL.ncM hfS rfl rfl rfl ?_))))))))
 refine xmc rfl (xd [] (zlt hl) zlF rfl (kL1 rfl trivial) (TL.mstore 0 hM rfl rfl rfl (by first | decide | omega) rfl rfl rfl (kL1 rfl trivial) (dRR ?_)))
 refine FQ.ret0 (Bs:=[A _]) [0] rfl rfl ⟨rfl,trivial⟩ ?_
 obtain rfl:s=l.S:=by omega
 have e0:l.S=0:=by omega
 exact ⟨rfl,by rw [zwY e0,e0,zeB]⟩
 refine TL.done (TQ.then (TC.condF rfl (TC.skip (TQ.then (TC.seq (TC.draw (od [1,3,5,7,9,13,15,17,10,18]) [1] fc_m (by kernel_rfl) (xmc rfl (xL3 1 zab rfl rfl ?_))))))))
 refine xf 1 zbB rfl (xli 1 zad rfl rfl (TL.sub _ rfl rfl (wr64 (by omega)) rfl rfl (TL.mf (xs:=[_]) (ys:=[]) [_] [] ⟨rfl,trivial⟩ trivial rfl rfl (TL.ncM hfS rfl rfl rfl (xmc rfl (xd [] (zpc hl) ztp rfl (kL1 rfl trivial) (TL.mstore 0 hM rfl rfl rfl (by first | decide | omega) rfl rfl rfl (kL1 rfl trivial) (TL.done ?_))))))))
 refine TQ.then (TC.draw (od [1,3,7,9,11,4,12]) [1] fc_m (by kernel_rfl) (xmc rfl (xL3 1 zab rfl rfl (TL.mf (xs:=[_]) (ys:=[]) [_] [] ⟨rfl,trivial⟩ trivial rfl rfl (TL.ncM hfS rfl rfl rfl (xmc rfl (xd [] (zlt hl) zlF rfl (kL1 rfl trivial) (TL.mstore 0 hM rfl rfl rfl (by first | decide | omega) rfl rfl rfl (kL1 rfl trivial) ?_))))))))
 refine TL.done ?_
 refine FQ.end0 (Bs:=[A _]) [0] rfl rfl ⟨rfl,trivial⟩ ?_
 obtain rfl:s=l.S:=by omega
 exact ⟨rfl,by rw [zwX (by omega)]⟩
theorem ziz {mt:TypeId} {mv:Value} {A:Array UInt64->Assn} (hM:MemI Tryz.prog mt mv A) {l:Lay} (hl:l.Ok) {p:Pen} {σ:Array UInt64} {x y:Int} (hy:0<=y/\y<18446744073709551616)  : FnD Tryz.prog 116 [zbw l mt mv p,.int .i64 x,.int .u64 y] [A σ] (.tuple #[]) [A (zfL l p σ x y)]:=by
 refine Fn.enter (Tryz.func116) rfl rfl (fun w0 R=>?_)
 refine sA (xB 1 rfl (fun bk1=>(dS (TC.draw (od [1,3,5,7,9,13,15,17,10,18]) [1] fc_m (by kernel_rfl) (xf 3 zbf rfl (xlc 1 zbv rfl rfl (xf 0 zaH rfl (xL3 1 zab rfl rfl (xmi rfl ?_)))))))))
 refine xmi rfl (TL.ncI rfl rfl rfl (xmc rfl (xd [] (zaV hl) zbQ rfl (kL1 rfl trivial) (TL.mstore 0 hM rfl rfl rfl (by first | exact hy | decide) rfl rfl rfl (kL1 rfl trivial) (dA (xL6 1 zaa rfl rfl (xmi rfl (xD [0] (zhh hM hl) zjz rfl ?_))))))))
 refine dS (TC.draw (od [1,3,5,7,9,11,13,14,16]) [1] fc_m (by kernel_rfl) (xf 4 zjn rfl (xL2 1 za9 rfl rfl (xf 3 zbf rfl (xlc 1 zbv rfl rfl (xf 0 zaH rfl (xL3 1 zab rfl rfl (xmi rfl ?_))))))))
 refine xd [] (zaV hl) zbQ rfl (kL1 rfl trivial) (xd [0] (zpC hM) zto rfl (kL1 rfl trivial) (dA (xai rfl (dB (xf 0 zaH rfl (xL3 1 zab rfl rfl (xmi rfl (xD [] (zht hl) zkt rfl ?_))))))))
 refine xmu rfl (TL.ext (.agg _) rfl rfl rfl rfl (TL.ext (.bool _) rfl rfl rfl rfl (TL.alloc 2 (cs:=#[.bool false,.int .i64 0,.int .i64 0,.int .i64 0,.int .i64 0]) zgf rfl rfl rfl (fun _=>trivial) (fun bk2=>(TL.stW 2 5 [_,_,_,_,_] rfl rfl rfl rfl rfl rfl zcL rfl rfl trivial (xab rfl (dA (xf 0 zkp rfl (xlb 2 zdb rfl rfl ?_)))))))))
 refine TL.not _ _ rfl rfl rfl rfl (xmb rfl (TL.cases rfl (fun q1=>?_) (fun q1=>?_)))
 refine xf 1 zhH rfl (xli 2 zad rfl rfl (TL.eql rfl rfl rfl rfl (fun q2=>?_) (fun q2=>?_)))
 refine xpT rfl (TL.done (TQ.then (TC.condT rfl (TC.region (xai rfl (TL.done (TQ.then (TC.draw (od [1,3,5,7,9,13,15,17,10,18]) [1] fc_m (by kernel_rfl) ?_))))))))
 refine xf 3 zbf rfl (xlc 1 zbv rfl rfl (xf 0 zaH rfl (xL3 1 zab rfl rfl (xmi rfl (xmi rfl (TL.ncI rfl rfl rfl (xmc rfl (xd [] (zaV hl) zbQ rfl (kL1 rfl trivial) ?_))))))))
 refine TL.mstore 0 hM rfl rfl rfl (by first | exact hy | decide) rfl rfl rfl (kL1 rfl trivial) (TL.done ?_)
 refine FQ.end0 (Bs:=[A _]) [0] rfl rfl ⟨rfl,trivial⟩ ?_
 exact ⟨rfl,by unfold zfL zg2; rw [if_pos ⟨by simpa using q1,q2⟩]⟩
 refine xpG rfl (TL.done (TQ.then (TC.condF rfl (TC.skip (TQ.then (TC.draw (od [1,3,5,7,9,13,15,17,10,18]) [1] fc_m (by kernel_rfl) (xf 3 zbf rfl (xlc 1 zbv rfl rfl ?_))))))))
 refine xf 0 zaH rfl (xL3 1 zab rfl rfl (xmi rfl (xmi rfl (TL.ncI rfl rfl rfl (xmc rfl (xd [] (zaV hl) zbQ rfl (kL1 rfl trivial) (TL.mstore 0 hM rfl rfl rfl (by first | exact hy | decide) rfl rfl rfl (kL1 rfl trivial) (TL.done ?_))))))))
 refine FQ.end0 (Bs:=[A _]) [0] rfl rfl ⟨rfl,trivial⟩ ?_
 exact ⟨rfl,by unfold zfL zg2; rw [if_neg (fun h=>q2 h.2)]⟩
 refine xo rfl (xo rfl (xo rfl (xpF rfl (TL.done (TQ.then (TC.condF rfl (TC.skip (TQ.then ?_))))))))
 refine TC.draw (od [1,3,5,7,9,13,15,17,10,18]) [1] fc_m (by kernel_rfl) (xf 3 zbf rfl (xlc 1 zbv rfl rfl (xf 0 zaH rfl (xL3 1 zab rfl rfl (xmi rfl (xmi rfl (TL.ncI rfl rfl rfl (xmc rfl ?_))))))))
 refine xd [] (zaV hl) zbQ rfl (kL1 rfl trivial) (TL.mstore 0 hM rfl rfl rfl (by first | exact hy | decide) rfl rfl rfl (kL1 rfl trivial) (TL.done ?_))
 refine FQ.end0 (Bs:=[A _]) [0] rfl rfl ⟨rfl,trivial⟩ ?_
 exact ⟨rfl,by unfold zfL zg2; rw [if_neg (fun h=>by rw [h.1] at q1; cases q1)]⟩
theorem zvE {l:Lay} (hl:l.Ok) {a:Option Addr} {b off dn dc:Nat} {Ad:Assn} {fd:Nat->Int} (ha:0<dn->a=some ⟨b,off,none⟩) (hAd:zbh Ad encU 1 b off dn fd) (hfd:∀ i,i<dn->0<=fd i/\fd i<18446744073709551616) (hdn:dn<=256)  : Go.Eng.Fn Tryz.prog 76 [layV l,.slice a dn dc] [Ad] (fun v Bs=>∃ ab mb,v=.tuple #[.pointer (some ⟨ab,0,none⟩),.int .i64 0]/\Bs=[Ad,zam ab mb 139 29 (zfM l dn fd (Array.replicate l.cells.toNat 0))]):=by
 obtain ⟨N,hN⟩:∃ N:Nat,l.cells=(N:Int):=⟨l.cells.toNat,by have:=zfK hl; have:=zaF hl; have:=zck hl; have:=zb5 hl; omega⟩
 have hN2:l.cells.toNat=N:=by omega
 have hcb:=zfK hl
 have hnb:=zaF hl
 refine Fn.enter (Tryz.func76) rfl rfl (fun w0 R=>?_)
 refine sA (xB 1 rfl (fun bk1=>(TL.asg (.pointer none) rfl rfl rfl (xai rfl (dS (TC.block (sA (xL3 1 zab rfl rfl (xD [] (zr0 hl) zyJ rfl ?_)))))))))
 refine xnt rfl (xaf rfl (TL.done (TQ.then (TC.condF rfl (sA (xms rfl (xz za4 rfl (TL.gtrF rfl rfl (by omega) rfl rfl ?_))))))))
 refine xaf rfl (TL.done (TQ.then (TC.condF rfl (TC.skip (TQ.inBlock (TQ.then (sA (xL3 1 zab rfl rfl ?_))))))))
 refine xD [] (zvA hl) zzU rfl ?_
 rw [hN]
 refine TL.call [] [2] (zy1 (by omega)) ⟨rfl,trivial⟩ trivial zz5 rfl rfl rfl rfl ?_
 rintro v Bs ⟨ab,mb,rfl,rfl⟩
 refine ⟨rfl,trivial,?_⟩
 rw [<-hN2]
 refine TL.conseq 2 (B:=zam ab mb 139 29 (Array.replicate l.cells.toNat 0)) rfl (fun h hh=>zfk hh) trivial (xmu rfl (TL.ext (.pointer (some ⟨_,_,none⟩)) rfl rfl rfl rfl (xei rfl rfl (xap rfl (xai rfl (dB (xmi rfl (TL.neqF rfl rfl (by omega) rfl rfl ?_))))))))
 refine TL.done (TQ.then (TC.condF rfl (TC.skip (TQ.then (TC.seq (TC.draw (od [1,7,2,5,8]) [1] fc_m (by kernel_rfl) (xmp rfl (xL3 1 zab rfl rfl ?_))))))))
 refine xd [] ze4 zjs rfl (kL1 rfl trivial) (TL.miN (v:=(.agg _)) rfl zgt rfl rfl (xd [2] (zux zfn (zhP) hl) zyI rfl (kL1 rfl trivial) (dS (TC.drawT (.br [(0,true),(1,true),(4,true)] 2 6 (.fin [(3,true),(5,true),(6,false),(7,false)]) (.fin [(2,false),(3,true),(5,true),(7,false)])) [1] fc_m (by kernel_rfl) (TT.br (xL3 1 zab rfl rfl (xmp rfl (TL.bld [.int .i64 0,.int .i64 0] [(.int _ _)] [_,_] zfF zjk ⟨rfl,trivial⟩ ⟨rfl,rfl⟩ rfl rfl (TL.both ?_ ?_)))))))))
 refine xd [] ze4 zjs rfl (kL1 rfl trivial) (TL.tree (TT.fin (TL.miN (v:=(.agg _)) rfl zgt rfl rfl (TL.bld [.int .i64 0,.int .i64 0,.int .i64 0,.nilIface,.int .i64 0,.int .i64 0] [(.agg _),(.iface _ _),(.agg _)] [_,_,_,_,_,_] zjj znV ⟨rfl,rfl,rfl,trivial⟩ ⟨rfl,rfl⟩ rfl rfl (TL.alloc 3 (cs:=#[.int .i64 0,.int .i64 0,.int .i64 0,.nilIface,.int .i64 0,.int .i64 0]) zjj rfl rfl rfl (fun _=>(kL1 rfl trivial)) (fun bk3=>(TL.stW 3 6 [_,_,_,_,_,_] rfl rfl rfl rfl rfl rfl zaa rfl rfl (kL1 rfl trivial) (dB (xai rfl (dK ?_))))))))))
 refine TC.loopK (X:=Nat) [1,2,4,5,6,8] [0,1,3] (fun x=>[(9,.int .i64 ((x+1:Nat):Int))]) (fun x=>[(2,zam ab mb 139 29 (zdA l dn fd x (zh7 l (Array.replicate l.cells.toNat 0))))]) (fun x=>(x:Int)<=l.nodes) (fun x=>l.nodes.toNat - x) (0) (by omega) ⟨rfl,trivial⟩ ⟨rfl,trivial⟩ (fun x hI=>(TC.sub (env':=[(9,_),(1,_),(2,_),(4,_),(5,_),(6,_),(8,_)]) (L':=[(2,_),(0,_),(1,_),(3,_)]) ⟨rfl,rfl,rfl,rfl,rfl,rfl,rfl,trivial⟩ ⟨rfl,rfl,rfl,rfl,trivial⟩ (sB (xmi rfl (xL3 1 zab rfl rfl (xD [] (zem hl) zh3 rfl (TL.leq rfl rfl rfl rfl (fun q1=>?_) (fun q1=>?_))))))))
 refine TL.done (TQ.then (TC.condT rfl (TC.skip (TQ.then (TC.seq (TC.block (sA (xai rfl ?_))))))))
 refine dB (xms rfl (xz za4 rfl (TL.gtr rfl rfl rfl rfl (fun q2=>?_) (fun q2=>?_))))
 refine TL.done (TQ.then (TC.condT rfl (TC.region (xms rfl (xmi rfl (xms rfl (xz za4 rfl (TL.rem ((((x+1) % dn:Nat):Int)) rfl rfl (by omega) (by rw [Int.tmod_eq_emod_of_nonneg (by omega)]; exact (Int.natCast_emod (x+1) dn).symm) rfl rfl ?_))))))))
 refine TL.iaO rfl ha rfl za4 (Nat.mod_lt _ (by omega)) rfl rfl (TL.ldRS 0 (.int _ _) rfl rfl hAd (Nat.mod_lt _ (by omega)) (rfl) zkl rfl rfl (xai rfl (dG (xL6 3 zaa rfl rfl (xmi rfl (xmi rfl (xD [2] (ziz (p:=P1) zfn hl (by first | exact hfd _ (Nat.mod_lt _ (by omega)) | decide)) zlG rfl (dI ?_))))))))
 refine xmi rfl (TL.add (((x+2:Nat):Int)) rfl rfl (wrN (by omega)) rfl rfl (xai rfl (TL.done (TQ.roundK (x+1) ⟨(by omega),(by omega)⟩ ⟨rfl,trivial⟩ ⟨congrArg (fun z=>some (zam ab mb 139 29 (z))) (zkB (by omega)),trivial⟩ (kE6 rfl rfl rfl rfl rfl rfl trivial) (kL3 rfl rfl rfl trivial)))))
 refine TL.done (TQ.then (TC.condF rfl (TC.skip (TQ.then (TC.region (xL6 3 zaa rfl rfl (xmi rfl (xmi rfl ?_))))))))
 refine xD [2] (ziz (p:=P1) zfn hl (by first | exact hfd _ (Nat.mod_lt _ (by omega)) | decide)) zlG rfl (dI (xmi rfl (TL.add (((x+2:Nat):Int)) rfl rfl (wrN (by omega)) rfl rfl (xai rfl (TL.done (TQ.roundK (x+1) ⟨(by omega),(by omega)⟩ ⟨rfl,trivial⟩ ⟨congrArg (fun z=>some (zam ab mb 139 29 (z))) (zjK (by omega)),trivial⟩ (kE6 rfl rfl rfl rfl rfl rfl trivial) (kL3 rfl rfl rfl trivial)))))))
 refine dE rfl (sA (xmp rfl (xap rfl (xai rfl (dR ?_)))))
 refine FQ.ret2 (v:=(.pointer (some ⟨_,_,none⟩))) (x:=(.int _ _)) (Bs:=[Ad,_]) [0,2] rfl rfl rfl rfl ⟨rfl,rfl,trivial⟩ ?_
 obtain rfl:x=l.nodes.toNat:=by omega
 exact ⟨_,_,rfl,rfl⟩
 refine TL.alloc 4 (cs:=#[.int .i64 0,.int .i64 0,.int .i64 0,.nilIface,.int .i64 0,.int .i64 0]) zjj rfl rfl rfl (fun _=>(kL1 rfl trivial)) (fun bk4=>(TL.tree (TT.fin (xd [] ze4 zjs rfl (kL1 rfl trivial) (TL.miN (v:=(.agg _)) rfl zgt rfl rfl (TL.bld [.int .i64 0,.int .i64 0,.int .i64 0,.nilIface,.int .i64 0,.int .i64 0] [(.agg _),(.iface _ _),(.agg _)] [_,_,_,_,_,_] zjj znV ⟨rfl,rfl,rfl,trivial⟩ ⟨rfl,rfl⟩ rfl rfl (TL.stW 4 6 [_,_,_,_,_,_] rfl rfl rfl rfl rfl rfl zaa rfl rfl (kL1 rfl trivial) (dB (xai rfl (dK ?_))))))))))
 refine TC.loopK (X:=Nat) [1,2,4,5,6,8] [0,1,4] (fun x=>[(9,.int .i64 ((x+1:Nat):Int))]) (fun x=>[(2,zam ab mb 139 29 (zdA l dn fd x (zh7 l (Array.replicate l.cells.toNat 0))))]) (fun x=>(x:Int)<=l.nodes) (fun x=>l.nodes.toNat - x) (0) (by omega) ⟨rfl,trivial⟩ ⟨rfl,trivial⟩ (fun x hI=>(TC.sub (env':=[(9,_),(1,_),(2,_),(4,_),(5,_),(6,_),(8,_)]) (L':=[(2,_),(0,_),(1,_),(4,_)]) ⟨rfl,rfl,rfl,rfl,rfl,rfl,rfl,trivial⟩ ⟨rfl,rfl,rfl,rfl,trivial⟩ (sB (xmi rfl (xL3 1 zab rfl rfl (xD [] (zem hl) zh3 rfl (TL.leq rfl rfl rfl rfl (fun q1=>?_) (fun q1=>?_))))))))
 refine TL.done (TQ.then (TC.condT rfl (TC.skip (TQ.then (TC.seq (TC.block (sA (xai rfl ?_))))))))
 refine dB (xms rfl (xz za4 rfl (TL.gtr rfl rfl rfl rfl (fun q2=>?_) (fun q2=>?_))))
 refine TL.done (TQ.then (TC.condT rfl (TC.region (xms rfl (xmi rfl (xms rfl (xz za4 rfl (TL.rem ((((x+1) % dn:Nat):Int)) rfl rfl (by omega) (by rw [Int.tmod_eq_emod_of_nonneg (by omega)]; exact (Int.natCast_emod (x+1) dn).symm) rfl rfl ?_))))))))
 refine TL.iaO rfl ha rfl za4 (Nat.mod_lt _ (by omega)) rfl rfl (TL.ldRS 0 (.int _ _) rfl rfl hAd (Nat.mod_lt _ (by omega)) (rfl) zkl rfl rfl (xai rfl (dG (xL6 4 zaa rfl rfl (xmi rfl (xmi rfl (xD [2] (ziz (p:=P1) zfn hl (by first | exact hfd _ (Nat.mod_lt _ (by omega)) | decide)) zlG rfl (dI ?_))))))))
 refine xmi rfl (TL.add (((x+2:Nat):Int)) rfl rfl (wrN (by omega)) rfl rfl (xai rfl (TL.done (TQ.roundK (x+1) ⟨(by omega),(by omega)⟩ ⟨rfl,trivial⟩ ⟨congrArg (fun z=>some (zam ab mb 139 29 (z))) (zkB (by omega)),trivial⟩ (kE6 rfl rfl rfl rfl rfl rfl trivial) (kL3 rfl rfl rfl trivial)))))
 refine TL.done (TQ.then (TC.condF rfl (TC.skip (TQ.then (TC.region (xL6 4 zaa rfl rfl (xmi rfl (xmi rfl ?_))))))))
 refine xD [2] (ziz (p:=P1) zfn hl (by first | exact hfd _ (Nat.mod_lt _ (by omega)) | decide)) zlG rfl (dI (xmi rfl (TL.add (((x+2:Nat):Int)) rfl rfl (wrN (by omega)) rfl rfl (xai rfl (TL.done (TQ.roundK (x+1) ⟨(by omega),(by omega)⟩ ⟨rfl,trivial⟩ ⟨congrArg (fun z=>some (zam ab mb 139 29 (z))) (zjK (by omega)),trivial⟩ (kE6 rfl rfl rfl rfl rfl rfl trivial) (kL3 rfl rfl rfl trivial)))))))
 refine dE rfl (sA (xmp rfl (xap rfl (xai rfl (dR ?_)))))
 refine FQ.ret2 (v:=(.pointer (some ⟨_,_,none⟩))) (x:=(.int _ _)) (Bs:=[Ad,_]) [0,2] rfl rfl rfl rfl ⟨rfl,rfl,trivial⟩ ?_
 obtain rfl:x=l.nodes.toNat:=by omega
 exact ⟨_,_,rfl,rfl⟩
end Go.Proofs.YtabjfnfglcghfaaGreat
