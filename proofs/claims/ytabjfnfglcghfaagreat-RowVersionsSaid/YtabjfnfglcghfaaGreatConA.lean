import Derived.Test.YtabjfnfglcghfaaGreatEngG
import Derived.Test.YtabjfnfglcghfaaGreatProg
import Derived.KernelRfl
import Derived.Tactics2
import Derived.StillTactics
import Derived.Laws.Tables
import Derived.Shelf.Sort.Plain
import Derived.Shelf.Slices.In.SortNone
set_option linter.unusedVariables false
set_option linter.unusedSimpArgs false
set_option maxRecDepth 20000
namespace Go.Proofs.YtabjfnfglcghfaaGreat
open Go.Eng Go.Tm
open Go.Eng Go.Tm
abbrev layV (l:Lay):Value:=.agg #[.int .i64 l.V,.int .i64 l.S,.int .i64 l.T]
abbrev zzS (t:Thing):Value:=.agg #[.bool t.arc,.int .i64 t.level,.int .i64 t.vertex,.int .i64 t.slot,.int .i64 t.side]
abbrev wdV (w:Wd):Value:=.agg #[.int .i64 w.old,.int .i64 w.new,.int .i64 w.thread,.int .i64 w.tag]
theorem zyd {x:Int} (_h0:0<=x) (_h1:x<=16):0<=levI x/\levI x<=5:=by
 unfold levI
 repeat' split
 all_goals omega
theorem zAh {s:ByteArray} {x:Int} (h0:0<=x) (h1:x<=16) (hs:(List.range 17).map (fun i=>(s[i]?).map (·.toNat))=[0,1,2,2,3,3,3,3,4,4,4,4,4,4,4,4,5].map some):(s[x.toNat]?).map (fun b=>(b.toNat:Int))=some (levI x):=by
 have hx:x.toNat<17:=by omega
 have h2:=congrArg (fun l=>l[x.toNat]?) hs
 simp only [List.getElem?_map,List.getElem?_range hx,Option.map_some] at h2
 have h3:x=(x.toNat:Int):=by omega
 rw [h3,Int.toNat_natCast]
 generalize x.toNat=i at *
 have:i=0\/i=1\/i=2\/i=3\/i=4\/i=5\/i=6\/i=7\/i=8\/i=9\/i=10\/i=11\/i=12\/i=13\/i=14\/i=15\/i=16:=by omega
 cases hb:s[i]? with
 | none=>rw [hb] at h2; rcases this with rfl | rfl | rfl | rfl | rfl | rfl | rfl | rfl | rfl | rfl | rfl | rfl | rfl | rfl | rfl | rfl | rfl<;>simp at h2
 | some b=>rw [hb] at h2; rcases this with rfl | rfl | rfl | rfl | rfl | rfl | rfl | rfl | rfl | rfl | rfl | rfl | rfl | rfl | rfl | rfl | rfl<;>simp at h2<;>simp [h2,levI]
theorem zdP {l:Lay} (h:l.Ok):1<=(l.V:Int)/\(l.V:Int)<=16/\(l.S:Int)<=48/\1<=(l.T:Int)/\(l.T:Int)<=8:=by
 obtain ⟨h1,h2,h3,h4,h5⟩:=h; omega
theorem zAe {l:Lay} (h:l.Ok):1<=l.lev/\l.lev<=5:=by
 have:=zdP h
 unfold Lay.lev levI
 repeat' split
 all_goals omega
theorem zbL {l:Lay} (h:l.Ok):(1<=(l.V:Int)/\(l.V:Int)<=16/\(l.S:Int)<=48/\1<=(l.T:Int)/\(l.T:Int)<=8)/\(1<=l.lev/\l.lev<=5)/\l.arcs=2 * l.lev/\l.free=l.T/\(0<=l.lev * l.V/\l.lev * l.V<=5 * 16)/\(0<=(l.V:Int) * l.lev/\(l.V:Int) * l.lev<=16 * 5) /\
  (0<=(l.S:Int) * l.arcs/\(l.S:Int) * l.arcs<=48 * 10)/\l.nodes=l.lev * l.V+l.S * l.arcs/\l.heads=l.T+1+l.S * 7/\l.edges=l.heads+l.V * l.lev/\(0<=(l.V:Int) * (l.V - 1)/\(l.V:Int) * (l.V - 1)<=16 * 15) /\
  l.base=l.edges+(l.V:Int) * (l.V - 1) / 2/\l.cells=l.base+l.nodes * 7:=by
 have h1:=zdP h
 have h2:=zAe h
 have h3:l.arcs=2 * l.lev:=rfl
 exact ⟨h1,h2,h3,Z,zeh (by omega) (by omega) (by omega) (by omega),zeh (by omega) (by omega) (by omega) (by omega),zeh (by omega) (by omega) (by omega) (by omega),Z,Z,Z,zeh (by omega) (by omega) (by omega) (by omega),Z,Z⟩
theorem zrM {a b:Int} (h0:0<=a) (hb:0<b) (ha:a<9223372036854775808):IntKind.i64.wrap (a.tdiv b)=a / b:=by
 rw [Int.tdiv_eq_ediv_of_nonneg h0]
 exact wr64 ⟨by have:=Int.ediv_nonneg h0 (Int.le_of_lt hb); omega,by have:=Int.ediv_le_self b h0; omega⟩
theorem znL {a b:Int} (h0:0<=a):a.tmod b=a % b:=Int.tmod_eq_emod_of_nonneg h0
theorem zgP {x V:Int} (h0:0<=x) (h1:x<V) (h2:V<=16):0<=x * (2 * V - x - 1)/\x * (2 * V - x - 1)<=16 * 32:=zeh h0 (by omega) (by omega) (by omega)
abbrev zbw (l:Lay) (mt:TypeId) (mv:Value) (p:Pen):Value:=.agg #[.int .i64 l.V,.int .i64 l.S,.int .i64 l.T,.iface mt mv,.int .i64 p.thread,.int .i64 p.tag]
abbrev zjV (l:Lay) (mt:TypeId) (mv:Value):Value:=.agg #[.int .i64 l.V,.int .i64 l.S,.int .i64 l.T,.iface mt mv]
abbrev adjV (l:Lay) (mt:TypeId) (mv:Value) (p:Pen):Value:=.agg #[.int .i64 l.V,.int .i64 l.S,.int .i64 l.T,.iface mt mv,.int .i64 p.thread,.int .i64 p.tag,.int .i64 l.V,.int .i64 l.S,.int .i64 l.T,.iface mt mv]
theorem zpw (l:Lay) (x m:Int):0<=zfD l x m/\zfD l x m<18446744073709551616:=by
 unfold zfD; split<;>exact zby _ _
theorem zqr {S:Type} [MemLike S] (l:Lay) (σ:S) (x m:Int) (i:Nat):0<=(zcd l σ x m i).1/\(zcd l σ x m i).1<18446744073709551616:=by
 cases i with
 | zero=>exact zpw _ _ _
 | succ i=>exact zby _ _
abbrev edgV (e:Edg):Value:=.agg #[.int .i64 e.u,.int .i64 e.v,.int .i64 e.level,.bool e.tree]
theorem quo2 (z:Int):IntKind.i64.wrap ((IntKind.i64.wrap z).tdiv 2)=(IntKind.i64.wrap z).tdiv 2:=by
 have h:-9223372036854775808<=IntKind.i64.wrap z/\IntKind.i64.wrap z<9223372036854775808:=by
  rw [IntKind.wrap_i64]; omega
 generalize IntKind.i64.wrap z=y at *
 refine wr64 ?_
 have h1:=Int.mul_tdiv_add_tmod y 2
 have h2:=Int.tmod_lt_of_pos y (show (0:Int)<2 by omega)
 have h3:=Int.lt_tmod_of_pos y (show (0:Int)<2 by omega)
 omega
theorem zdT:(Tryz.prog.underlying 29).isSome=true:=by kernel_rfl
theorem zvQ:intB Tryz.prog 5 .u8=true:=by kernel_rfl
theorem zAu:Tryz.prog.underlying 9=some .string:=by kernel_rfl
theorem fc_u5:(Tryz.prog.underlying 5).isSome=true:=by kernel_rfl
theorem zaQ:intB Tryz.prog 3 .i64=true:=by kernel_rfl
theorem zzb:zai Tryz.prog 165=true:=by kernel_rfl
theorem zaJ:fldB Tryz.prog 41 0 0=true:=by kernel_rfl
theorem zad:zcK Tryz.prog 3=true:=by kernel_rfl
theorem zgr:(Tryz.prog.underlying 3).isSome=true:=by kernel_rfl
theorem zjD:intB Tryz.prog 203 .u64=true:=by kernel_rfl
theorem zzm:zai Tryz.prog 121=true:=by kernel_rfl
theorem zab:aggB Tryz.prog 41 3=true:=by kernel_rfl
theorem zgy:zai Tryz.prog 87=true:=by kernel_rfl
theorem fc_m:Tryz.prog.follows .mixedOrders=true:=by kernel_rfl
theorem zbC:fldB Tryz.prog 41 1 1=true:=by kernel_rfl
theorem zpI:zai Tryz.prog 88=true:=by kernel_rfl
theorem zdc:zai Tryz.prog 89=true:=by kernel_rfl
theorem ze2:fldB Tryz.prog 41 2 2=true:=by kernel_rfl
theorem zlZ:zai Tryz.prog 137=true:=by kernel_rfl
theorem zjP:zai Tryz.prog 177=true:=by kernel_rfl
theorem ztG:zai Tryz.prog 166=true:=by kernel_rfl
theorem ztN:zai Tryz.prog 122=true:=by kernel_rfl
theorem zgz:zai Tryz.prog 31=true:=by kernel_rfl
theorem zwW:zai Tryz.prog 90=true:=by kernel_rfl
theorem zfB:zbI Tryz.prog 59=some (.agg #[.bool false,.int .i64 0,.int .i64 0,.int .i64 0,.int .i64 0]):=by kernel_rfl
theorem zs6:zbm Tryz.prog 59 [(0,1),(1,1),(2,1),(3,1),(4,1)]=true:=by kernel_rfl
theorem zcr:aggB Tryz.prog 59 5=true:=by kernel_rfl
theorem zfp:fldB Tryz.prog 260 2 2=true:=by kernel_rfl
theorem zcb:fldB Tryz.prog 260 0 0=true:=by kernel_rfl
theorem zhZ:zai Tryz.prog 253=true:=by kernel_rfl
theorem zcz:fldB Tryz.prog 260 1 1=true:=by kernel_rfl
theorem zfo:fldB Tryz.prog 260 3 3=true:=by kernel_rfl
theorem zaI:aggB Tryz.prog 260 4=true:=by kernel_rfl
theorem zyQ:zai Tryz.prog 254=true:=by kernel_rfl
theorem ztl:zai Tryz.prog 228=true:=by kernel_rfl
theorem zbu:intB Tryz.prog 29 .u64=true:=by kernel_rfl
theorem zb9:zbI Tryz.prog 260=some (.agg #[.int .i64 0,.int .i64 0,.int .i64 0,.int .i64 0]):=by kernel_rfl
theorem zoi:zai Tryz.prog 227=true:=by kernel_rfl
theorem zhS:zbm Tryz.prog 260 [(0,1),(1,1),(2,1),(3,1)]=true:=by kernel_rfl
theorem zdt:fldB Tryz.prog 137 0 0=true:=by kernel_rfl
theorem zds:fldB Tryz.prog 137 1 1=true:=by kernel_rfl
theorem zfW:zai Tryz.prog 195=true:=by kernel_rfl
theorem ztk:zai Tryz.prog 229=true:=by kernel_rfl
theorem zlW:zai Tryz.prog 222=true:=by kernel_rfl
theorem ztB:zai Tryz.prog 187=true:=by kernel_rfl
theorem zbi:fldB Tryz.prog 182 1 3=true:=by kernel_rfl
theorem zbv:zcK Tryz.prog 180=true:=by kernel_rfl
theorem zaH:fldB Tryz.prog 182 0 0=true:=by kernel_rfl
theorem zcq:zai Tryz.prog 35=true:=by kernel_rfl
theorem zik:zai Tryz.prog 32=true:=by kernel_rfl
theorem zeY:fldB Tryz.prog 59 1 1=true:=by kernel_rfl
theorem zaa:aggB Tryz.prog 182 6=true:=by kernel_rfl
theorem ztm:zai Tryz.prog 221=true:=by kernel_rfl
theorem zok:zai Tryz.prog 198=true:=by kernel_rfl
theorem zen:zai Tryz.prog 250=true:=by kernel_rfl
theorem zjE:fldB Tryz.prog 182 2 4=true:=by kernel_rfl
theorem zba:aggB Tryz.prog 137 2=true:=by kernel_rfl
theorem zol:zai Tryz.prog 197=true:=by kernel_rfl
theorem zlY:zai Tryz.prog 184=true:=by kernel_rfl
theorem zkK:fldB Tryz.prog 59 0 0=true:=by kernel_rfl
theorem zd3:zcK Tryz.prog 4=true:=by kernel_rfl
theorem ztC:zai Tryz.prog 186=true:=by kernel_rfl
theorem zs4:zbI Tryz.prog 122=some (.agg #[.int .i64 0,.int .i64 0]):=by kernel_rfl
theorem zd4:znk Tryz.prog 122 2 3 1=true:=by kernel_rfl
theorem zjK:zai Tryz.prog 276=true:=by kernel_rfl
theorem zyK:zai Tryz.prog 277=true:=by kernel_rfl
theorem zjO:zai Tryz.prog 185=true:=by kernel_rfl
theorem zh2:zai Tryz.prog 223=true:=by kernel_rfl
theorem zlT:zai Tryz.prog 261=true:=by kernel_rfl
theorem zhY:zai Tryz.prog 259=true:=by kernel_rfl
theorem zjL:zai Tryz.prog 260=true:=by kernel_rfl
theorem zod:zai Tryz.prog 262=true:=by kernel_rfl
theorem zlS:zai Tryz.prog 275=true:=by kernel_rfl
theorem zyL:zai Tryz.prog 274=true:=by kernel_rfl
theorem zoe:zai Tryz.prog 258=true:=by kernel_rfl
theorem ztc:zai Tryz.prog 278=true:=by kernel_rfl
theorem zte:zai Tryz.prog 257=true:=by kernel_rfl
theorem zak:fldB Tryz.prog 188 0 0=true:=by kernel_rfl
theorem zfu:zai Tryz.prog 103=true:=by kernel_rfl
theorem zft:zai Tryz.prog 190=true:=by kernel_rfl
theorem zof:zai Tryz.prog 243=true:=by kernel_rfl
theorem zfr:zai Tryz.prog 244=true:=by kernel_rfl
theorem zh0:zai Tryz.prog 239=true:=by kernel_rfl
theorem zyN:zai Tryz.prog 263=true:=by kernel_rfl
theorem zog:zai Tryz.prog 242=true:=by kernel_rfl
theorem zbV:aggB Tryz.prog 188 6=true:=by kernel_rfl
theorem zti:zai Tryz.prog 238=true:=by kernel_rfl
theorem zth:zai Tryz.prog 240=true:=by kernel_rfl
theorem zjQ:zai Tryz.prog 147=true:=by kernel_rfl
theorem zbG:fldB Tryz.prog 190 1 3=true:=by kernel_rfl
theorem zaM:fldB Tryz.prog 190 0 0=true:=by kernel_rfl
theorem zjR:zai Tryz.prog 140=true:=by kernel_rfl
theorem ztt:zai Tryz.prog 203=true:=by kernel_rfl
theorem zoo:zai Tryz.prog 172=true:=by kernel_rfl
theorem zts:zai Tryz.prog 204=true:=by kernel_rfl
theorem zdm:zbI Tryz.prog 217=some (.agg #[.int .i64 0,.int .i64 0,.int .i64 0,.bool false]):=by kernel_rfl
theorem za3:aggB Tryz.prog 190 4=true:=by kernel_rfl
theorem ztF:zai Tryz.prog 170=true:=by kernel_rfl
theorem zza:zai Tryz.prog 171=true:=by kernel_rfl
theorem zyB:zbm Tryz.prog 217 [(0,1),(1,1),(2,1),(3,1)]=true:=by kernel_rfl
theorem zbU:aggB Tryz.prog 217 4=true:=by kernel_rfl
theorem zaA:fldB Tryz.prog 192 1 6=true:=by kernel_rfl
theorem zyP:zai Tryz.prog 255=true:=by kernel_rfl
theorem zyO:zai Tryz.prog 256=true:=by kernel_rfl
theorem zao:aggB Tryz.prog 192 10=true:=by kernel_rfl
theorem zlV:zai Tryz.prog 232=true:=by kernel_rfl
theorem zjN:zai Tryz.prog 233=true:=by kernel_rfl
theorem zbh:fldB Tryz.prog 192 0 0=true:=by kernel_rfl
theorem zAP:zum Tryz.prog 4=true:=by kernel_rfl
theorem ztg:zai Tryz.prog 241=true:=by kernel_rfl
theorem zoh:zai Tryz.prog 235=true:=by kernel_rfl
theorem zfs:zai Tryz.prog 234=true:=by kernel_rfl
theorem zjM:zai Tryz.prog 236=true:=by kernel_rfl
theorem zh1:zai Tryz.prog 237=true:=by kernel_rfl
theorem zdu:zai Tryz.prog 134=true:=by kernel_rfl
theorem zbo:fldB Tryz.prog 217 0 0=true:=by kernel_rfl
theorem zbF:fldB Tryz.prog 217 2 2=true:=by kernel_rfl
theorem zlX:zai Tryz.prog 206=true:=by kernel_rfl
theorem ztr:zai Tryz.prog 205=true:=by kernel_rfl
theorem zbn:fldB Tryz.prog 217 1 1=true:=by kernel_rfl
theorem zto:zai Tryz.prog 211=true:=by kernel_rfl
theorem zaq:fldB Tryz.prog 194 0 0=true:=by kernel_rfl
theorem zy3:zai Tryz.prog 207=true:=by kernel_rfl
theorem ztq:zai Tryz.prog 208=true:=by kernel_rfl
theorem zaZ:aggB Tryz.prog 194 10=true:=by kernel_rfl
theorem zoj:zai Tryz.prog 209=true:=by kernel_rfl
theorem zhp:zm3 Tryz.prog 217 2 2 3=true:=by kernel_rfl
theorem zy2:zai Tryz.prog 212=true:=by kernel_rfl
theorem ztd:zai Tryz.prog 265=true:=by kernel_rfl
theorem zon:zai Tryz.prog 173=true:=by kernel_rfl
theorem ztI:zai Tryz.prog 162=true:=by kernel_rfl
theorem zyM:zai Tryz.prog 264=true:=by kernel_rfl
theorem zlU:zai Tryz.prog 246=true:=by kernel_rfl
theorem zqI:fldB Tryz.prog 59 3 3=true:=by kernel_rfl
theorem zyU:zai Tryz.prog 247=true:=by kernel_rfl
theorem zqJ:fldB Tryz.prog 59 2 2=true:=by kernel_rfl
theorem zyT:zai Tryz.prog 248=true:=by kernel_rfl
theorem ztu:zai Tryz.prog 202=true:=by kernel_rfl
theorem zyS:zai Tryz.prog 249=true:=by kernel_rfl
theorem ztf:zai Tryz.prog 245=true:=by kernel_rfl
theorem zs0:zbI Tryz.prog 196=some (.agg #[.int .i64 0,.int .i64 0,.int .i64 0,.nilIface,.int .i64 0,.int .i64 0,.int .i64 0,.int .i64 0,.int .i64 0,.nilIface]):=by kernel_rfl
theorem zob:zbm Tryz.prog 182 [(0,3),(3,1),(4,2)]=true:=by kernel_rfl
theorem zjA:zbI Tryz.prog 182=some (.agg #[.int .i64 0,.int .i64 0,.int .i64 0,.nilIface,.int .i64 0,.int .i64 0]):=by kernel_rfl
theorem zyH:zbm Tryz.prog 188 [(0,6)]=true:=by kernel_rfl
theorem zs1:zbI Tryz.prog 188=some (.agg #[.int .i64 0,.int .i64 0,.int .i64 0,.nilIface,.int .i64 0,.int .i64 0]):=by kernel_rfl
theorem zyG:zbm Tryz.prog 190 [(0,3),(3,1)]=true:=by kernel_rfl
theorem zyx:zbI Tryz.prog 190=some (.agg #[.int .i64 0,.int .i64 0,.int .i64 0,.nilIface]):=by kernel_rfl
theorem zyF:zbm Tryz.prog 192 [(0,6),(6,4)]=true:=by kernel_rfl
theorem zyw:zbI Tryz.prog 192=some (.agg #[.int .i64 0,.int .i64 0,.int .i64 0,.nilIface,.int .i64 0,.int .i64 0,.int .i64 0,.int .i64 0,.int .i64 0,.nilIface]):=by kernel_rfl
theorem zyE:zbm Tryz.prog 194 [(0,10)]=true:=by kernel_rfl
theorem zyv:zbI Tryz.prog 194=some (.agg #[.int .i64 0,.int .i64 0,.int .i64 0,.nilIface,.int .i64 0,.int .i64 0,.int .i64 0,.int .i64 0,.int .i64 0,.nilIface]):=by kernel_rfl
theorem zyD:zbm Tryz.prog 196 [(0,10)]=true:=by kernel_rfl
theorem zck:aggB Tryz.prog 196 10=true:=by kernel_rfl
theorem zaV:fldB Tryz.prog 196 0 0=true:=by kernel_rfl
theorem zzd:zai Tryz.prog 160=true:=by kernel_rfl
theorem zzc:zai Tryz.prog 161=true:=by kernel_rfl
theorem ztH:zai Tryz.prog 163=true:=by kernel_rfl
theorem zy1:zai Tryz.prog 213=true:=by kernel_rfl
theorem zy0:zai Tryz.prog 214=true:=by kernel_rfl
theorem zyZ:zai Tryz.prog 215=true:=by kernel_rfl
theorem zoc:fldB Tryz.prog 217 3 3=true:=by kernel_rfl
theorem ztE:zai Tryz.prog 174=true:=by kernel_rfl
theorem zy9:zai Tryz.prog 175=true:=by kernel_rfl
theorem zy8:zai Tryz.prog 176=true:=by kernel_rfl
theorem zdr:fldB Tryz.prog 139 0 0=true:=by kernel_rfl
theorem zih:zcK Tryz.prog 22=true:=by kernel_rfl
theorem za6:zcI Tryz.prog 22 29 1=true:=by kernel_rfl
theorem zem:fldB Tryz.prog 139 1 1=true:=by kernel_rfl
theorem zjI:fldB Tryz.prog 126 0 0=true:=by kernel_rfl
theorem zpJ:zai Tryz.prog 82=true:=by kernel_rfl
theorem zlR:ptrB Tryz.prog 140=true:=by kernel_rfl
theorem zkG:zcK Tryz.prog 29=true:=by kernel_rfl
theorem zjH:fldB Tryz.prog 126 1 1=true:=by kernel_rfl
theorem zjF:fldB Tryz.prog 149 0 0=true:=by kernel_rfl
theorem zdU:zcK Tryz.prog 25=true:=by kernel_rfl
theorem zpL:zai Tryz.prog 23=true:=by kernel_rfl
theorem zkO:zai Tryz.prog 17=true:=by kernel_rfl
theorem zjC:appB Tryz.prog 22 29 1=true:=by kernel_rfl
theorem zAt:zbI Tryz.prog 29=some (.int .u64 0):=by kernel_rfl
theorem zs7:zbm Tryz.prog 139 [(0,1),(1,5)]=true:=by kernel_rfl
theorem zs3:zbI Tryz.prog 139=some (.agg #[.slice none 0 0,.int .i64 0,.int .i64 0,.int .i64 0,.int .i64 0,.int .i64 0]):=by kernel_rfl
theorem zs2:zbI Tryz.prog 149=some (.agg #[.pointer none]):=by kernel_rfl
theorem zyI:zbm Tryz.prog 149 [(0,1)]=true:=by kernel_rfl
theorem zm9:aggB Tryz.prog 149 1=true:=by kernel_rfl
theorem zy7:zai Tryz.prog 189=true:=by kernel_rfl
theorem ztA:zai Tryz.prog 188=true:=by kernel_rfl
theorem ztj:zai Tryz.prog 231=true:=by kernel_rfl
theorem zwY:zai Tryz.prog 70=true:=by kernel_rfl
theorem ztv:zai Tryz.prog 201=true:=by kernel_rfl
theorem ztM:zai Tryz.prog 138=true:=by kernel_rfl
theorem ztL:zai Tryz.prog 148=true:=by kernel_rfl
theorem zh4:zhb Tryz.prog 149 "Store" 302=true:=by kernel_rfl
theorem zzp:zai Tryz.prog 114=true:=by kernel_rfl
theorem zAC:zai Tryz.prog 91=true:=by kernel_rfl
theorem zAO:zai Tryz.prog 16=true:=by kernel_rfl
theorem zjJ:zai Tryz.prog 85=true:=by kernel_rfl
theorem zgM:ziE Tryz.prog 149=true:=by kernel_rfl
theorem zzo:zai Tryz.prog 115=true:=by kernel_rfl
theorem zjB:zbm Tryz.prog 137 [(0,1),(1,1)]=true:=by kernel_rfl
theorem zfU:zbI Tryz.prog 137=some (.agg #[.int .i64 0,.int .i64 0]):=by kernel_rfl
theorem zl0:zai Tryz.prog 116=true:=by kernel_rfl
theorem zah:zcI Tryz.prog 48 3 1=true:=by kernel_rfl
theorem zch:appB Tryz.prog 48 3 1=true:=by kernel_rfl
theorem ztP:aggB Tryz.prog 126 5=true:=by kernel_rfl
theorem zzq:zai Tryz.prog 106=true:=by kernel_rfl
theorem zkJ:fldB Tryz.prog 70 0 0=true:=by kernel_rfl
theorem zkI:fldB Tryz.prog 70 1 1=true:=by kernel_rfl
theorem zkH:fldB Tryz.prog 70 2 2=true:=by kernel_rfl
theorem zfT:zbI Tryz.prog 3=some (.int .i64 0):=by kernel_rfl
theorem ztz:zai Tryz.prog 191=true:=by kernel_rfl
theorem zeU:zcK Tryz.prog 48=true:=by kernel_rfl
theorem zzk:zai Tryz.prog 150=true:=by kernel_rfl
theorem zfn:fldB Tryz.prog 264 0 0=true:=by kernel_rfl
theorem zdp:fldB Tryz.prog 264 1 1=true:=by kernel_rfl
theorem zcf:zcK Tryz.prog 23=true:=by kernel_rfl
theorem zwU:zbm Tryz.prog 34 [(0,1),(1,1),(2,1)]=true:=by kernel_rfl
theorem zeB:zbI Tryz.prog 34=some (.agg #[.bool false,.int .i64 0,.int .u64 0]):=by kernel_rfl
theorem zam:zcI Tryz.prog 23 34 3=true:=by kernel_rfl
theorem zca:appB Tryz.prog 23 34 3=true:=by kernel_rfl
theorem zwX:zai Tryz.prog 83=true:=by kernel_rfl
theorem ztb:zai Tryz.prog 58=true:=by kernel_rfl
theorem zyA:zbm Tryz.prog 264 [(0,1),(1,1)]=true:=by kernel_rfl
theorem zyt:zbI Tryz.prog 264=some (.agg #[.pointer none,.slice none 0 0]):=by kernel_rfl
theorem zyV:zai Tryz.prog 230=true:=by kernel_rfl
theorem zyR:zai Tryz.prog 252=true:=by kernel_rfl
theorem zyz:(Tryz.prog.underlying 203).isSome=true:=by kernel_rfl
theorem zyX:zai Tryz.prog 225=true:=by kernel_rfl
theorem zyW:zai Tryz.prog 226=true:=by kernel_rfl
theorem zcs:aggB Tryz.prog 34 3=true:=by kernel_rfl
theorem zd8:fldB Tryz.prog 34 0 0=true:=by kernel_rfl
theorem zbT:fldB Tryz.prog 34 1 1=true:=by kernel_rfl
theorem zyY:zai Tryz.prog 224=true:=by kernel_rfl
theorem zbp:fldB Tryz.prog 198 1 1=true:=by kernel_rfl
theorem zy5:zai Tryz.prog 199=true:=by kernel_rfl
theorem zbg:fldB Tryz.prog 198 0 0=true:=by kernel_rfl
theorem zc8:zcK Tryz.prog 186=true:=by kernel_rfl
theorem zy4:zai Tryz.prog 200=true:=by kernel_rfl
theorem zty:zai Tryz.prog 192=true:=by kernel_rfl
theorem zom:zai Tryz.prog 193=true:=by kernel_rfl
theorem ztx:zai Tryz.prog 194=true:=by kernel_rfl
theorem zdq:fldB Tryz.prog 198 2 4=true:=by kernel_rfl
theorem zfV:ziE Tryz.prog 186=true:=by kernel_rfl
theorem zy6:zai Tryz.prog 196=true:=by kernel_rfl
theorem zcA:fldB Tryz.prog 198 3 6=true:=by kernel_rfl
theorem zb3:fldB Tryz.prog 198 5 17=true:=by kernel_rfl
theorem zb2:fldB Tryz.prog 198 6 18=true:=by kernel_rfl
theorem zcB:fldB Tryz.prog 145 1 1=true:=by kernel_rfl
theorem zjG:fldB Tryz.prog 145 0 0=true:=by kernel_rfl
theorem zfq:fldB Tryz.prog 145 2 2=true:=by kernel_rfl
theorem zyJ:zbm Tryz.prog 145 [(0,1),(1,1),(2,1)]=true:=by kernel_rfl
theorem zyy:zbI Tryz.prog 145=some (.agg #[.slice none 0 0,.int .i64 0,.bool false]):=by kernel_rfl
theorem zkN:fldB Tryz.prog 34 2 2=true:=by kernel_rfl
theorem zm8:zai Tryz.prog 19=true:=by kernel_rfl
theorem zAE:zai Tryz.prog 84=true:=by kernel_rfl
theorem zcC:zmO Tryz.prog 152 3 3=true:=by kernel_rfl
theorem zb1:zbI Tryz.prog 50=some (.agg #[.slice none 0 0,.int .i64 0,.bool false,.slice none 0 0]):=by kernel_rfl
theorem ztK:zai Tryz.prog 151=true:=by kernel_rfl
theorem zeV:zbm Tryz.prog 50 [(0,1),(1,1),(2,1),(3,1)]=true:=by kernel_rfl
theorem zat:aggB Tryz.prog 50 4=true:=by kernel_rfl
theorem zop:zai Tryz.prog 152=true:=by kernel_rfl
theorem za9:fldB Tryz.prog 50 0 0=true:=by kernel_rfl
theorem zzj:zai Tryz.prog 153=true:=by kernel_rfl
theorem zcj:fldB Tryz.prog 50 1 1=true:=by kernel_rfl
theorem zzi:zai Tryz.prog 154=true:=by kernel_rfl
theorem zdo:fldB Tryz.prog 50 3 3=true:=by kernel_rfl
theorem zii:fldB Tryz.prog 198 4 16=true:=by kernel_rfl
theorem ztJ:zai Tryz.prog 155=true:=by kernel_rfl
theorem zzh:zai Tryz.prog 156=true:=by kernel_rfl
theorem zzg:zai Tryz.prog 157=true:=by kernel_rfl
theorem zzf:zai Tryz.prog 158=true:=by kernel_rfl
theorem zze:zai Tryz.prog 159=true:=by kernel_rfl
theorem zzl:zai Tryz.prog 149=true:=by kernel_rfl
theorem zjT:zai Tryz.prog 133=true:=by kernel_rfl
theorem zyC:zbm Tryz.prog 198 [(0,1),(1,3),(4,2),(6,10),(16,1),(17,1),(18,1)]=true:=by kernel_rfl
theorem zyu:zbI Tryz.prog 198=some (.agg #[.pointer none,.int .i64 0,.int .i64 0,.int .i64 0,.int .i64 0,.int .i64 0,.int .i64 0,.int .i64 0,.int .i64 0,.nilIface,.int .i64 0,.int .i64 0,.int .i64 0,.int .i64 0,.int .i64 0,.nilIface,.slice none 0 0,.int .i64 0,.int .i64 0]):=by kernel_rfl
theorem ztO:zai Tryz.prog 118=true:=by kernel_rfl
theorem zzn:zai Tryz.prog 120=true:=by kernel_rfl
theorem zh3:zai Tryz.prog 119=true:=by kernel_rfl
theorem zc9:zm3 Tryz.prog 196 0 0 194=true:=by kernel_rfl
theorem zda:zm3 Tryz.prog 194 0 0 192=true:=by kernel_rfl
theorem zdb:zm3 Tryz.prog 192 1 6 190=true:=by kernel_rfl
theorem zjS:zai Tryz.prog 135=true:=by kernel_rfl
theorem zm6:zbI Tryz.prog 63=some (.agg #[.int .i64 0,.int .i64 0,.int .i64 0,.int .i64 0]):=by kernel_rfl
theorem zAx:zbm Tryz.prog 63 [(0,1),(1,1),(2,1),(3,1)]=true:=by kernel_rfl
theorem zgj:aggB Tryz.prog 63 4=true:=by kernel_rfl
theorem zhX:fldB Tryz.prog 63 0 0=true:=by kernel_rfl
theorem zeW:fldB Tryz.prog 63 2 2=true:=by kernel_rfl
theorem zhW:fldB Tryz.prog 63 3 3=true:=by kernel_rfl
theorem zw1:zai Tryz.prog 33=true:=by kernel_rfl
theorem zeX:fldB Tryz.prog 63 1 1=true:=by kernel_rfl
theorem zci:fldB Tryz.prog 57 1 3=true:=by kernel_rfl
theorem zaF:fldB Tryz.prog 57 0 0=true:=by kernel_rfl
theorem zw0:zai Tryz.prog 34=true:=by kernel_rfl
theorem zzs:zai Tryz.prog 102=true:=by kernel_rfl
theorem zpK:zai Tryz.prog 42=true:=by kernel_rfl
theorem zij:zai Tryz.prog 45=true:=by kernel_rfl
theorem ze1:fldB Tryz.prog 44 0 0=true:=by kernel_rfl
theorem zkM:fldB Tryz.prog 44 1 3=true:=by kernel_rfl
theorem zAF:zai Tryz.prog 76=true:=by kernel_rfl
theorem zAB:ptrB Tryz.prog 25=true:=by kernel_rfl
theorem zAy:zbm Tryz.prog 57 [(0,3),(3,1),(4,1),(5,1)]=true:=by kernel_rfl
theorem zAp:zbI Tryz.prog 57=some (.agg #[.int .i64 0,.int .i64 0,.int .i64 0,.pointer none,.int .i64 0,.slice none 0 0]):=by kernel_rfl
theorem zAA:zbm Tryz.prog 41 [(0,1),(1,1),(2,1)]=true:=by kernel_rfl
theorem zAs:zbI Tryz.prog 41=some (.agg #[.int .i64 0,.int .i64 0,.int .i64 0]):=by kernel_rfl
theorem zAz:zbm Tryz.prog 44 [(0,3),(3,1),(4,1)]=true:=by kernel_rfl
theorem zAr:zbI Tryz.prog 44=some (.agg #[.int .i64 0,.int .i64 0,.int .i64 0,.slice none 0 0,.slice none 0 0]):=by kernel_rfl
theorem zw2:zai Tryz.prog 25=true:=by kernel_rfl
theorem zwV:ptrB Tryz.prog 46=true:=by kernel_rfl
theorem zta:zai Tryz.prog 80=true:=by kernel_rfl
theorem zs9:zai Tryz.prog 81=true:=by kernel_rfl
theorem ze0:fldB Tryz.prog 50 2 2=true:=by kernel_rfl
theorem ztD:zai Tryz.prog 18=true:=by kernel_rfl
theorem zs8:ptrB Tryz.prog 31=true:=by kernel_rfl
theorem ztw:zai Tryz.prog 20=true:=by kernel_rfl
theorem ztn:zai Tryz.prog 22=true:=by kernel_rfl
theorem ztp:zai Tryz.prog 21=true:=by kernel_rfl
theorem zw4:zai Tryz.prog 15=true:=by kernel_rfl
theorem zeZ:fldB Tryz.prog 57 2 4=true:=by kernel_rfl
theorem zaY:fldB Tryz.prog 91 1 1=true:=by kernel_rfl
theorem zaX:fldB Tryz.prog 91 2 2=true:=by kernel_rfl
theorem zhT:appB Tryz.prog 81 4 1=true:=by kernel_rfl
theorem zys:zbI Tryz.prog 4=some (.bool false):=by kernel_rfl
theorem zcG:fldB Tryz.prog 57 3 5=true:=by kernel_rfl
theorem zho:zcK Tryz.prog 55=true:=by kernel_rfl
theorem zbE:zcI Tryz.prog 55 80 5=true:=by kernel_rfl
theorem zgi:aggB Tryz.prog 80 5=true:=by kernel_rfl
theorem zm5:zbI Tryz.prog 80=some (.agg #[.int .i64 0,.int .i64 0,.int .i64 0,.int .i64 0,.bool false]):=by kernel_rfl
theorem zgh:fldB Tryz.prog 80 0 0=true:=by kernel_rfl
theorem zcF:zcI Tryz.prog 81 4 1=true:=by kernel_rfl
theorem zhV:fldB Tryz.prog 80 1 1=true:=by kernel_rfl
theorem zhU:fldB Tryz.prog 80 2 2=true:=by kernel_rfl
theorem zd7:fldB Tryz.prog 91 0 0=true:=by kernel_rfl
theorem zAv:zbm Tryz.prog 80 [(0,1),(1,1),(2,1),(3,1),(4,1)]=true:=by kernel_rfl
theorem zgO:appB Tryz.prog 55 80 5=true:=by kernel_rfl
theorem zzr:zai Tryz.prog 105=true:=by kernel_rfl
theorem zkL:fldB Tryz.prog 44 2 4=true:=by kernel_rfl
theorem zwT:zcK Tryz.prog 42=true:=by kernel_rfl
theorem zgN:zcI Tryz.prog 42 91 3=true:=by kernel_rfl
theorem zl1:aggB Tryz.prog 91 3=true:=by kernel_rfl
theorem zAm:zbI Tryz.prog 91=some (.agg #[.int .i64 0,.int .i64 0,.int .i64 0]):=by kernel_rfl
theorem zAH:zai Tryz.prog 54=true:=by kernel_rfl
theorem zAG:zai Tryz.prog 60=true:=by kernel_rfl
theorem zig:zcK Tryz.prog 46=true:=by kernel_rfl
theorem zAN:zai Tryz.prog 29=true:=by kernel_rfl
theorem zwR:zbI Tryz.prog 70=some (.agg #[.int .i64 0,.int .i64 0,.int .i64 0]):=by kernel_rfl
theorem zAw:zbm Tryz.prog 70 [(0,1),(1,1),(2,1)]=true:=by kernel_rfl
theorem zpM:aggB Tryz.prog 70 3=true:=by kernel_rfl
theorem zAI:zai Tryz.prog 52=true:=by kernel_rfl
theorem zAD:zai Tryz.prog 86=true:=by kernel_rfl
theorem ziQ:aggB Tryz.prog 44 5=true:=by kernel_rfl
theorem zw3:zai Tryz.prog 24=true:=by kernel_rfl
theorem zAq:zbI Tryz.prog 46=some (.pointer none):=by kernel_rfl
theorem zm7:zbI Tryz.prog 48=some (.slice none 0 0):=by kernel_rfl
theorem zAM:zai Tryz.prog 37=true:=by kernel_rfl
theorem zdn:zcI Tryz.prog 84 48 1=true:=by kernel_rfl
theorem zfm:appB Tryz.prog 84 48 1=true:=by kernel_rfl
theorem zAL:zai Tryz.prog 48=true:=by kernel_rfl
theorem zwZ:zai Tryz.prog 47=true:=by kernel_rfl
theorem zs5:zcK Tryz.prog 86=true:=by kernel_rfl
theorem zwS:zcK Tryz.prog 84=true:=by kernel_rfl
theorem zAK:zai Tryz.prog 49=true:=by kernel_rfl
theorem zAJ:zai Tryz.prog 50=true:=by kernel_rfl
theorem zAo:zbI Tryz.prog 84=some (.slice none 0 0):=by kernel_rfl
theorem zAn:zbI Tryz.prog 86=some (.nilFunc):=by kernel_rfl
theorem zbA {n m:Int}:FnD Tryz.prog 89 [.int .i64 n,.int .i64 m] [] (.bool (decide (0<=n/\n<m))) []:=by
 refine Fn.enter (Tryz.func89) Z Z (fun w0 R=>?_)
 refine sA (xaf Z (dA (xmi Z (TL.geq Z Z Z Z (fun q1=>?_) (fun q1=>?_)))))
 refine xmt Z (xmi Z (xmi Z (TL.lssV Z Z Z Z (TL.pickT (.bool _) Z Z Z Z (xab Z (dR ?_))))))
 refine FQ.ret1 (v:=(.bool _)) (Bs:=[]) [] Z Z Z Zt ?_
 first | exact ⟨bT (by omega),Z⟩ | exact ⟨bF (by omega),Z⟩ | exact ⟨congrArg Value.bool (decide_eq_decide.2 (by omega)),Z⟩
 refine xmf Z (xo Z (xo Z (xo Z (xpF Z (xaf Z (dR ?_))))))
 refine FQ.ret1 (v:=(.bool false)) (Bs:=[]) [] Z Z Z Zt ?_
 first | exact ⟨bT (by omega),Z⟩ | exact ⟨bF (by omega),Z⟩ | exact ⟨congrArg Value.bool (decide_eq_decide.2 (by omega)),Z⟩
theorem zvE {x:Int} (h0:0<=x) (h1:x<=16):FnD Tryz.prog 165 [.int .u64 x] [] (.int .i64 (levI x)) []:=by
 have hl:=zyd h0 h1
 refine Fn.enter (Tryz.func165) Z Z (fun w0 R=>?_)
 refine sA (xai Z (dB (xmi Z (TL.geqF Z Z (by omega) Z Z (TL.done (TQ.then (TC.condF Z (TC.skip ?_))))))))
 refine TQ.then (sB (xmi Z (TL.geqF Z Z (by omega) Z Z (TL.done (TQ.then (TC.condF Z (TC.skip (TQ.then ?_))))))))
 refine sB (xmi Z (TL.geqF Z Z (by omega) Z Z (dF Z (xmi Z (xmi Z (TL.conv _ Z zdT zvQ (wru8 (by omega)) Z Z (TL.ixS (levI x) Z Z zAu (by omega) (zAh h0 h1 (by kernel_rfl)) Z Z (TL.conv _ Z fc_u5 zaQ (wr64 (by omega)) Z Z ?_))))))))
 refine TL.add _ Z Z (wr64 (by omega)) Z Z (xai Z (dR ?_))
 refine FQ.ret1 (v:=(.int _ _)) (Bs:=[]) [] Z Z Z Zt ?_
 exact ⟨iE (by omega),Z⟩
theorem zAf {x:Int} (h0:0<=x) (h1:x<=16):FnD Tryz.prog 121 [.int .u64 x] [] (.int .i64 (levI x)) []:=by
 refine Fn.enter (Tryz.func121) Z Z (fun w0 R=>?_)
 refine sA (xai Z (dS (TC.condF Z (TC.skip (TQ.then (sA (xmi Z (xD [] (zvE (by omega) (by omega)) zzb Z ?_))))))))
 refine xai Z (dR ?_)
 refine FQ.ret1 (v:=(.int _ _)) (Bs:=[]) [] Z Z Z Zt ?_
 exact ⟨Z,Z⟩
theorem zcN {l:Lay} (hl:l.Ok)  : FnD Tryz.prog 87 [layV l] [] (.int .i64 l.lev) []:=by
 have hb:=zdP hl
 refine Fn.enter (Tryz.func87) Z Z (fun w0 R=>?_)
 refine sA (xB 0 Z (fun bk0=>(xai Z (dA (xf 0 zaJ Z (xli 0 zad Z Z (TL.conv _ Z zgr zjD (zuJ (by omega)) Z Z (xD [] (zAf (by omega) (by omega)) zzm Z (xai Z ?_)))))))))
 refine dR ?_
 refine FQ.ret1 (v:=(.int _ _)) (Bs:=[]) [] Z Z Z Zt ?_
 exact ⟨Z,Z⟩
theorem zl7 {l:Lay} (hl:l.Ok)  : FnD Tryz.prog 88 [layV l] [] (.int .i64 l.arcs) []:=by
 have hb:=zbL hl
 refine Fn.enter (Tryz.func88) Z Z (fun w0 R=>?_)
 refine sA (xB 0 Z (fun bk0=>(xai Z (dA (xL3 0 zab Z Z (xD [] (zcN hl) zgy Z (TL.mul _ Z Z (wr64 (by omega)) Z Z (xai Z (dR ?_)))))))))
 refine FQ.ret1 (v:=(.int _ _)) (Bs:=[]) [] Z Z Z Zt ?_
 exact ⟨Z,Z⟩
theorem zdz {l:Lay} (hl:l.Ok)  : FnD Tryz.prog 31 [layV l] [] (.int .i64 l.nodes) []:=by
 have hb:=zbL hl
 refine Fn.enter (Tryz.func31) Z Z (fun w0 R=>?_)
 refine sA (xB 0 Z (fun bk0=>(xai Z (dS (TC.draw (od [1,5,7,11,13,15,2,9,16,19,21,23]) [0] fc_m (by kernel_rfl) (xL3 0 zab Z Z (xf 0 zaJ Z (xli 0 zad Z Z (xf 1 zbC Z ?_)))))))))
 refine xli 0 zad Z Z (xL3 0 zab Z Z (xd [] (zcN hl) zgy Z (kL1 Z Zt) (TL.mul _ Z Z (wr64 (by omega)) Z Z (xd [] (zl7 hl) zpI Z (kL1 Z Zt) (TL.mul _ Z Z (wr64 (by omega)) Z Z (TL.add _ Z Z (wr64 (by omega)) Z Z (xai Z (dR ?_))))))))
 refine FQ.ret1 (v:=(.int _ _)) (Bs:=[]) [] Z Z Z Zt ?_
 exact ⟨Z,Z⟩
theorem zc0 {l:Lay} (hl:l.Ok) {i v:Int}:FnD Tryz.prog 103 [layV l,.int .i64 i,.int .i64 v] [] (.int .i64 (l.vertex i v)) []:=by
 have hb:=zbL hl
 refine Fn.enter (Tryz.func103) Z Z (fun w0 R=>?_)
 refine sA (xB 0 Z (fun bk0=>(xai Z (dB (xmi Z (xL3 0 zab Z Z (xD [] (zcN hl) zgy Z (xD [] zbA zdc Z (TL.casesP Z (fun q1=>?_) (fun q1=>?_))))))))))
 refine xnt Z (xmf Z (xmi Z (xf 0 zaJ Z (xli 0 zad Z Z (xD [] zbA zdc Z (TL.casesP Z (fun q2=>?_) (fun q2=>?_)))))))
 refine xnt Z (xpF Z (dF Z (xmi Z (xf 0 zaJ Z (xli 0 zad Z Z (TL.mul _ Z Z (wr64 (by have:=zeh (a:=i) (A:=5) (b:=(l.V:Int)) (B:=16) (by omega) (by omega) (by omega) (by omega); omega)) Z Z (TL.add _ Z Z (wr64 (by have:=zeh (a:=i) (A:=5) (b:=(l.V:Int)) (B:=16) (by omega) (by omega) (by omega) (by omega); omega)) Z Z (xmi Z ?_))))))))
 refine TL.add _ Z Z (wr64 (by have:=zeh (a:=i) (A:=5) (b:=(l.V:Int)) (B:=16) (by omega) (by omega) (by omega) (by omega); omega)) Z Z (xai Z (dR ?_))
 refine FQ.ret1 (v:=(.int _ _)) (Bs:=[]) [] Z Z Z Zt ?_
 first | exact ⟨iE (by unfold Lay.vertex; rw [Zp (by omega)]),Z⟩ | exact ⟨iE (by unfold Lay.vertex; rw [Zn (by omega)]),Z⟩
 refine xnf Z (xpH Z (dT Z (xai Z (dRR ?_))))
 refine FQ.ret1 (v:=(.int _ _)) (Bs:=[]) [] Z Z Z Zt ?_
 first | exact ⟨iE (by unfold Lay.vertex; rw [Zp (by omega)]),Z⟩ | exact ⟨iE (by unfold Lay.vertex; rw [Zn (by omega)]),Z⟩
 refine xnf Z (xmt Z (xo Z (xo Z (xo Z (xo Z (xo Z (xpT Z (dT Z ?_))))))))
 refine xai Z (dRR ?_)
 refine FQ.ret1 (v:=(.int _ _)) (Bs:=[]) [] Z Z Z Zt ?_
 first | exact ⟨iE (by unfold Lay.vertex; rw [Zp (by omega)]),Z⟩ | exact ⟨iE (by unfold Lay.vertex; rw [Zn (by omega)]),Z⟩
theorem zuv {l:Lay} (hl:l.Ok) {s i d:Int}:FnD Tryz.prog 242 [layV l,.int .i64 s,.int .i64 i,.int .i64 d] [] (.int .i64 (l.arc s i d)) []:=by
 have hb:=zbL hl
 refine Fn.enter (Tryz.func242) Z Z (fun w0 R=>?_)
 refine sA (xB 0 Z (fun bk0=>(xai Z (dB (xmi Z (xf 1 zbC Z (xli 0 zad Z Z (xD [] zbA zdc Z (TL.casesP Z (fun q1=>?_) (fun q1=>?_))))))))))
 refine xnt Z (xmf Z (xmi Z (xL3 0 zab Z Z (xD [] (zcN hl) zgy Z (xD [] zbA zdc Z (TL.casesP Z (fun q2=>?_) (fun q2=>?_)))))))
 refine xnt Z (xpF Z (xmf Z (xmi Z (xD [] zbA zdc Z (TL.casesP Z (fun q3=>?_) (fun q3=>?_))))))
 refine xnt Z (xpF Z (TL.done (TQ.then (TC.condF Z (TC.skip (TQ.then (TC.seq (TC.draw (od [1,5,7,13,15,23,25,29,2,9,11,16,19,21,27,31,33]) [0] fc_m (by kernel_rfl) ?_))))))))
 refine xL3 0 zab Z Z (xf 0 zaJ Z (xli 0 zad Z Z (xmi Z (xL3 0 zab Z Z (xmi Z (TL.mul _ Z Z (wr64 (by omega)) Z Z (xmi Z (xd [] (zcN hl) zgy Z (kL1 Z Zt) ?_))))))))
 refine TL.mul _ Z Z (wr64 (by omega)) Z Z (TL.add _ Z Z (wr64 (by omega)) Z Z (xd [] (zl7 hl) zpI Z (kL1 Z Zt) (TL.mul _ Z Z (wr64 (by have:=zeh (a:=s) (A:=48) (b:=l.arcs) (B:=10) (by omega) (by omega) (by omega) (by omega); omega)) Z Z (TL.add _ Z Z (wr64 (by have:=zeh (a:=s) (A:=48) (b:=l.arcs) (B:=10) (by omega) (by omega) (by omega) (by omega); omega)) Z Z (TL.add _ Z Z (wr64 (by have:=zeh (a:=s) (A:=48) (b:=l.arcs) (B:=10) (by omega) (by omega) (by omega) (by omega); omega)) Z Z ?_)))))
 refine TL.add _ Z Z (wr64 (by have:=zeh (a:=s) (A:=48) (b:=l.arcs) (B:=10) (by omega) (by omega) (by omega) (by omega); omega)) Z Z (xai Z (dR ?_))
 refine FQ.ret1 (v:=(.int _ _)) (Bs:=[]) [] Z Z Z Zt ?_
 first | exact ⟨iE (by unfold Lay.arc; rw [Zp (by omega)]),Z⟩ | exact ⟨iE (by unfold Lay.arc; rw [Zn (by omega)]),Z⟩
 refine xnf Z (xpH Z (dT Z (xai Z (dRR ?_))))
 refine FQ.ret1 (v:=(.int _ _)) (Bs:=[]) [] Z Z Z Zt ?_
 first | exact ⟨iE (by unfold Lay.arc; rw [Zp (by omega)]),Z⟩ | exact ⟨iE (by unfold Lay.arc; rw [Zn (by omega)]),Z⟩
 refine xnf Z (xpH Z (xmt Z (xo Z (xo Z (xo Z (xpT Z (dT Z (xai Z ?_))))))))
 refine dRR ?_
 refine FQ.ret1 (v:=(.int _ _)) (Bs:=[]) [] Z Z Z Zt ?_
 first | exact ⟨iE (by unfold Lay.arc; rw [Zp (by omega)]),Z⟩ | exact ⟨iE (by unfold Lay.arc; rw [Zn (by omega)]),Z⟩
 refine xnf Z (xmt Z (xo Z (xo Z (xo Z (xo Z (xo Z (xpT Z (xmt Z ?_))))))))
 refine xo Z (xo Z (xo Z (xpT Z (dT Z (xai Z (dRR ?_))))))
 refine FQ.ret1 (v:=(.int _ _)) (Bs:=[]) [] Z Z Z Zt ?_
 first | exact ⟨iE (by unfold Lay.arc; rw [Zp (by omega)]),Z⟩ | exact ⟨iE (by unfold Lay.arc; rw [Zn (by omega)]),Z⟩
theorem zlN {l:Lay} (hl:l.Ok)  : FnD Tryz.prog 137 [layV l] [] (.int .i64 l.free) []:=by
 have hb:=zbL hl
 refine Fn.enter (Tryz.func137) Z Z (fun w0 R=>?_)
 refine sA (xB 0 Z (fun bk0=>(xai Z (dA (xf 2 ze2 Z (xli 0 zad Z Z (xai Z (dR ?_))))))))
 refine FQ.ret1 (v:=(.int _ _)) (Bs:=[]) [] Z Z Z Zt ?_
 exact ⟨Z,Z⟩
theorem zsg {l:Lay} (hl:l.Ok) {s f:Int} (hf:0<=f/\f<=8):FnD Tryz.prog 177 [layV l,.int .i64 s,.int .i64 f] [] (.int .i64 (l.of s f)) []:=by
 have hb:=zbL hl
 refine Fn.enter (Tryz.func177) Z Z (fun w0 R=>?_)
 refine sA (xB 0 Z (fun bk0=>(xai Z (dB (xmi Z (xf 1 zbC Z (xli 0 zad Z Z (xD [] zbA zdc Z (TL.casesP Z (fun q1=>?_) (fun q1=>?_))))))))))
 refine xnt Z (dF Z (xL3 0 zab Z Z (xD [] (zlN hl) zlZ Z (TL.add _ Z Z (wr64 (by omega)) Z Z (xmi Z (TL.mul _ Z Z (wr64 (by omega)) Z Z (TL.add _ Z Z (wr64 (by omega)) Z Z (xmi Z ?_))))))))
 refine TL.add _ Z Z (wr64 (by omega)) Z Z (xai Z (dR ?_))
 refine FQ.ret1 (v:=(.int _ _)) (Bs:=[]) [] Z Z Z Zt ?_
 first | exact ⟨iE (by unfold Lay.of Lay.free at *; rw [Zp (by omega)]),Z⟩ | exact ⟨iE (by unfold Lay.of Lay.free at *; rw [Zn (by omega)]),Z⟩
 refine xnf Z (dT Z (xai Z (dRR ?_)))
 refine FQ.ret1 (v:=(.int _ _)) (Bs:=[]) [] Z Z Z Zt ?_
 first | exact ⟨iE (by unfold Lay.of Lay.free at *; rw [Zp (by omega)]),Z⟩ | exact ⟨iE (by unfold Lay.of Lay.free at *; rw [Zn (by omega)]),Z⟩
theorem ztX {l:Lay} (hl:l.Ok) {s:Int}:FnD Tryz.prog 203 [layV l,.int .i64 s] [] (.int .i64 (l.ends s)) []:=by
 have hb:=zbL hl
 refine Fn.enter (Tryz.func203) Z Z (fun w0 R=>?_)
 refine sA (xB 0 Z (fun bk0=>(xai Z (dA (xL3 0 zab Z Z (xmi Z (xD [] (zsg hl (by omega)) zjP Z (xai Z (dR ?_)))))))))
 refine FQ.ret1 (v:=(.int _ _)) (Bs:=[]) [] Z Z Z Zt ?_
 exact ⟨Z,Z⟩
theorem zlC {l:Lay} (hl:l.Ok) {s:Int}:FnD Tryz.prog 172 [layV l,.int .i64 s] [] (.int .i64 (l.level s)) []:=by
 have hb:=zbL hl
 refine Fn.enter (Tryz.func172) Z Z (fun w0 R=>?_)
 refine sA (xB 0 Z (fun bk0=>(xai Z (dA (xL3 0 zab Z Z (xmi Z (xD [] (zsg hl (by omega)) zjP Z (xai Z (dR ?_)))))))))
 refine FQ.ret1 (v:=(.int _ _)) (Bs:=[]) [] Z Z Z Zt ?_
 exact ⟨Z,Z⟩
theorem zx6 {l:Lay} (hl:l.Ok) {s d:Int}:FnD Tryz.prog 255 [layV l,.int .i64 s,.int .i64 d] [] (.int .i64 (l.next s d)) []:=by
 have hb:=zbL hl
 refine Fn.enter (Tryz.func255) Z Z (fun w0 R=>?_)
 refine sA (xB 0 Z (fun bk0=>(xai Z (dB (xmi Z (xD [] zbA zdc Z (TL.casesP Z (fun q1=>?_) (fun q1=>?_))))))))
 refine xnt Z (dF Z (xL3 0 zab Z Z (xmi Z (xmi Z (TL.add _ Z Z (wr64 (by omega)) Z Z (xD [] (zsg hl (by omega)) zjP Z (xai Z (dR ?_))))))))
 refine FQ.ret1 (v:=(.int _ _)) (Bs:=[]) [] Z Z Z Zt ?_
 first | exact ⟨iE (by unfold Lay.next; rw [Zp (by omega)]),rfl⟩ | exact ⟨iE (by unfold Lay.next; rw [Zn (by omega)]),rfl⟩
 refine xnf Z (dT Z (xai Z (dRR ?_)))
 refine FQ.ret1 (v:=(.int _ _)) (Bs:=[]) [] Z Z Z Zt ?_
 first | exact ⟨iE (by unfold Lay.next; rw [Zp (by omega)]),rfl⟩ | exact ⟨iE (by unfold Lay.next; rw [Zn (by omega)]),rfl⟩
theorem zxP {l:Lay} (hl:l.Ok) {s d:Int}:FnD Tryz.prog 256 [layV l,.int .i64 s,.int .i64 d] [] (.int .i64 (l.prev s d)) []:=by
 have hb:=zbL hl
 refine Fn.enter (Tryz.func256) Z Z (fun w0 R=>?_)
 refine sA (xB 0 Z (fun bk0=>(xai Z (dB (xmi Z (xD [] zbA zdc Z (TL.casesP Z (fun q1=>?_) (fun q1=>?_))))))))
 refine xnt Z (dF Z (xL3 0 zab Z Z (xmi Z (xmi Z (TL.add _ Z Z (wr64 (by omega)) Z Z (xD [] (zsg hl (by omega)) zjP Z (xai Z (dR ?_))))))))
 refine FQ.ret1 (v:=(.int _ _)) (Bs:=[]) [] Z Z Z Zt ?_
 first | exact ⟨iE (by unfold Lay.prev; rw [Zp (by omega)]),Z⟩ | exact ⟨iE (by unfold Lay.prev; rw [Zn (by omega)]),Z⟩
 refine xnf Z (dT Z (xai Z (dRR ?_)))
 refine FQ.ret1 (v:=(.int _ _)) (Bs:=[]) [] Z Z Z Zt ?_
 first | exact ⟨iE (by unfold Lay.prev; rw [Zp (by omega)]),Z⟩ | exact ⟨iE (by unfold Lay.prev; rw [Zn (by omega)]),Z⟩
theorem zpE {l:Lay} (hl:l.Ok)  : FnD Tryz.prog 166 [layV l] [] (.int .i64 l.heads) []:=by
 have hb:=zbL hl
 refine Fn.enter (Tryz.func166) Z Z (fun w0 R=>?_)
 refine sA (xB 0 Z (fun bk0=>(xai Z (dS (TC.draw (od [1,7,9,11,2,5,13,15]) [0] fc_m (by kernel_rfl) (xL3 0 zab Z Z (xf 1 zbC Z (xli 0 zad Z Z (TL.mul _ Z Z (wr64 (by omega)) Z Z ?_)))))))))
 refine xd [] (zlN hl) zlZ Z (kL1 Z Zt) (TL.add _ Z Z (wr64 (by omega)) Z Z (TL.add _ Z Z (wr64 (by omega)) Z Z (xai Z (dR ?_))))
 refine FQ.ret1 (v:=(.int _ _)) (Bs:=[]) [] Z Z Z Zt ?_
 exact ⟨Z,Z⟩
theorem zlJ {l:Lay} (hl:l.Ok) {v i:Int}:FnD Tryz.prog 232 [layV l,.int .i64 v,.int .i64 i] [] (.int .i64 (l.head v i)) []:=by
 have hb:=zbL hl
 refine Fn.enter (Tryz.func232) Z Z (fun w0 R=>?_)
 refine sA (xB 0 Z (fun bk0=>(xai Z (dB (xmi Z (xf 0 zaJ Z (xli 0 zad Z Z (xD [] zbA zdc Z (TL.casesP Z (fun q1=>?_) (fun q1=>?_))))))))))
 refine xnt Z (xmf Z (xmi Z (xL3 0 zab Z Z (xD [] (zcN hl) zgy Z (xD [] zbA zdc Z (TL.casesP Z (fun q2=>?_) (fun q2=>?_)))))))
 refine xnt Z (xpF Z (TL.done (TQ.then (TC.condF Z (TC.skip (TQ.then (TC.seq (TC.draw (od [1,5,7,15,2,8,11,13,17,19]) [0] fc_m (by kernel_rfl) ?_))))))))
 refine xL3 0 zab Z Z (xmi Z (xL3 0 zab Z Z (xmi Z (xd [] (zpE hl) ztG Z (kL1 Z Zt) (xd [] (zcN hl) zgy Z (kL1 Z Zt) (TL.mul _ Z Z (wr64 (by have:=zeh (a:=v) (A:=16) (b:=l.lev) (B:=5) (by omega) (by omega) (by omega) (by omega); omega)) Z Z (TL.add _ Z Z (wr64 (by have:=zeh (a:=v) (A:=16) (b:=l.lev) (B:=5) (by omega) (by omega) (by omega) (by omega); omega)) Z Z (TL.add _ Z Z (wr64 (by have:=zeh (a:=v) (A:=16) (b:=l.lev) (B:=5) (by omega) (by omega) (by omega) (by omega); omega)) Z Z ?_))))))))
 refine xai Z (dR ?_)
 refine FQ.ret1 (v:=(.int _ _)) (Bs:=[]) [] Z Z Z Zt ?_
 first | exact ⟨iE (by unfold Lay.head; rw [Zp (by omega)]),Z⟩ | exact ⟨iE (by unfold Lay.head; rw [Zn (by omega)]),Z⟩
 refine xnf Z (xpH Z (dT Z (xai Z (dRR ?_))))
 refine FQ.ret1 (v:=(.int _ _)) (Bs:=[]) [] Z Z Z Zt ?_
 first | exact ⟨iE (by unfold Lay.head; rw [Zp (by omega)]),Z⟩ | exact ⟨iE (by unfold Lay.head; rw [Zn (by omega)]),Z⟩
 refine xnf Z (xmt Z (xo Z (xo Z (xo Z (xo Z (xo Z (xpT Z (dT Z ?_))))))))
 refine xai Z (dRR ?_)
 refine FQ.ret1 (v:=(.int _ _)) (Bs:=[]) [] Z Z Z Zt ?_
 first | exact ⟨iE (by unfold Lay.head; rw [Zp (by omega)]),Z⟩ | exact ⟨iE (by unfold Lay.head; rw [Zn (by omega)]),Z⟩
theorem zpQ {l:Lay} (hl:l.Ok)  : FnD Tryz.prog 122 [layV l] [] (.int .i64 l.edges) []:=by
 have hb:=zbL hl
 refine Fn.enter (Tryz.func122) Z Z (fun w0 R=>?_)
 refine sA (xB 0 Z (fun bk0=>(xai Z (dS (TC.draw (od [1,5,7,9,2,10,13,15,17]) [0] fc_m (by kernel_rfl) (xL3 0 zab Z Z (xf 0 zaJ Z (xli 0 zad Z Z (xL3 0 zab Z Z ?_)))))))))
 refine xd [] (zpE hl) ztG Z (kL1 Z Zt) (xd [] (zcN hl) zgy Z (kL1 Z Zt) (TL.mul _ Z Z (wr64 (by omega)) Z Z (TL.add _ Z Z (wr64 (by omega)) Z Z (xai Z (dR ?_)))))
 refine FQ.ret1 (v:=(.int _ _)) (Bs:=[]) [] Z Z Z Zt ?_
 exact ⟨Z,Z⟩
theorem zjW {l:Lay} (hl:l.Ok) {a b:Int}:FnD Tryz.prog 140 [layV l,.int .i64 a,.int .i64 b] [] (.int .i64 (l.edge a b)) []:=by
 have hb:=zbL hl
 refine Fn.enter (Tryz.func140) Z Z (fun w0 R=>?_)
 refine sA (xB 0 Z (fun bk0=>(xai Z (dA (xmi Z (xmi Z (TL.min2 Z Z Z Z (xmi Z (xmi Z ?_)))))))))
 refine TL.max2 Z Z Z Z (xai Z (xai Z (dB (xmi Z (xmi Z (TL.eql Z Z Z Z (fun q1=>?_) (fun q1=>?_)))))))
 refine xmt Z (xo Z (xo Z (xo Z (xo Z (xo Z (xpT Z (xmt Z (xo Z ?_))))))))
 refine xo Z (xo Z (xo Z (xo Z (xpT Z (dT Z (xai Z (dRR ?_)))))))
 refine FQ.ret1 (v:=(.int _ _)) (Bs:=[]) [] Z Z Z Zt ?_
 first | exact ⟨iE (by unfold Lay.edge; rw [Zn (by omega)]),Z⟩ | exact ⟨iE (by unfold Lay.edge; rw [Zp (by omega)]),Z⟩
 refine xmf Z (xmi Z (xf 0 zaJ Z (xli 0 zad Z Z (xD [] zbA zdc Z (TL.casesP Z (fun q2=>?_) (fun q2=>?_))))))
 refine xnt Z (xpF Z (xmf Z (xmi Z (xf 0 zaJ Z (xli 0 zad Z Z (xD [] zbA zdc Z (TL.casesP Z (fun q3=>?_) (fun q3=>?_))))))))
 refine xnt Z (xpF Z (TL.done (TQ.then (TC.condF Z (TC.skip (TQ.then (TC.seq (TC.draw (od [1,5,7,9,11,13,15,17,19,21,25,29,2,23,27,31,33,35]) [0] fc_m (by kernel_rfl) ?_))))))))
 refine xL3 0 zab Z Z (xmi Z (xf 0 zaJ Z (xli 0 zad Z Z (TL.mul _ Z Z (wr64 (by omega)) Z Z (xmi Z (TL.sub _ Z Z (wr64 (by omega)) Z Z (TL.sub _ Z Z (wr64 (by omega)) Z Z (TL.mul _ Z Z (wr64 (by have h9:=zgP (x:=min a b) (V:=(l.V:Int)) (by omega) (by omega) (by omega); omega)) Z Z ?_))))))))
 refine TL.quo _ Z Z (by omega) (zrM (by have h9:=zgP (x:=min a b) (V:=(l.V:Int)) (by omega) (by omega) (by omega); omega) (by omega) (by have h9:=zgP (x:=min a b) (V:=(l.V:Int)) (by omega) (by omega) (by omega); omega)) Z Z (xmi Z (xmi Z (xd [] (zpQ hl) ztN Z (kL1 Z Zt) (TL.add _ Z Z (wr64 (by have h9:=zgP (x:=min a b) (V:=(l.V:Int)) (by omega) (by omega) (by omega); omega)) Z Z (TL.add _ Z Z (wr64 (by have h9:=zgP (x:=min a b) (V:=(l.V:Int)) (by omega) (by omega) (by omega); omega)) Z Z ?_)))))
 refine TL.sub _ Z Z (wr64 (by have h9:=zgP (x:=min a b) (V:=(l.V:Int)) (by omega) (by omega) (by omega); omega)) Z Z (TL.sub _ Z Z (wr64 (by have h9:=zgP (x:=min a b) (V:=(l.V:Int)) (by omega) (by omega) (by omega); omega)) Z Z (xai Z (dR ?_)))
 refine FQ.ret1 (v:=(.int _ _)) (Bs:=[]) [] Z Z Z Zt ?_
 first | exact ⟨iE (by unfold Lay.edge; rw [Zn (by omega)]),Z⟩ | exact ⟨iE (by unfold Lay.edge; rw [Zp (by omega)]),Z⟩
 refine xnf Z (xpH Z (dT Z (xai Z (dRR ?_))))
 refine FQ.ret1 (v:=(.int _ _)) (Bs:=[]) [] Z Z Z Zt ?_
 first | exact ⟨iE (by unfold Lay.edge; rw [Zn (by omega)]),Z⟩ | exact ⟨iE (by unfold Lay.edge; rw [Zp (by omega)]),Z⟩
 refine xnf Z (xpH Z (xmt Z (xo Z (xo Z (xo Z (xo Z (xo Z (xpT Z ?_))))))))
 refine dT Z (xai Z (dRR ?_))
 refine FQ.ret1 (v:=(.int _ _)) (Bs:=[]) [] Z Z Z Zt ?_
 first | exact ⟨iE (by unfold Lay.edge; rw [Zn (by omega)]),Z⟩ | exact ⟨iE (by unfold Lay.edge; rw [Zp (by omega)]),Z⟩
theorem zus {l:Lay} (hl:l.Ok)  : FnD Tryz.prog 90 [layV l] [] (.int .i64 l.base) []:=by
 have hb:=zbL hl
 refine Fn.enter (Tryz.func90) Z Z (fun w0 R=>?_)
 refine sA (xB 0 Z (fun bk0=>(xai Z (dS (TC.draw (od [1,5,7,9,11,13,15,17,2,19,21]) [0] fc_m (by kernel_rfl) (xL3 0 zab Z Z (xf 0 zaJ Z (xli 0 zad Z Z (xf 0 zaJ Z ?_)))))))))
 refine xli 0 zad Z Z (TL.sub _ Z Z (wr64 (by omega)) Z Z (TL.mul _ Z Z (wr64 (by omega)) Z Z (TL.quo _ Z Z (by omega) (zrM (by omega) (by omega) (by omega)) Z Z (xd [] (zpQ hl) ztN Z (kL1 Z Zt) (TL.add _ Z Z (wr64 (by omega)) Z Z (xai Z (dR ?_)))))))
 refine FQ.ret1 (v:=(.int _ _)) (Bs:=[]) [] Z Z Z Zt ?_
 exact ⟨Z,Z⟩
theorem zbc {l:Lay} (hl:l.Ok) {x f:Int}:FnD Tryz.prog 35 [layV l,.int .i64 x,.int .i64 f] [] (.int .i64 (l.field x f)) []:=by
 have hb:=zbL hl
 refine Fn.enter (Tryz.func35) Z Z (fun w0 R=>?_)
 refine sA (xB 0 Z (fun bk0=>(xai Z (dB (xmi Z (TL.sub _ Z Z (Z) Z Z (xL3 0 zab Z Z (xD [] (zdz hl) zgz Z (xD [] zbA zdc Z ?_)))))))))
 refine TL.casesP Z (fun q1=>?_) (fun q1=>?_)
 refine xnt Z (xmf Z (xmi Z (xD [] zbA zdc Z (TL.casesP Z (fun q2=>?_) (fun q2=>?_)))))
 refine xnt Z (xpF Z (dF Z (xL3 0 zab Z Z (xD [] (zus hl) zwW Z (xmi Z (TL.sub _ Z Z (Z) Z Z (TL.mul _ Z Z (wr64 (by omega)) Z Z (TL.add _ Z Z (wr64 (by omega)) Z Z ?_))))))))
 refine xmi Z (TL.add _ Z Z (wr64 (by omega)) Z Z (xai Z (dR ?_)))
 refine FQ.ret1 (v:=(.int _ _)) (Bs:=[]) [] Z Z Z Zt ?_
 first | exact ⟨iE (by unfold Lay.field; rw [Zp (by omega)]),Z⟩ | exact ⟨iE (by unfold Lay.field; rw [Zn (by omega)]),Z⟩
 refine xnf Z (xpH Z (dT Z (xai Z (dRR ?_))))
 refine FQ.ret1 (v:=(.int _ _)) (Bs:=[]) [] Z Z Z Zt ?_
 first | exact ⟨iE (by unfold Lay.field; rw [Zp (by omega)]),Z⟩ | exact ⟨iE (by unfold Lay.field; rw [Zn (by omega)]),Z⟩
 refine xnf Z (xmt Z (xo Z (xo Z (xo Z (xpT Z (dT Z (xai Z (dRR ?_))))))))
 refine FQ.ret1 (v:=(.int _ _)) (Bs:=[]) [] Z Z Z Zt ?_
 first | exact ⟨iE (by unfold Lay.field; rw [Zp (by omega)]),Z⟩ | exact ⟨iE (by unfold Lay.field; rw [Zn (by omega)]),Z⟩
theorem zv4 {l:Lay} (hl:l.Ok)  : FnD Tryz.prog 91 [layV l] [] (.int .i64 l.cells) []:=by
 have hb:=zbL hl
 refine Fn.enter (Tryz.func91) Z Z (fun w0 R=>?_)
 refine sA (xB 0 Z (fun bk0=>(xai Z (dS (TC.draw (od [1,5,2,6,9,11,13]) [0] fc_m (by kernel_rfl) (xL3 0 zab Z Z (xL3 0 zab Z Z (xd [] (zus hl) zwW Z (kL1 Z Zt) (xd [] (zdz hl) zgz Z (kL1 Z Zt) ?_)))))))))
 refine TL.mul _ Z Z (wr64 (by omega)) Z Z (TL.add _ Z Z (wr64 (by omega)) Z Z (xai Z (dR ?_)))
 refine FQ.ret1 (v:=(.int _ _)) (Bs:=[]) [] Z Z Z Zt ?_
 exact ⟨Z,Z⟩
theorem zfO {l:Lay} (hl:l.Ok) {x:Int}:FnD Tryz.prog 32 [layV l,.int .i64 x] [] (.tuple #[zzS (l.node x).1,.bool (l.node x).2]) []:=by
 have hb:=zbL hl
 refine Fn.enter (Tryz.func32) Z Z (fun w0 R=>?_)
 refine sA (xB 0 Z (fun bk0=>(TL.alloc 1 (cs:=#[.bool false,.int .i64 0,.int .i64 0,.int .i64 0,.int .i64 0]) zfB Z Z Z (fun _=>Zt) (fun bk1=>(xaf Z (dB (xmi Z (TL.sub _ Z Z (Z) Z Z (xL3 0 zab Z Z (xD [] (zdz hl) zgz Z ?_))))))))))
 refine xD [] zbA zdc Z (TL.casesP Z (fun q1=>?_) (fun q1=>?_))
 refine xnt Z (dF Z (xmi Z (TL.sub _ Z Z (Z) Z Z (xai Z (dS (TC.draw (od [1,5,7,2,9,11]) [0] fc_m (by kernel_rfl) (xL3 0 zab Z Z (xf 0 zaJ Z ?_))))))))
 refine xli 0 zad Z Z (xd [] (zcN hl) zgy Z (kL1 Z Zt) (TL.mul _ Z Z (wr64 (by omega)) Z Z (xai Z (dB (xmi Z (xmi Z (TL.lss Z Z Z Z (fun q2=>?_) (fun q2=>?_))))))))
 refine TL.done (TQ.then (TC.condT Z (TC.seq (TC.draw (od [1,3,5,7,9,11,13,15,17,18,21]) [0] fc_m (by kernel_rfl) (xmi Z (xf 0 zaJ Z (xli 0 zad Z Z (TL.quo _ Z Z (by omega) (zrM (by omega) (by omega) (by omega)) Z Z ?_))))))))
 refine xmi Z (xf 0 zaJ Z (xli 0 zad Z Z (TL.rem _ Z Z (by omega) (znL (by omega)) Z Z (TL.bld [.bool false,.int .i64 0,.int .i64 0,.int .i64 0,.int .i64 0] [(.int _ _),(.int _ _)] [_,_,_,_,_] zfB zs6 ⟨Z,Z,Zt⟩ ⟨Z,Z⟩ Z Z (TL.stW 1 5 [_,_,_,_,_] Z Z Z Z Z Z zcr Z Z (kL1 Z Zt) (xat Z (dRR ?_)))))))
 refine FQ.retG (rs:=[.cell 4 59,.tmp 5]) [(.agg _),(.bool true)] (Bs:=[]) [] Z ⟨⟨_,_,_,_,_,1,Z,Z,.inr ⟨5,[_,_,_,_,_],zcr,Z,Z⟩⟩,Z,Zt⟩ Z Z Zt ?_
 first | exact ⟨by unfold Lay.node; simp only []; rw [Zn (by omega)]; rfl,Z⟩ | exact ⟨by unfold Lay.node; simp only []; rw [Zp (by omega),Zp (by omega)]; rfl,Z⟩ | exact ⟨by unfold Lay.node; simp only []; rw [Zp (by omega),Zn (by omega)]; rfl,Z⟩
 refine dF Z (xmi Z (xmi Z (TL.sub _ Z Z (wr64 (by omega)) Z Z (xai Z (dS (TC.draw (od [1,3,9,11,19,21,4,7,12,15,17,23,24,27]) [0] fc_m (by kernel_rfl) (xmi Z (xL3 0 zab Z Z ?_))))))))
 refine xmi Z (xL3 0 zab Z Z (xmi Z (TL.rem _ Z Z (by omega) (znL (by omega)) Z Z (xd [] (zl7 hl) zpI Z (kL1 Z Zt) (TL.quo _ Z Z (by omega) (zrM (by omega) (by omega) (by omega)) Z Z (xd [] (zl7 hl) zpI Z (kL1 Z Zt) (TL.rem _ Z Z (by omega) (znL (by omega)) Z Z (TL.quo _ Z Z (by omega) (zrM (Int.emod_nonneg _ (by omega)) (by omega) (by have:=Int.emod_lt_of_pos (IntKind.i64.wrap (x - 1) - l.lev * l.V) (b:=l.arcs) (by omega); omega)) Z Z ?_))))))))
 refine TL.bld [.bool false,.int .i64 0,.int .i64 0,.int .i64 0,.int .i64 0] [(.bool true),(.int _ _),(.int _ _),(.int _ _)] [_,_,_,_,_] zfB zs6 ⟨Z,Z,Z,Z,Zt⟩ ⟨Z,Z⟩ Z Z (TL.stW 1 5 [_,_,_,_,_] Z Z Z Z Z Z zcr Z Z (kL1 Z Zt) (xat Z (dR ?_)))
 refine FQ.retG (rs:=[.cell 4 59,.tmp 5]) [(.agg _),(.bool true)] (Bs:=[]) [] Z ⟨⟨_,_,_,_,_,1,Z,Z,.inr ⟨5,[_,_,_,_,_],zcr,Z,Z⟩⟩,Z,Zt⟩ Z Z Zt ?_
 first | exact ⟨by unfold Lay.node; simp only []; rw [Zn (by omega)]; rfl,Z⟩ | exact ⟨by unfold Lay.node; simp only []; rw [Zp (by omega),Zp (by omega)]; rfl,Z⟩ | exact ⟨by unfold Lay.node; simp only []; rw [Zp (by omega),Zn (by omega)]; rfl,Z⟩
 refine xnf Z (dT Z (TL.bld [.bool false,.int .i64 0,.int .i64 0,.int .i64 0,.int .i64 0] [] [_,_,_,_,_] zfB zs6 Zt ⟨Z,Z⟩ Z Z (TL.stW 1 5 [_,_,_,_,_] Z Z Z Z Z Z zcr Z Z Zt (xaf Z (dRR ?_)))))
 refine FQ.retG (rs:=[.cell 4 59,.tmp 5]) [(.agg _),(.bool false)] (Bs:=[]) [] Z ⟨⟨_,_,_,_,_,1,Z,Z,.inr ⟨5,[_,_,_,_,_],zcr,Z,Z⟩⟩,Z,Zt⟩ Z Z Zt ?_
 first | exact ⟨by unfold Lay.node; simp only []; rw [Zn (by omega)]; rfl,Z⟩ | exact ⟨by unfold Lay.node; simp only []; rw [Zp (by omega),Zp (by omega)]; rfl,Z⟩ | exact ⟨by unfold Lay.node; simp only []; rw [Zp (by omega),Zn (by omega)]; rfl,Z⟩
theorem zeJ {n m:Int}:FnD Tryz.prog 253 [.int .i64 n,.int .i64 m] [] (.bool (decide (0<=n/\n<=m))) []:=by
 refine Fn.enter (Tryz.func253) Z Z (fun w0 R=>?_)
 refine sA (xaf Z (dA (xmi Z (TL.geq Z Z Z Z (fun q1=>?_) (fun q1=>?_)))))
 refine xmt Z (xmi Z (xmi Z (TL.leqV Z Z Z Z (TL.pickT (.bool _) Z Z Z Z (xab Z (dR ?_))))))
 refine FQ.ret1 (v:=(.bool _)) (Bs:=[]) [] Z Z Z Zt ?_
 first | exact ⟨bT (by omega),Z⟩ | exact ⟨bF (by omega),Z⟩ | exact ⟨congrArg Value.bool (decide_eq_decide.2 (by omega)),Z⟩
 refine xmf Z (xo Z (xo Z (xo Z (xpF Z (xaf Z (dR ?_))))))
 refine FQ.ret1 (v:=(.bool false)) (Bs:=[]) [] Z Z Z Zt ?_
 first | exact ⟨bT (by omega),Z⟩ | exact ⟨bF (by omega),Z⟩ | exact ⟨congrArg Value.bool (decide_eq_decide.2 (by omega)),Z⟩
theorem zsa {o m t g:Int}:FnD Tryz.prog 254 [.agg #[.int .i64 o,.int .i64 m,.int .i64 t,.int .i64 g]] [] (.bool (decide (t=0))) []:=by
 refine Fn.enter (Tryz.func254) Z Z (fun w0 R=>?_)
 refine sA (xB 0 Z (fun bk0=>(xaf Z (dA (xf 2 zfp Z (xli 0 zad Z Z (TL.eqlV Z Z Z Z (xab Z (dR ?_)))))))))
 refine FQ.ret1 (v:=(.bool _)) (Bs:=[]) [] Z Z Z Zt ?_
 exact ⟨Z,Z⟩
theorem zmd {o m t g:Int}:FnD Tryz.prog 228 [.agg #[.int .i64 o,.int .i64 m,.int .i64 t,.int .i64 g]] [] (.bool (⟨o,m,t,g⟩:Wd).right) []:=by
 refine Fn.enter (Tryz.func228) Z Z (fun w0 R=>?_)
 refine sA (xB 0 Z (fun bk0=>(xaf Z (dB (xf 0 zcb Z (xli 0 zad Z Z (xD [] zeJ zhZ Z (TL.casesP Z (fun q1=>?_) (fun q1=>?_)))))))))
 refine xnt Z (xmf Z (xf 1 zcz Z (xli 0 zad Z Z (xD [] zeJ zhZ Z (TL.casesP Z (fun q2=>?_) (fun q2=>?_))))))
 refine xnt Z (xpF Z (xmf Z (xf 2 zfp Z (xli 0 zad Z Z (xD [] zeJ zhZ Z (TL.casesP Z (fun q3=>?_) (fun q3=>?_)))))))
 refine xnt Z (xpF Z (xmf Z (xf 3 zfo Z (xli 0 zad Z Z (xD [] zeJ zhZ Z (TL.casesP Z (fun q4=>?_) (fun q4=>?_)))))))
 refine xnt Z (xpF Z (dF Z (xL4 0 zaI Z Z (xD [] zsa zyQ Z (TL.casesP Z (fun q5=>?_) (fun q5=>?_))))))
 refine xnt Z (xmf Z (xf 0 zcb Z (xli 0 zad Z Z (xf 1 zcz Z (xli 0 zad Z Z (TL.eql Z Z Z Z (fun q6=>?_) (fun q6=>?_)))))))
 refine xmt Z (xf 3 zfo Z (xli 0 zad Z Z (TL.eqlV Z Z Z Z (TL.pickT (.bool _) Z Z Z Z (TL.pickF (.bool _) Z Z Z Z (xab Z (dR ?_)))))))
 refine FQ.ret1 (v:=(.bool _)) (Bs:=[]) [] Z Z Z Zt ?_
 exact ⟨congrArg Value.bool (by simp [Wd.right, *]),Z⟩
 refine xmf Z (xo Z (xo Z (xo Z (xpF Z (xpF Z (xaf Z (dR ?_)))))))
 refine FQ.ret1 (v:=(.bool false)) (Bs:=[]) [] Z Z Z Zt ?_
 exact ⟨congrArg Value.bool (by simp [Wd.right, *]),Z⟩
 refine xnf Z (xmt Z (xo Z (xo Z (xo Z (xo Z (xo Z (xo Z (xo Z ?_))))))))
 refine xo Z (xo Z (xo Z (xpT Z (xat Z (dR ?_)))))
 refine FQ.ret1 (v:=(.bool true)) (Bs:=[]) [] Z Z Z Zt ?_
 exact ⟨congrArg Value.bool (by simp [Wd.right, *]),Z⟩
 refine xnf Z (xpH Z (dT Z (xaf Z (dRR ?_))))
 refine FQ.ret1 (v:=(.bool false)) (Bs:=[]) [] Z Z Z Zt ?_
 exact ⟨congrArg Value.bool (by simp [Wd.right, *]),Z⟩
 refine xnf Z (xpH Z (xmt Z (xo Z (xo Z (xo Z (xo Z (xpT Z (dT Z ?_))))))))
 refine xaf Z (dRR ?_)
 refine FQ.ret1 (v:=(.bool false)) (Bs:=[]) [] Z Z Z Zt ?_
 exact ⟨congrArg Value.bool (by simp [Wd.right, *]),Z⟩
 refine xnf Z (xpH Z (xmt Z (xo Z (xo Z (xo Z (xo Z (xpT Z (xmt Z ?_))))))))
 refine xo Z (xo Z (xo Z (xo Z (xpT Z (dT Z (xaf Z (dRR ?_)))))))
 refine FQ.ret1 (v:=(.bool false)) (Bs:=[]) [] Z Z Z Zt ?_
 exact ⟨congrArg Value.bool (by simp [Wd.right, *]),Z⟩
 refine xnf Z (xmt Z (xo Z (xo Z (xo Z (xo Z (xpT Z (xmt Z (xo Z ?_))))))))
 refine xo Z (xo Z (xo Z (xpT Z (xmt Z (xo Z (xo Z (xo Z (xo Z ?_))))))))
 refine xpT Z (dT Z (xaf Z (dRR ?_)))
 refine FQ.ret1 (v:=(.bool false)) (Bs:=[]) [] Z Z Z Zt ?_
 exact ⟨congrArg Value.bool (by simp [Wd.right, *]),Z⟩
theorem zll {o m t g:Int}:FnD Tryz.prog 222 [.agg #[.int .i64 o,.int .i64 m,.int .i64 t,.int .i64 g]] [] (.tuple #[.int .u64 (if (⟨o,m,t,g⟩:Wd).right then (⟨o,m,t,g⟩:Wd).pack else 0),.int .i64 (if (⟨o,m,t,g⟩:Wd).right then 0 else 11)]) []:=by
 refine Fn.enter (Tryz.func222) Z Z (fun w0 R=>?_)
 refine sA (xB 0 rfl (fun bk0=>(xai rfl (xai rfl (dB (xL4 0 zaI rfl rfl (xD [] zmd ztl rfl (TL.cases rfl (fun q1=>?_) (fun q1=>?_)))))))))
 refine xnt Z (dF Z (xf 1 zcz Z (xli 0 zad Z Z (TL.conv _ Z zgr zbu (Z) Z Z (xf 0 zcb Z (xli 0 zad Z Z (TL.conv _ Z zgr zbu (Z) Z Z (TL.shl _ Z Z (by decide) Z Z Z ?_))))))))
 refine TL.or _ Z Z Z Z Z (xf 2 zfp Z (xli 0 zad Z Z (TL.conv _ Z zgr zbu (Z) Z Z (TL.shl _ Z Z (by decide) Z Z Z (TL.or _ Z Z Z Z Z (xf 3 zfo Z (xli 0 zad Z Z (TL.conv _ Z zgr zbu (Z) Z Z ?_))))))))
 refine TL.shl _ Z Z (by decide) Z Z Z (TL.or _ Z Z Z Z Z (xai Z (xai Z (dR ?_))))
 refine FQ.ret2 (v:=(.int _ _)) (x:=(.int _ _)) (Bs:=[]) [] Z Z Z Z Zt ?_
 exact ⟨by simp only [*,if_true,Bool.false_eq_true,if_false]<;>rfl,Z⟩
 refine xnf Z (dT Z (xai Z (xai Z (dRR ?_))))
 refine FQ.ret2 (v:=(.int _ _)) (x:=(.int _ _)) (Bs:=[]) [] Z Z Z Z Zt ?_
 exact ⟨by simp only [*,if_true,Bool.false_eq_true,if_false]<;>rfl,Z⟩
theorem zoy {v a n:Int} (ha:0<=a) (hn:0<=n):FnD Tryz.prog 227 [.int .u64 v,.int .i64 a,.int .i64 n] [] (.int .i64 (zkf v a n)) []:=by
 refine Fn.enter (Tryz.func227) Z Z (fun w0 R=>?_)
 refine sA (xai Z (dS (TC.draw (od [1,3,5,7,9,11,13,15,17]) [] fc_m (by kernel_rfl) (xmi Z (xmi Z (TL.shr _ Z Z (by omega) Z Z Z (xmi Z (TL.shl _ Z Z (by omega) Z Z Z ?_))))))))
 refine TL.sub _ Z Z (Z) Z Z (TL.and _ Z Z Z Z Z (TL.conv _ Z zdT zaQ (Z) Z Z (xai Z (dR ?_))))
 refine FQ.ret1 (v:=(.int _ _)) (Bs:=[]) [] Z Z Z Zt ?_
 exact ⟨iE (by unfold zkf andU shrU shlU; rw [Int.one_mul]),Z⟩
theorem zdB {v:Int}:FnD Tryz.prog 195 [.int .u64 v] [] (.tuple #[wdV (zae v).1,.int .i64 (if (zae v).2 then 0 else 21)]) []:=by
 refine Fn.enter (Tryz.func195) Z Z (fun w0 R=>?_)
 refine sA (TL.alloc 0 (cs:=#[.int .i64 0,.int .i64 0,.int .i64 0,.int .i64 0]) zb9 Z Z Z (fun _=>Zt) (fun bk0=>(xai Z (dA (xmi Z (xD [] (zoy (by decide) (by decide)) zoi Z (xmi Z (xD [] (zoy (by decide) (by decide)) zoi Z (xmi Z ?_)))))))))
 refine xD [] (zoy (by decide) (by decide)) zoi Z (xmi Z (TL.shr _ Z Z (by decide) Z Z Z (TL.conv _ Z zdT zaQ (Z) Z Z (TL.bld [.int .i64 0,.int .i64 0,.int .i64 0,.int .i64 0] [(.int _ _),(.int _ _),(.int _ _),(.int _ _)] [_,_,_,_] zb9 zhS ⟨Z,Z,Z,Z,Zt⟩ ⟨Z,Z⟩ Z Z (TL.alloc 1 (cs:=#[.int .i64 0,.int .i64 0,.int .i64 0,.int .i64 0]) zb9 Z Z Z (fun _=>Zt) (fun bk1=>(TL.stW 1 4 [_,_,_,_] Z Z Z Z Z Z zaI Z Z Zt (dB (xL4 1 zaI Z Z ?_)))))))))
 refine xD [] zmd ztl rfl (TL.cases rfl (fun q1=>?_) (fun q1=>?_))
 refine xnt Z (dF Z (xL4 1 zaI Z Z (TL.stW 0 4 [_,_,_,_] Z Z Z Z Z Z zaI Z Z Zt (xai Z (dR ?_)))))
 refine FQ.retG (rs:=[.cell 2 260,.tmp 3]) [(.agg _),(.int _ _)] (Bs:=[]) [] Z ⟨⟨_,_,_,_,_,0,Z,Z,.inr ⟨4,[_,_,_,_],zaI,Z,Z⟩⟩,Z,Zt⟩ Z Z Zt ?_
 first | exact ⟨(by have q:(zc1 v).right=true:=‹(zc1 v).right=true›; simp only [zae,q,if_true]; rfl),Z⟩ | exact ⟨(by have q:(zc1 v).right=false:=‹(zc1 v).right=false›; simp only [zae,q,Bool.false_eq_true,if_false]; rfl),Z⟩
 refine xnf Z (dT Z (TL.bld [.int .i64 0,.int .i64 0,.int .i64 0,.int .i64 0] [] [_,_,_,_] zb9 zhS Zt ⟨Z,Z⟩ Z Z (TL.stW 0 4 [_,_,_,_] Z Z Z Z Z Z zaI Z Z Zt (xai Z (dRR ?_)))))
 refine FQ.retG (rs:=[.cell 2 260,.tmp 3]) [(.agg _),(.int _ _)] (Bs:=[]) [] Z ⟨⟨_,_,_,_,_,0,Z,Z,.inr ⟨4,[_,_,_,_],zaI,Z,Z⟩⟩,Z,Zt⟩ Z Z Zt ?_
 first | exact ⟨(by have q:(zc1 v).right=true:=‹(zc1 v).right=true›; simp only [zae,q,if_true]; rfl),Z⟩ | exact ⟨(by have q:(zc1 v).right=false:=‹(zc1 v).right=false›; simp only [zae,q,Bool.false_eq_true,if_false]; rfl),Z⟩
theorem zmc {p:Pen} {x o m t g:Int} {b1 b2:Nat}:FnD Tryz.prog 229 [.agg #[.int .i64 o,.int .i64 m,.int .i64 t,.int .i64 g],.pointer (some ⟨b1,0,none⟩),.pointer (some ⟨b2,0,none⟩)] [pt b1 (.cells #[.int .i64 p.thread,.int .i64 p.tag] 137),pt b2 (.cells #[.int .i64 x] 3)] (wdV (p.to x (⟨o,m,t,g⟩:Wd))) [pt b1 (.cells #[.int .i64 p.thread,.int .i64 p.tag] 137),pt b2 (.cells #[.int .i64 x] 3)]:=by
 refine Fn.enter (Tryz.func229) Z Z (fun w0 R=>?_)
 refine sA (xB 2 Z (fun bk2=>(TL.alloc 3 (cs:=#[.int .i64 0,.int .i64 0,.int .i64 0,.int .i64 0]) zb9 Z Z Z (fun _=>Zt) (fun bk3=>(dB (xf 2 zfp Z (xli 2 zad Z Z (xf 0 zdt Z (xli 0 zad Z Z (TL.neq Z Z Z Z (fun q1=>?_) (fun q1=>?_)))))))))))
 refine xmt Z (xo Z (xo Z (xo Z (xo Z (xo Z (xpT Z (TL.done (TQ.then ?_))))))))
 refine TC.condT Z (TC.region (xf 1 zcz Z (xli 2 zad Z Z (xf 0 zcb Z (TL.st 2 #[_,_,_,_] (.int _ _) Z Z Z Z Z Z zad Z Z Zt (dA (xf 0 zcb Z (xli 2 zad Z Z ?_))))))))
 refine xli 1 zad Z Z (xf 0 zdt Z (xli 0 zad Z Z (xf 1 zds Z (xli 0 zad Z Z (TL.bld [.int .i64 0,.int .i64 0,.int .i64 0,.int .i64 0] [(.int _ _),(.int _ _),(.int _ _),(.int _ _)] [_,_,_,_] zb9 zhS ⟨Z,Z,Z,Z,Zt⟩ ⟨Z,Z⟩ Z Z (TL.stW 3 4 [_,_,_,_] Z Z Z Z Z Z zaI Z Z Zt (dR ?_)))))))
 refine FQ.retG (rs:=[.cell 4 260]) [(.agg _)] (Bs:=[pt b1 (.cells #[.int .i64 p.thread,.int .i64 p.tag] 137),pt b2 (.cells #[.int .i64 x] 3)]) [0,1] Z ⟨⟨_,_,_,_,_,3,Z,Z,.inr ⟨4,[_,_,_,_],zaI,Z,Z⟩⟩,Zt⟩ Z Z ⟨Z,Z,Zt⟩ ?_
 first | exact ⟨(by unfold Pen.to; dsimp only; rw [Zp (by omega)]; rfl),Z⟩ | exact ⟨(by unfold Pen.to; dsimp only; rw [Zn (by omega)]; rfl),Z⟩
 refine xmf Z (xf 3 zfo Z (xli 2 zad Z Z (xf 1 zds Z (xli 0 zad Z Z (TL.neq Z Z Z Z (fun q2=>?_) (fun q2=>?_))))))
 refine xpH Z (TL.done (TQ.then (TC.condT Z (TC.region (xf 1 zcz Z (xli 2 zad Z Z (xf 0 zcb Z (TL.st 2 #[_,_,_,_] (.int _ _) Z Z Z Z Z Z zad Z Z Zt ?_))))))))
 refine dA (xf 0 zcb Z (xli 2 zad Z Z (xli 1 zad Z Z (xf 0 zdt Z (xli 0 zad Z Z (xf 1 zds Z (xli 0 zad Z Z (TL.bld [.int .i64 0,.int .i64 0,.int .i64 0,.int .i64 0] [(.int _ _),(.int _ _),(.int _ _),(.int _ _)] [_,_,_,_] zb9 zhS ⟨Z,Z,Z,Z,Zt⟩ ⟨Z,Z⟩ Z Z ?_))))))))
 refine TL.stW 3 4 [_,_,_,_] Z Z Z Z Z Z zaI Z Z Zt (dR ?_)
 refine FQ.retG (rs:=[.cell 4 260]) [(.agg _)] (Bs:=[pt b1 (.cells #[.int .i64 p.thread,.int .i64 p.tag] 137),pt b2 (.cells #[.int .i64 x] 3)]) [0,1] Z ⟨⟨_,_,_,_,_,3,Z,Z,.inr ⟨4,[_,_,_,_],zaI,Z,Z⟩⟩,Zt⟩ Z Z ⟨Z,Z,Zt⟩ ?_
 first | exact ⟨(by unfold Pen.to; dsimp only; rw [Zp (by omega)]; rfl),Z⟩ | exact ⟨(by unfold Pen.to; dsimp only; rw [Zn (by omega)]; rfl),Z⟩
 refine xpF Z (dF Z (xf 0 zcb Z (xli 2 zad Z Z (xli 1 zad Z Z (xf 0 zdt Z (xli 0 zad Z Z (xf 1 zds Z (xli 0 zad Z Z ?_))))))))
 refine TL.bld [.int .i64 0,.int .i64 0,.int .i64 0,.int .i64 0] [(.int _ _),(.int _ _),(.int _ _),(.int _ _)] [_,_,_,_] zb9 zhS ⟨Z,Z,Z,Z,Zt⟩ ⟨Z,Z⟩ Z Z (TL.stW 3 4 [_,_,_,_] Z Z Z Z Z Z zaI Z Z Zt (dR ?_))
 refine FQ.retG (rs:=[.cell 4 260]) [(.agg _)] (Bs:=[pt b1 (.cells #[.int .i64 p.thread,.int .i64 p.tag] 137),pt b2 (.cells #[.int .i64 x] 3)]) [0,1] Z ⟨⟨_,_,_,_,_,3,Z,Z,.inr ⟨4,[_,_,_,_],zaI,Z,Z⟩⟩,Zt⟩ Z Z ⟨Z,Z,Zt⟩ ?_
 first | exact ⟨(by unfold Pen.to; dsimp only; rw [Zp (by omega)]; rfl),Z⟩ | exact ⟨(by unfold Pen.to; dsimp only; rw [Zn (by omega)]; rfl),Z⟩
theorem zuf {S:Type} [MemLike S] {mt:TypeId} {mv:Value} {A:S->Assn} (hM:MemI Tryz.prog mt mv A) {σ:S} {p:Pen} {c x:Int} {b1 b2:Nat} (h:(zae (MemLike.get σ c)).2=false) (hz:Room (2) σ:=by exact zaD):FnD Tryz.prog 187 [.iface mt mv,.int .i64 c,.func (.func 229) #[] #[.pointer (some ⟨b1,0,none⟩),.pointer (some ⟨b2,0,none⟩)]] [A σ,pt b1 (.cells #[.int .i64 p.thread,.int .i64 p.tag] 137),pt b2 (.cells #[.int .i64 x] 3)] (.tuple #[]) [A (MemLike.ld σ c),pt b1 (.cells #[.int .i64 p.thread,.int .i64 p.tag] 137),pt b2 (.cells #[.int .i64 x] 3)]:=by
 refine Fn.enter (Tryz.func187) Z Z (fun w0 R=>?_)
 refine sA (xmc Z (xmi Z (TL.mload 0 hM Z Z Z Z Z Zt (xD [] zdB zfW Z (xmu Z (TL.ext (.agg _) Z Z Z Z (xei Z Z (TL.alloc 3 (cs:=#[.int .i64 0,.int .i64 0,.int .i64 0,.int .i64 0]) zb9 Z Z Z (fun _=>Zt) (fun bk3=>?_)))))))))
 refine TL.stW 3 4 [_,_,_,_] Z Z Z Z Z Z zaI Z Z Zt (xai Z (dB (xmi Z (TL.neqT Z Z (by rw [h]; decide) Z Z (TL.done (TQ.then (TC.condT Z (TC.ret ?_))))))))
 refine TQ.thenRet ?_
 refine FQ.ret0 (Bs:=[A (MemLike.ld σ c),pt b1 (.cells #[.int .i64 p.thread,.int .i64 p.tag] 137),pt b2 (.cells #[.int .i64 x] 3)]) [0,1,2] Z Z ⟨Z,Z,Z,Zt⟩ ?_
 exact ⟨Z,Z⟩
theorem zue {S:Type} [MemLike S] {mt:TypeId} {mv:Value} {A:S->Assn} (hM:MemI Tryz.prog mt mv A) {σ:S} {p:Pen} {c x:Int} {b1 b2:Nat} (h:(zae (MemLike.get σ c)).2=true) (h2:(p.to x (zae (MemLike.get σ c)).1).right=false) (hz:Room (2) σ:=by exact zaD):FnD Tryz.prog 187 [.iface mt mv,.int .i64 c,.func (.func 229) #[] #[.pointer (some ⟨b1,0,none⟩),.pointer (some ⟨b2,0,none⟩)]] [A σ,pt b1 (.cells #[.int .i64 p.thread,.int .i64 p.tag] 137),pt b2 (.cells #[.int .i64 x] 3)] (.tuple #[]) [A (MemLike.ld σ c),pt b1 (.cells #[.int .i64 p.thread,.int .i64 p.tag] 137),pt b2 (.cells #[.int .i64 x] 3)]:=by
 refine Fn.enter (Tryz.func187) Z Z (fun w0 R=>?_)
 refine sA (xmc Z (xmi Z (TL.mload 0 hM Z Z Z Z Z Zt (xD [] zdB zfW Z (xmu Z (TL.ext (.agg _) Z Z Z Z (xei Z Z (TL.alloc 3 (cs:=#[.int .i64 0,.int .i64 0,.int .i64 0,.int .i64 0]) zb9 Z Z Z (fun _=>Zt) (fun bk3=>?_)))))))))
 refine TL.stW 3 4 [_,_,_,_] Z Z Z Z Z Z zaI Z Z Zt (xai Z (dB (xmi Z (TL.neqF Z Z (by rw [h]; decide) Z Z (dF Z (TL.mv (.func _ _ _) Z Z Z (xL4 3 zaI Z Z (TL.callC (c1:=[]) (c2:=[_,_]) (vs:=[_]) [1,2] [1,2] Z zmc ⟨Z,Zt⟩ ⟨Z,Z,Zt⟩ ztk Z Z Z Z Z Zt ?_))))))))
 refine xD [] zll zlW Z (xmu Z (xei Z Z (xei Z Z (xai Z (xai Z (dA (xmi Z (TL.eqlF Z Z (by rw [h2]; decide) Z Z ?_))))))))
 refine TL.done (TQ.then (TC.condF Z (TC.skip ?_)))
 refine FQ.end0 (Bs:=[A (MemLike.ld σ c),pt b1 (.cells #[.int .i64 p.thread,.int .i64 p.tag] 137),pt b2 (.cells #[.int .i64 x] 3)]) [0,1,2] Z Z ⟨Z,Z,Z,Zt⟩ ?_
 exact ⟨Z,Z⟩
theorem zud {S:Type} [MemLike S] {mt:TypeId} {mv:Value} {A:S->Assn} (hM:MemI Tryz.prog mt mv A) {σ:S} {p:Pen} {c x:Int} {b1 b2:Nat} (h:(zae (MemLike.get σ c)).2=true) (h2:(p.to x (zae (MemLike.get σ c)).1).right=true) (hz:Room (2) σ:=by exact zaD):FnD Tryz.prog 187 [.iface mt mv,.int .i64 c,.func (.func 229) #[] #[.pointer (some ⟨b1,0,none⟩),.pointer (some ⟨b2,0,none⟩)]] [A σ,pt b1 (.cells #[.int .i64 p.thread,.int .i64 p.tag] 137),pt b2 (.cells #[.int .i64 x] 3)] (.tuple #[]) [A (MemLike.st (MemLike.ld σ c) c (p.to x (zae (MemLike.get σ c)).1).pack),pt b1 (.cells #[.int .i64 p.thread,.int .i64 p.tag] 137),pt b2 (.cells #[.int .i64 x] 3)]:=by
 refine Fn.enter (Tryz.func187) Z Z (fun w0 R=>?_)
 refine sA (xmc Z (xmi Z (TL.mload 0 hM Z Z Z Z Z Zt (xD [] zdB zfW Z (xmu Z (TL.ext (.agg _) Z Z Z Z (xei Z Z (TL.alloc 3 (cs:=#[.int .i64 0,.int .i64 0,.int .i64 0,.int .i64 0]) zb9 Z Z Z (fun _=>Zt) (fun bk3=>?_)))))))))
 refine TL.stW 3 4 [_,_,_,_] Z Z Z Z Z Z zaI Z Z Zt (xai Z (dB (xmi Z (TL.neqF Z Z (by rw [h]; decide) Z Z (dF Z (TL.mv (.func _ _ _) Z Z Z (xL4 3 zaI Z Z (TL.callC (c1:=[]) (c2:=[_,_]) (vs:=[_]) [1,2] [1,2] Z zmc ⟨Z,Zt⟩ ⟨Z,Z,Zt⟩ ztk Z Z Z Z Z Zt ?_))))))))
 refine xD [] zll zlW Z (xmu Z (xei Z Z (xei Z Z (xai Z (xai Z (dA (xmi Z (TL.eqlT Z Z (by rw [h2]; decide) Z Z ?_))))))))
 refine TL.done (TQ.then (TC.condT Z (TC.region (xmc Z (xmi Z (xmi Z (TL.mstore 0 hM Z Z Z (by rw [h2]; exact zby _ _) Z Z Z Zt (TL.done ?_))))))))
 refine FQ.end0 (Bs:=[A _,pt b1 (.cells #[.int .i64 p.thread,.int .i64 p.tag] 137),pt b2 (.cells #[.int .i64 x] 3)]) [0,1,2] Z Z ⟨Z,Z,Z,Zt⟩ ?_
 exact ⟨Z,by rw [h2]; rfl⟩
theorem zug {S:Type} [MemLike S] {mt:TypeId} {mv:Value} {A:S->Assn} (hM:MemI Tryz.prog mt mv A) {σ:S} {p:Pen} {c x:Int} {b1 b2:Nat} (hz:Room 2 σ:=by exact zaD):FnD Tryz.prog 187 [.iface mt mv,.int .i64 c,.func (.func 229) #[] #[.pointer (some ⟨b1,0,none⟩),.pointer (some ⟨b2,0,none⟩)]] [A σ,pt b1 (.cells #[.int .i64 p.thread,.int .i64 p.tag] 137),pt b2 (.cells #[.int .i64 x] 3)] (.tuple #[]) [A (p.write σ c x),pt b1 (.cells #[.int .i64 p.thread,.int .i64 p.tag] 137),pt b2 (.cells #[.int .i64 x] 3)]:=by
 unfold Pen.write
 cases h:(zae (MemLike.get σ c)).2
 ·exact zuf hM h
 ·rw [Zp Z]
  cases h2:(p.to x (zae (MemLike.get σ c)).1).right
  ·exact zue hM h h2
  ·exact zud hM h h2
theorem zk0 {S:Type} [MemLike S] {mt:TypeId} {mv:Value} {A:S->Assn} (hM:MemI Tryz.prog mt mv A) {σ:S} {p:Pen} {c x:Int} (hz:Room (2) σ:=by exact zaD):FnD Tryz.prog 197 [.agg #[.int .i64 p.thread,.int .i64 p.tag],.iface mt mv,.int .i64 c,.int .i64 x] [A σ] (.tuple #[]) [A (p.write σ c x)]:=by
 refine Fn.enter (Tryz.func197) Z Z (fun w0 R=>?_)
 refine sA (xB 1 Z (fun bk1=>(TL.box1 2 (.int _ _) Z Z Z Z (fun _=>Zt) (fun bk2=>(dG (xmc Z (xmi Z (TL.mf (xs:=[]) (ys:=[_,_]) [] [_,_] Zt ⟨Z,Z,Zt⟩ Z Z (xD [0,1,2] (zug hM) ztB Z (TL.done ?_))))))))))
 refine FQ.end0 (Bs:=[A (p.write σ c x)]) [0] Z Z ⟨Z,Zt⟩ ?_
 exact ⟨Z,Z⟩
theorem zsj {S:Type} [MemLike S] {mt:TypeId} {mv:Value} {A:S->Assn} (hM:MemI Tryz.prog mt mv A) {σ:S} {c:Int} (hz:Room (1) σ:=by exact zaD):FnD Tryz.prog 198 [.iface mt mv,.int .i64 c] [A σ] (.int .i64 (pnew σ c)) [A (MemLike.ld σ c)]:=by
 refine Fn.enter (Tryz.func198) Z Z (fun w0 R=>?_)
 refine sA (xai Z (dA (xmc Z (xmi Z (TL.mload 0 hM Z Z Z Z Z Zt (xD [] zdB zfW Z (xmu Z (TL.ext (.agg _) Z Z Z Z ?_))))))))
 refine xei Z Z (TL.alloc 1 (cs:=#[.int .i64 0,.int .i64 0,.int .i64 0,.int .i64 0]) zb9 Z Z Z (fun _=>Zt) (fun bk1=>(TL.stW 1 4 [_,_,_,_] Z Z Z Z Z Z zaI Z Z Zt (xai Z (dA (xf 1 zcz Z (xli 1 zad Z Z (xai Z (dR ?_)))))))))
 refine FQ.ret1 (v:=(.int _ _)) (Bs:=[A (MemLike.ld σ c)]) [0] Z Z Z ⟨Z,Zt⟩ ?_
 exact ⟨Z,Z⟩
theorem zea {S:Type} [MemLike S] {mt:TypeId} {mv:Value} {A:S->Assn} (hM:MemI Tryz.prog mt mv A) {l:Lay} (hl:l.Ok) {p:Pen} {σ:S} {x f:Int} (hz:Room (1) σ:=by exact zaD):FnD Tryz.prog 250 [zbw l mt mv p,.int .i64 x,.int .i64 f] [A σ] (.int .i64 (tget l σ x f)) [A (zdY l σ x f)]:=by
 refine Fn.enter (Tryz.func250) Z Z (fun w0 R=>?_)
 refine sA (xB 1 Z (fun bk1=>(xai Z (dS (TC.draw (od [1,3,5,7,9,11,15,17,12,18,21,23]) [1] fc_m (by kernel_rfl) (xf 3 zbi Z (xlc 1 zbv Z Z (xf 0 zaH Z (xL3 1 zab Z Z ?_)))))))))
 refine xmi Z (xmi Z (TL.ncI Z Z Z (xmc Z (xd [] (zbc hl) zcq Z (kL1 Z Zt) (TL.mload 0 hM Z Z Z Z Z (kL1 Z Zt) (TL.conv _ Z zdT zaQ (Z) Z Z (xai Z (dR ?_))))))))
 refine FQ.ret1 (v:=(.int _ _)) (Bs:=[A _]) [0] Z Z Z ⟨Z,Zt⟩ ?_
 exact ⟨Z,Z⟩
theorem zk6 {S:Type} [MemLike S] {mt:TypeId} {mv:Value} {A:S->Assn} (hM:MemI Tryz.prog mt mv A) {l:Lay} (hl:l.Ok) {p:Pen} {σ:S} {x f v:Int} (hz:Room (1) σ:=by exact zaD):FnD Tryz.prog 184 [zbw l mt mv p,.int .i64 x,.int .i64 f,.int .i64 v] [A σ] (.tuple #[]) [A (tput l σ x f v)]:=by
 refine Fn.enter (Tryz.func184) Z Z (fun w0 R=>?_)
 refine sA (xB 1 Z (fun bk1=>(TL.done (TQ.then (TC.draw (od [1,3,5,7,9,11,15,17,19,21,12,22]) [1] fc_m (by kernel_rfl) (xf 3 zbi Z (xlc 1 zbv Z Z (xf 0 zaH Z (xL3 1 zab Z Z ?_)))))))))
 refine xmi Z (xmi Z (xmi Z (TL.conv _ Z zgr zbu (Z) Z Z (TL.ncI Z Z Z (xmc Z (xd [] (zbc hl) zcq Z (kL1 Z Zt) (TL.mstore 0 hM Z Z Z (by first | exact zcV _ | exact zby _ _ | exact MemLike.rng _ _ | decide | assumption) Z Z Z (kL1 Z Zt) (TL.done ?_))))))))
 refine FQ.end0 (Bs:=[A _]) [0] Z Z ⟨Z,Zt⟩ ?_
 exact ⟨Z,Z⟩
theorem zo0 {mt:TypeId} {mv:Value} {l:Lay} (hl:l.Ok) {p:Pen} {x:Int}:FnD Tryz.prog 221 [zbw l mt mv p,.int .i64 x] [] (.bool (zbJ l x)) []:=by
 refine Fn.enter (Tryz.func221) Z Z (fun w0 R=>?_)
 refine sA (xB 0 Z (fun bk0=>(xaf Z (dA (xf 0 zaH Z (xL3 0 zab Z Z (xmi Z (xD [] (zfO hl) zik Z (xmu Z ?_)))))))))
 refine TL.ext (.agg _) Z Z Z Z (TL.ext (.bool _) Z Z Z Z (TL.alloc 1 (cs:=#[.bool false,.int .i64 0,.int .i64 0,.int .i64 0,.int .i64 0]) zfB Z Z Z (fun _=>Zt) (fun bk1=>(TL.stW 1 5 [_,_,_,_,_] Z Z Z Z Z Z zcr Z Z Zt (xab Z (dA (xf 1 zeY Z (xli 1 zad Z Z (TL.eqlV Z Z Z Z ?_)))))))))
 refine xab Z (dR ?_)
 refine FQ.ret1 (v:=(.bool _)) (Bs:=[]) [] Z Z Z Zt ?_
 exact ⟨Z,Z⟩
theorem zeP {S:Type} [MemLike S] {mt:TypeId} {mv:Value} {A:S->Assn} (hM:MemI Tryz.prog mt mv A) {l:Lay} (hl:l.Ok) {p:Pen} {σ:S} {x:Int} (hz:Room (1) σ:=by exact zaD):FnD Tryz.prog 223 [zbw l mt mv p,.int .i64 x] [A σ] (.int .i64 (parent l σ x)) [A (zcL l σ x)]:=by
 refine Fn.enter (Tryz.func223) Z Z (fun w0 R=>?_)
 refine sA (xB 1 rfl (fun bk1=>(xai rfl (dB (xL6 1 zaa rfl rfl (xmi rfl (xD [] (zo0 hl) ztm rfl (TL.cases rfl (fun q1=>?_) (fun q1=>?_)))))))))
 refine TL.done (TQ.then (TC.condT Z (TC.seq (TC.draw (od [1,3,5,7,9,10,12,15]) [1] fc_m (by kernel_rfl) (xf 3 zbi Z (xlc 1 zbv Z Z (xf 0 zaH Z (xL3 1 zab Z Z ?_))))))))
 refine xmi Z (xd [] (zbc hl) zcq Z (kL1 Z Zt) (xd [0] (zsj hM) zok Z (kL1 Z Zt) (xai Z (dRR ?_))))
 refine FQ.ret1 (v:=(.int _ _)) (Bs:=[A _]) [0] Z Z Z ⟨Z,Zt⟩ ?_
 exact ⟨(by simp only [parent, *,if_true,Bool.false_eq_true,if_false]),Z⟩
 refine dF Z (xL6 1 zaa Z Z (xmi Z (xD [0] (zea hM hl) zen Z (xai Z (dR ?_)))))
 refine FQ.ret1 (v:=(.int _ _)) (Bs:=[A _]) [0] Z Z Z ⟨Z,Zt⟩ ?_
 exact ⟨(by simp only [parent, *,if_true,Bool.false_eq_true,if_false]),Z⟩
theorem zjs {S:Type} [MemLike S] {mt:TypeId} {mv:Value} {A:S->Assn} (hM:MemI Tryz.prog mt mv A) {l:Lay} (hl:l.Ok) {p:Pen} {σ:S} {x q:Int} (hz:Room (2) σ:=by exact zaD):FnD Tryz.prog 185 [zbw l mt mv p,.int .i64 x,.int .i64 q] [A σ] (.tuple #[]) [A (hang l p σ x q)]:=by
 refine Fn.enter (Tryz.func185) Z Z (fun w0 R=>?_)
 refine sA (xB 1 Z (fun bk1=>(dK (sA (xmi Z (TL.eql Z Z Z Z (fun q1=>?_) (fun q1=>?_)))))))
 refine xat Z (TL.done (TQ.then (TC.condT Z (TC.skip (TQ.inBlock ?_)))))
 refine FQ.end0 (Bs:=[A _]) [0] Z Z ⟨Z,Zt⟩ ?_
 first | exact ⟨Z,(by simp only [hang, *,if_true,Bool.false_eq_true,if_false])⟩ | exact ⟨Z,(by simp only [hang]; rw [Zp (by assumption)])⟩
 refine xaf rfl (TL.done (TQ.then (TC.condF rfl (sA (xL6 1 zaa rfl rfl (xmi rfl (xD [] (zo0 hl) ztm rfl (TL.cases rfl (fun q2=>?_) (fun q2=>?_)))))))))
 refine xat Z (TL.done (TQ.then (TC.condT Z (TC.draw (od [1,3,5,7,9,11,13,17,14,18]) [1] fc_m (by kernel_rfl) (xf 4 zjE Z (xL2 1 zba Z Z (xf 3 zbi Z (xlc 1 zbv Z Z ?_))))))))
 refine xf 0 zaH Z (xL3 1 zab Z Z (xmi Z (xmi Z (xd [] (zbc hl) zcq Z (kL1 Z Zt) (xd [0] (zk0 hM) zol Z (kL1 Z Zt) (TL.done (TQ.inBlock ?_)))))))
 refine FQ.end0 (Bs:=[A _]) [0] Z Z ⟨Z,Zt⟩ ?_
 first | exact ⟨Z,(by simp only [hang, *,if_true,Bool.false_eq_true,if_false])⟩ | exact ⟨Z,(by simp only [hang]; rw [Zp (by assumption)])⟩
 refine xaf Z (TL.done (TQ.then (TC.condF Z (TC.region (xL6 1 zaa Z Z (xmi Z (xmi Z (xD [0] (zk6 hM hl) zlY Z ?_))))))))
 refine TL.done (TQ.inBlock ?_)
 refine FQ.end0 (Bs:=[A _]) [0] Z Z ⟨Z,Zt⟩ ?_
 first | exact ⟨Z,(by simp only [hang, *,if_true,Bool.false_eq_true,if_false])⟩ | exact ⟨Z,(by simp only [hang]; rw [Zp (by assumption)])⟩
theorem zi2 {S:Type} [MemLike S] {mt:TypeId} {mv:Value} {A:S->Assn} (hM:MemI Tryz.prog mt mv A) {l:Lay} (hl:l.Ok) {p:Pen} {σ:S} {x:Int} (hz:Room (1) σ:=by exact zaD):FnD Tryz.prog 276 [zbw l mt mv p,.int .i64 x] [A σ] (.int .u64 (tsum l σ x)) [A (zb5 l σ x)]:=by
 refine Fn.enter (Tryz.func276) Z Z (fun w0 R=>?_)
 refine sA (xB 1 Z (fun bk1=>(xai Z (dB (xmi Z (TL.eql Z Z Z Z (fun q1=>?_) (fun q1=>?_)))))))
 refine dT Z (xai Z (dRR ?_))
 refine FQ.ret1 (v:=(.int _ _)) (Bs:=[A _]) [0] Z Z Z ⟨Z,Zt⟩ ?_
 first | exact ⟨(by simp only [tsum]; rw [Zp (by assumption)]),(by simp only [zb5]; rw [Zp (by assumption)])⟩ | exact ⟨(by simp only [tsum]; rw [Zn (by assumption)]),(by simp only [zb5]; rw [Zn (by assumption)])⟩
 refine TL.done (TQ.then (TC.condF Z (TC.skip (TQ.then (TC.seq (TC.draw (od [1,3,5,7,9,13,15,10,16,19]) [1] fc_m (by kernel_rfl) (xf 3 zbi Z (xlc 1 zbv Z Z ?_))))))))
 refine xf 0 zaH Z (xL3 1 zab Z Z (xmi Z (TL.ncI Z Z Z (xmc Z (xd [] (zbc hl) zcq Z (kL1 Z Zt) (TL.mload 0 hM Z Z Z Z Z (kL1 Z Zt) (xai Z (dR ?_))))))))
 refine FQ.ret1 (v:=(.int _ _)) (Bs:=[A _]) [0] Z Z Z ⟨Z,Zt⟩ ?_
 first | exact ⟨(by simp only [tsum]; rw [Zp (by assumption)]),(by simp only [zb5]; rw [Zp (by assumption)])⟩ | exact ⟨(by simp only [tsum]; rw [Zn (by assumption)]),(by simp only [zb5]; rw [Zn (by assumption)])⟩
theorem zt2 {v:Int}:FnD Tryz.prog 277 [.int .u64 v] [] (.int .u64 (zpT v)) []:=by
 refine Fn.enter (Tryz.func277) Z Z (fun w0 R=>?_)
 refine sA (xai Z (dA (xmi Z (TL.and _ Z Z Z Z Z (xai Z (dR ?_))))))
 refine FQ.ret1 (v:=(.int _ _)) (Bs:=[]) [] Z Z Z Zt ?_
 exact ⟨Z,Z⟩
theorem zss {mt:TypeId} {mv:Value} {l:Lay} (hl:l.Ok) {p:Pen} {x m:Int}:FnD Tryz.prog 186 [zbw l mt mv p,.int .i64 x,.int .u64 m] [] (.int .u64 (zfD l x m)) []:=by
 refine Fn.enter (Tryz.func186) Z Z (fun w0 R=>?_)
 refine sA (xB 0 Z (fun bk0=>(xai Z (dA (xmi Z (TL.shl _ Z Z (by decide) Z Z Z (TL.or _ Z Z Z Z Z (xmi Z (TL.shl _ Z Z (by decide) Z Z Z ?_)))))))))
 refine TL.or _ Z Z Z Z Z (xai Z (dB (xf 0 zaH Z (xL3 0 zab Z Z (xmi Z (xD [] (zfO hl) zik Z (xmu Z (TL.ext (.agg _) Z Z Z Z ?_))))))))
 refine TL.ext (.bool _) Z Z Z Z (TL.alloc 1 (cs:=#[.bool false,.int .i64 0,.int .i64 0,.int .i64 0,.int .i64 0]) zfB Z Z Z (fun _=>Zt) (fun bk1=>(TL.stW 1 5 [_,_,_,_,_] Z Z Z Z Z Z zcr Z Z Zt (xab Z (dA (xf 0 zkK Z (xlb 1 zd3 Z Z (TL.not _ _ Z Z Z Z (TL.done ?_)))))))))
 refine TQ.then (TC.cond Z (fun q1=>?_) (fun q1=>?_))
 refine TC.region (xmi Z (TL.or _ Z Z Z Z Z (xai Z (dA (xmi Z (xai Z (dR ?_)))))))
 refine FQ.ret1 (v:=(.int _ _)) (Bs:=[]) [] Z Z Z Zt ?_
 first | exact ⟨(by have q:(l.node x).1.arc=false:=(by simpa using ‹(!(l.node x).1.arc)=true›); simp only [zfD,q,Bool.false_eq_true,if_false]; rfl),Z⟩ | exact ⟨(by have q:(l.node x).1.arc=true:=(by simpa using ‹(!(l.node x).1.arc)=false›); simp only [zfD,q,if_true]; rfl),Z⟩
 refine TC.skip (TQ.then (sA (xmi Z (xai Z (dR ?_)))))
 refine FQ.ret1 (v:=(.int _ _)) (Bs:=[]) [] Z Z Z Zt ?_
 first | exact ⟨(by have q:(l.node x).1.arc=false:=(by simpa using ‹(!(l.node x).1.arc)=true›); simp only [zfD,q,Bool.false_eq_true,if_false]; rfl),Z⟩ | exact ⟨(by have q:(l.node x).1.arc=true:=(by simpa using ‹(!(l.node x).1.arc)=false›); simp only [zfD,q,if_true]; rfl),Z⟩
theorem zg2 {S:Type} [MemLike S] {mt:TypeId} {mv:Value} {A:S->Assn} (hM:MemI Tryz.prog mt mv A) {l:Lay} (hl:l.Ok) {p:Pen} {σ:S} {x m:Int} (hz:Room (5) σ:=by exact zaD):FnD Tryz.prog 260 [zbw l mt mv p,.int .i64 x,.int .u64 m] [A σ] (.tuple #[]) [A (zfc l σ x m)]:=by
 refine Fn.enter (Tryz.func260) Z Z (fun w0 R=>?_)
 refine sA (xB 1 Z (fun bk1=>(dA (xL6 1 zaa Z Z (xmi Z (xmi Z (xD [] (zss hl) ztC Z (xai Z (dB ?_)))))))))
 refine TL.bldA [.int .i64 0,.int .i64 0] [(.int _ _),(.int _ _)] [_,_] zs4 zd4 ⟨Z,Z,Zt⟩ ⟨Z,Z⟩ Z Z (xmi Z (dK (TC.loopK (X:=Nat) [1,3,14] [1] (fun i=>[(6,.int .u64 (zcd l σ x m i).1),(15,.int .i64 (i:Int))]) (fun i=>[(0,A (zcd l σ x m i).2)]) (fun i=>i<=2) (fun i=>2 - i) (0) (by decide) ⟨Z,Z,Zt⟩ ⟨Z,Zt⟩ (fun i hI=>(TC.sub (env':=[(6,_),(15,_),(1,_),(3,_),(14,_)]) (L':=[(0,_),(1,_)]) ⟨Z,Z,Z,Z,Z,Zt⟩ ⟨Z,Z,Zt⟩ (sA (TL.lss Z Z Z Z (fun q1=>?_) (fun q1=>?_))))))))
 refine dS (TC.condT rfl (TC.skip (TQ.then (TC.seq (TC.block (sA (TL.ixA (.int .i64 (3+(i:Int))) rfl rfl zd4 zad (by omega) (by omega) (by have:i=0\/i=1:=(by omega); rcases this with rfl | rfl<;>rfl) rfl rfl (xai rfl ?_))))))))
 refine dS (TC.draw (od [1,3,5,7,8,10,13]) [1] fc_m (by kernel_rfl) (xL6 1 zaa Z Z (xL6 1 zaa Z Z (xmi Z (xmi Z (xd [0] (zea hM hl) zen Z (kL1 Z Zt) (xd [0] (zi2 hM hl) zjK Z (kL1 Z Zt) (xai Z ?_))))))))
 refine dG (xmi Z (xmi Z (xD [] zt2 zyK Z (TL.add _ Z Z (Z) Z Z (xmi Z (TL.shr _ Z Z (by decide) Z Z Z (TL.and _ Z Z Z Z Z (TL.shl _ Z Z (by decide) Z Z Z ?_))))))))
 refine TL.or _ Z Z Z Z Z (xai Z (dI (TL.add _ Z Z (wr64 (by omega)) Z Z (xmi Z (TL.done (TQ.roundK (i+1) ⟨by omega,by omega⟩ ⟨Z,Z,Zt⟩ ⟨Z,Zt⟩ (kE3 Z Z Z Zt) (kL1 Z Zt)))))))
 refine dS (TC.condF Z (TC.exit (TQ.thenExit (TQ.thenExit (TQ.blockHere (TQ.then (TC.draw (od [1,3,5,7,9,13,15,17,10,18]) [1] fc_m (by kernel_rfl) (xf 3 zbi Z ?_))))))))
 refine xlc 1 zbv Z Z (xf 0 zaH Z (xL3 1 zab Z Z (xmi Z (xmi Z (TL.ncI Z Z Z (xmc Z (xd [] (zbc hl) zcq Z (kL1 Z Zt) (TL.mstore 0 hM Z Z Z (zqr _ _ _ _ _) Z Z Z (kL1 Z Zt) ?_))))))))
 refine TL.done ?_
 refine FQ.end0 (Bs:=[A _]) [0] Z Z ⟨Z,Zt⟩ ?_
 obtain rfl:i=2:=by omega
 refine ⟨Z,?_⟩
 unfold zfc
 rfl
theorem zgg {S:Type} [MemLike S] {mt:TypeId} {mv:Value} {A:S->Assn} (hM:MemI Tryz.prog mt mv A) {l:Lay} (hl:l.Ok) {p:Pen} {σ:S} {x:Int} (hz:Room (1) σ:=by exact zaD):FnD Tryz.prog 259 [zbw l mt mv p,.int .i64 x] [A σ] (.int .u64 (marks l σ x)) [A (zfQ l σ x)]:=by
 refine Fn.enter (Tryz.func259) Z Z (fun w0 R=>?_)
 refine sA (xB 1 Z (fun bk1=>(xai Z (dA (xL6 1 zaa Z Z (xmi Z (xD [0] (zi2 hM hl) zjK Z (TL.shr _ Z Z (by decide) Z Z Z (TL.and _ Z Z Z Z Z ?_)))))))))
 refine xai Z (dR ?_)
 refine FQ.ret1 (v:=(.int _ _)) (Bs:=[A _]) [0] Z Z Z ⟨Z,Zt⟩ ?_
 exact ⟨Z,Z⟩
theorem zhw {S:Type} [MemLike S] {mt:TypeId} {mv:Value} {A:S->Assn} (hM:MemI Tryz.prog mt mv A) {l:Lay} (hl:l.Ok) {p:Pen} {σ:S} {x:Int} (hz:Room (5) σ:=by exact zaD):FnD Tryz.prog 147 [zbw l mt mv p,.int .i64 x] [A σ] (.tuple #[]) [A (alone l p σ x)]:=by
 refine Fn.enter (Tryz.func147) Z Z (fun w0 R=>?_)
 refine sA (xB 1 Z (fun bk1=>(dA (xL6 1 zaa Z Z (xmi Z (xD [0] (zk6 hM hl) zlY Z (dA (xL6 1 zaa Z Z (xmi Z ?_)))))))))
 refine xD [0] (zk6 hM hl) zlY Z (dA (xL6 1 zaa Z Z (xmi Z (xD [0] (zjs hM hl) zjO Z (TL.done (TQ.then (TC.draw (od [1,3,5,7,9,13,15,19,21,10,16,22]) [1] fc_m (by kernel_rfl) (xf 3 zbi Z ?_))))))))
 refine xlc 1 zbv Z Z (xf 0 zaH Z (xL3 1 zab Z Z (xmi Z (xL6 1 zaa Z Z (xmi Z (TL.ncI Z Z Z (xmc Z (xd [] (zbc hl) zcq Z (kL1 Z Zt) ?_))))))))
 refine xd [] (zss hl) ztC Z (kL1 Z Zt) (TL.mstore 0 hM Z Z Z (by first | exact zpw _ _ _) Z Z Z (kL1 Z Zt) (TL.done ?_))
 refine FQ.end0 (Bs:=[A _]) [0] Z Z ⟨Z,Zt⟩ ?_
 exact ⟨Z,Z⟩
theorem zlb {S:Type} [MemLike S] {mt:TypeId} {mv:Value} {A:S->Assn} (hM:MemI Tryz.prog mt mv A) {l:Lay} (hl:l.Ok) {p:Pen} {σ:S} {x:Int} (hz:Room (1) σ:=by exact zaD):FnD Tryz.prog 261 [zbw l mt mv p,.int .i64 x] [A σ] (.int .i64 (size l σ x)) [A (zb5 l σ x)]:=by
 refine Fn.enter (Tryz.func261) Z Z (fun w0 R=>?_)
 refine sA (xB 1 Z (fun bk1=>(xai Z (dA (xL6 1 zaa Z Z (xmi Z (xD [0] (zi2 hM hl) zjK Z (TL.and _ Z Z Z Z Z (TL.conv _ Z zdT zaQ (Z) Z Z ?_)))))))))
 refine xai Z (dR ?_)
 refine FQ.ret1 (v:=(.int _ _)) (Bs:=[A _]) [0] Z Z Z ⟨Z,Zt⟩ ?_
 exact ⟨Z,Z⟩
theorem zuN {S:Type} [MemLike S] {mt:TypeId} {mv:Value} {A:S->Assn} (hM:MemI Tryz.prog mt mv A) {l:Lay} (hl:l.Ok) {p:Pen} {σ:S} {x:Int} (hz:Room (1) σ:=by exact zaD):FnD Tryz.prog 263 [zbw l mt mv p,.int .i64 x] [A σ] (.int .i64 (verts l σ x)) [A (zb5 l σ x)]:=by
 refine Fn.enter (Tryz.func263) Z Z (fun w0 R=>?_)
 refine sA (xB 1 Z (fun bk1=>(xai Z (dA (xL6 1 zaa Z Z (xmi Z (xD [0] (zi2 hM hl) zjK Z (TL.shr _ Z Z (by decide) Z Z Z (TL.and _ Z Z Z Z Z ?_)))))))))
 refine TL.conv _ Z zdT zaQ (Z) Z Z (xai Z (dR ?_))
 refine FQ.ret1 (v:=(.int _ _)) (Bs:=[A _]) [0] Z Z Z ⟨Z,Zt⟩ ?_
 exact ⟨Z,Z⟩
theorem zfb {S:Type} [MemLike S] {mt:TypeId} {mv:Value} {A:S->Assn} (hM:MemI Tryz.prog mt mv A) {l:Lay} (hl:l.Ok) {p:Pen} {σ:S} {x r:Int} {k:Nat} {σ2:S} (h:root l k σ x=some (r,σ2)) (hz:Room (k) σ:=by exact zaD):FnD Tryz.prog 190 [zbw l mt mv p,.int .i64 x] [A σ] (.int .i64 r) [A σ2]:=by
 refine Fn.enter (Tryz.func190) Z Z (fun w0 R=>?_)
 refine sA (xB 1 Z (fun bk1=>(xai Z (dS (TC.block (TC.loopK (X:=Nat×S×Int) [2,4] [1] (fun y=>[(1,.int .i64 y.2.2)]) (fun y=>[(0,A y.2.1)]) (fun y=>root l y.1 y.2.1 y.2.2=some (r,σ2)/\Room (y.1) y.2.1) (fun y=>y.1) ((k,σ,x)) ⟨h,zaD⟩ ⟨Z,Zt⟩ ⟨Z,Zt⟩ (fun y hI=>?_)))))))
 obtain ⟨k,σ1,z⟩:=y
 obtain ⟨hI,hzI⟩:=hI
 rcases k with _ | k
 ·simp [root] at hI
 dsimp only at hI hzI
 refine TC.sub (env':=[(1,_),(2,_),(4,_)]) (L':=[(0,_),(1,_)]) ⟨Z,Z,Z,Zt⟩ ⟨Z,Z,Zt⟩ (sB (xmi Z (TL.neq Z Z Z Z (fun q1=>?_) (fun q1=>?_))))
 refine TL.done (TQ.then (TC.condT Z (TC.skip (TQ.then (TC.block (sA (xL6 1 zaa Z Z (xmi Z ?_))))))))
 refine xD [0] (zeP hM hl) zh2 Z (xai Z (dB (xmi Z (TL.eql Z Z Z Z (fun q2=>?_) (fun q2=>?_)))))
 refine TL.done (TQ.then (TC.condT Z (TC.exit (TQ.thenExit (TQ.blockOut Z (TQ.thenExit (TQ.blockHere (TQ.then ?_))))))))
 refine sA (xmi Z (xai Z (dR ?_)))
 refine FQ.ret1 (v:=(.int _ _)) (Bs:=[A _]) [0] Z Z Z ⟨Z,Zt⟩ ?_
 rw [root,Zp q1,Zp q2] at hI; cases hI; exact ⟨rfl,rfl⟩
 refine TL.done (TQ.then (TC.condF Z (TC.skip (TQ.then (TC.region (xmi Z (xai Z (TL.done ?_))))))))
 refine TQ.inBlock (TQ.roundK ((k,zcL l σ1 z,parent l σ1 z)) ⟨⟨(by rw [root,Zp q1,Zn q2] at hI; exact hI),zaD⟩,Nat.lt_succ_self _⟩ ⟨Z,Zt⟩ ⟨Z,Zt⟩ (kE2 Z Z Zt) (kL1 Z Zt))
 refine dE Z (sA (xmi Z (xai Z (dR ?_))))
 refine FQ.ret1 (v:=(.int _ _)) (Bs:=[A _]) [0] Z Z Z ⟨Z,Zt⟩ ?_
 rw [root,Zn q1] at hI; cases hI; exact ⟨rfl,rfl⟩
theorem zlE {S:Type} [MemLike S] {mt:TypeId} {mv:Value} {A:S->Assn} (hM:MemI Tryz.prog mt mv A) {l:Lay} (hl:l.Ok) {p:Pen} {σ:S} {x r:Int} {k:Nat} {σ2:S} (h:index l k σ x=some (r,σ2)) (hz:Room (4 * k+2) σ:=by exact zaD):FnD Tryz.prog 243 [zbw l mt mv p,.int .i64 x] [A σ] (.int .i64 r) [A σ2]:=by
 unfold index at h
 dsimp only at h
 refine Fn.enter (Tryz.func243) Z Z (fun w0 R=>?_)
 refine sA (xB 1 Z (fun bk1=>(xai Z (dS (TC.draw (od [1,3,5,6,8,11]) [1] fc_m (by kernel_rfl) (xL6 1 zaa Z Z (xL6 1 zaa Z Z (xmi Z (xd [0] (zea hM hl) zen Z (kL1 Z Zt) ?_)))))))))
 refine xd [0] (zlb hM hl) zlT Z (kL1 Z Zt) (xai Z (dK (TC.loopK (X:=Nat×S×Int×Int) [2] [1] (fun y=>[(1,.int .i64 y.2.2.1),(5,.int .i64 y.2.2.2)]) (fun y=>[(0,A y.2.1)]) (fun y=>zb0 l y.1 y.2.1 y.2.2.1 y.2.2.2=some (r,σ2)/\Room (4 * y.1) y.2.1) (fun y=>y.1) ((k,zb5 l (zdY l σ x 3) (tget l σ x 3),x,_)) ⟨h,zaD⟩ ⟨Z,Z,Zt⟩ ⟨Z,Zt⟩ (fun y hI=>?_))))
 obtain ⟨k,σ1,z,n⟩:=y
 obtain ⟨hI,hzI⟩:=hI
 rcases k with _ | k
 ·simp [zb0] at hI
 dsimp only at hI hzI
 refine TC.sub (env':=[(1,_),(5,_),(2,_)]) (L':=[(0,_),(1,_)]) ⟨Z,Z,Z,Zt⟩ ⟨Z,Z,Zt⟩ (TC.block (sA (xL6 1 zaa Z Z (xmi Z (xD [0] (zeP hM hl) zh2 Z (xai Z (dB (xmi Z ?_))))))))
 refine TL.eql Z Z Z Z (fun q1=>?_) (fun q1=>?_)
 refine dT Z (xmi Z (xai Z (dRR (TQ.blockRet (TQ.thenRet (TQ.blockRet ?_))))))
 refine FQ.ret1 (v:=(.int _ _)) (Bs:=[A _]) [0] Z Z Z ⟨Z,Zt⟩ ?_
 rw [zb0,Zp q1] at hI; cases hI; exact ⟨rfl,rfl⟩
 refine TL.done (TQ.then (TC.condF Z (TC.skip (TQ.then (sB (xL6 1 zaa Z Z (xmi Z (xD [0] (zea hM hl) zen Z ?_))))))))
 refine xmi Z (TL.eql Z Z Z Z (fun q2=>?_) (fun q2=>?_))
 refine TL.done (TQ.then (TC.condT Z (TC.draw (od [1,3,5,7,8,10,13,15,17]) [1] fc_m (by kernel_rfl) (xmi Z (xL6 1 zaa Z Z (xL6 1 zaa Z Z (xmi Z (xd [0] (zea hM hl) zen Z (kL1 Z Zt) ?_))))))))
 refine xd [0] (zlb hM hl) zlT Z (kL1 Z Zt) (TL.add _ Z Z (Z) Z Z (TL.add _ Z Z (Z) Z Z (xai Z (dG (xmi Z (xai Z (TL.done (TQ.inBlock ?_))))))))
 refine TQ.roundK ((k,zb5 l (zdY l (zdY l (zcL l σ1 z) (parent l σ1 z) 4) (parent l σ1 z) 3) (tget l (zdY l (zcL l σ1 z) (parent l σ1 z) 4) (parent l σ1 z) 3),_,_)) ⟨⟨(by rw [zb0,Zn q1] at hI; dsimp only at hI; rw [Zp q2] at hI; exact hI),zaD⟩,Nat.lt_succ_self _⟩ ⟨Z,Z,Zt⟩ ⟨Z,Zt⟩ (kE1 Z Zt) (kL1 Z Zt)
 refine TL.done (TQ.then (TC.condF Z (TC.skip (TQ.then (TC.region (xmi Z (xai Z (TL.done ?_))))))))
 refine TQ.inBlock (TQ.roundK ((k,zdY l (zcL l σ1 z) (parent l σ1 z) 4,_,_)) ⟨⟨(by rw [zb0,Zn q1] at hI; dsimp only at hI; rw [Zn q2] at hI; exact hI),zaD⟩,Nat.lt_succ_self _⟩ ⟨Z,Z,Zt⟩ ⟨Z,Zt⟩ (kE1 Z Zt) (kL1 Z Zt))
theorem zo1 {S:Type} [MemLike S] {mt:TypeId} {mv:Value} {A:S->Assn} (hM:MemI Tryz.prog mt mv A) {l:Lay} (hl:l.Ok) {p:Pen} {σ:S} {x f c:Int} (hz:Room (9) σ:=by exact zaD):FnD Tryz.prog 275 [zbw l mt mv p,.int .i64 x,.int .i64 f,.int .i64 c] [A σ] (.tuple #[]) [A (setC l p σ x f c)]:=by
 refine Fn.enter (Tryz.func275) Z Z (fun w0 R=>?_)
 refine sA (xB 1 Z (fun bk1=>(dA (xL6 1 zaa Z Z (xmi Z (xmi Z (xmi Z (xD [0] (zk6 hM hl) zlY Z (dA ?_)))))))))
 refine xL6 1 zaa Z Z (xmi Z (xmi Z (xD [0] (zjs hM hl) zjO Z (TL.done (TQ.then (TC.draw (od [1,3,5,7,8,10]) [1] fc_m (by kernel_rfl) (xL6 1 zaa Z Z (xmi Z ?_))))))))
 refine xL6 1 zaa Z Z (xmi Z (xd [0] (zgg hM hl) zhY Z (kL1 Z Zt) (xd [0] (zg2 hM hl) zjL Z (kL1 Z Zt) (TL.done ?_))))
 refine FQ.end0 (Bs:=[A _]) [0] Z Z ⟨Z,Zt⟩ ?_
 exact ⟨Z,(by unfold setC zfQ; rfl)⟩
theorem zu2 {S:Type} [MemLike S] {mt:TypeId} {mv:Value} {A:S->Assn} (hM:MemI Tryz.prog mt mv A) {l:Lay} (hl:l.Ok) {p:Pen} {σ:S} {x n:Int} {r:Int×Int} {k:Nat} {σ2:S} (h:split l p k σ x n=some (r,σ2)) (hz:Room (12 * k) σ:=by exact zaD):FnD Tryz.prog 262 [zbw l mt mv p,.int .i64 x,.int .i64 n] [A σ] (.tuple #[.int .i64 r.1,.int .i64 r.2]) [A σ2]:=by
 induction k generalizing σ x n r σ2
 case zero=>simp [split] at h
 case succ k ih =>
  refine Fn.enter (Tryz.func262) Z Z (fun w0 R=>?_)
  refine sA (xB 1 Z (fun bk1=>(xai Z (xai Z (dB (xmi Z (TL.eql Z Z Z Z (fun q1=>?_) (fun q1=>?_))))))))
  refine dT Z (xai Z (xai Z (dRR ?_)))
  refine FQ.ret2 (v:=(.int _ _)) (x:=(.int _ _)) (Bs:=[A _]) [0] Z Z Z Z ⟨Z,Zt⟩ ?_
  rw [split,Zp q1] at h; cases h; exact ⟨rfl,rfl⟩
  refine dF Z (xL6 1 zaa Z Z (xmi Z (xD [0] (zea hM hl) zen Z (xai Z (dA (xL6 1 zaa Z Z (xmi Z (xD [0] (zlb hM hl) zlT Z ?_))))))))
  refine xai Z (dB (xmi Z (xmi Z (TL.leq Z Z Z Z (fun q2=>?_) (fun q2=>?_)))))
  refine dT Z (xL6 1 zaa Z Z (xmi Z (xmi Z ?_)))
  rw [split,Zn q1] at h
  dsimp only at h
  rw [Zp q2] at h
  obtain ⟨⟨ab,σ3⟩,h1,h9⟩:=Zb h
  refine xD [0] (ih h1 zaD) zod Z (xmu Z (xei Z Z (xei Z Z (xai Z (xai Z (dA (xL6 1 zaa Z Z (xmi Z ?_))))))))
  refine xmi Z (xD [0] (zo1 hM hl) zlS Z (dA (xmi Z (xmi Z (xai Z (xai Z (dRR ?_)))))))
  refine FQ.ret2 (v:=(.int _ _)) (x:=(.int _ _)) (Bs:=[A _]) [0] Z Z Z Z ⟨Z,Zt⟩ ?_
  cases h9; exact ⟨rfl,rfl⟩
  refine TL.done (TQ.then (TC.condF Z (TC.skip (TQ.then (TC.seq (TC.draw (od [1,3,5,9,11,13,15,6,16,19,21,23,25,27]) [1] fc_m (by kernel_rfl) (xL6 1 zaa Z Z (xL6 1 zaa Z Z ?_))))))))
  refine xmi Z (xmi Z (xmi Z (TL.sub _ Z Z (Z) Z Z (TL.sub _ Z Z (Z) Z Z (xd [0] (zea hM hl) zen Z (kL1 Z Zt) ?_)))))
  rw [split,Zn q1] at h
  dsimp only at h
  rw [Zn q2] at h
  obtain ⟨⟨ab,σ3⟩,h1,h9⟩:=Zb h
  refine xd [0] (ih h1 zaD) zod Z (kL1 Z Zt) (xmu Z (xei Z Z (xei Z Z (xai Z (xai Z (dA (xL6 1 zaa Z Z (xmi Z ?_))))))))
  refine xmi Z (xD [0] (zo1 hM hl) zlS Z (dA (xmi Z (xmi Z (xai Z (xai Z (dR ?_)))))))
  refine FQ.ret2 (v:=(.int _ _)) (x:=(.int _ _)) (Bs:=[A _]) [0] Z Z Z Z ⟨Z,Zt⟩ ?_
  cases h9; exact ⟨rfl,rfl⟩
theorem zc4 {S:Type} [MemLike S] {mt:TypeId} {mv:Value} {A:S->Assn} (hM:MemI Tryz.prog mt mv A) {l:Lay} (hl:l.Ok) {p:Pen} {σ:S} {x n:Int} {r:Int×Int} {k:Nat} {σ2:S} (h:zeb l p k σ x n=some (r,σ2)) (hz:Room (12 * k+5) σ:=by exact zaD):FnD Tryz.prog 244 [zbw l mt mv p,.int .i64 x,.int .i64 n] [A σ] (.tuple #[.int .i64 r.1,.int .i64 r.2]) [A σ2]:=by
 obtain ⟨⟨ab,σ3⟩,h1,h9⟩:=Zb h
 cases h9
 refine Fn.enter (Tryz.func244) Z Z (fun w0 R=>?_)
 refine sA (xB 1 Z (fun bk1=>(xai Z (xai Z (dS (TC.draw (od [1,3,5,7,9,11,12,15,16,19,21,23,25,27]) [1] fc_m (by kernel_rfl) (xL6 1 zaa Z Z (xmi Z (xmi Z ?_)))))))))
 refine TL.max2 Z Z Z Z (xL6 1 zaa Z Z (xmi Z (xd [0] (zlb hM hl) zlT Z (kL1 Z Zt) (TL.min2 Z Z Z Z (xd [0] (zu2 hM hl h1) zod Z (kL1 Z Zt) (xmu Z (xei Z Z (xei Z Z ?_))))))))
 refine xai Z (xai Z (dA (xL6 1 zaa Z Z (xmi Z (xD [0] (zjs hM hl) zjO Z (dA (xL6 1 zaa Z Z (xmi Z ?_))))))))
 refine xD [0] (zjs hM hl) zjO Z (dA (xmi Z (xmi Z (xai Z (xai Z (dR ?_))))))
 refine FQ.ret2 (v:=(.int _ _)) (x:=(.int _ _)) (Bs:=[A _]) [0] Z Z Z Z ⟨Z,Zt⟩ ?_
 exact ⟨Z,Z⟩
theorem zwe {S:Type} [MemLike S] {mt:TypeId} {mv:Value} {A:S->Assn} (hM:MemI Tryz.prog mt mv A) {l:Lay} (hl:l.Ok) {p:Pen} {σ:S} {x y:Int} (hz:Room (2) σ:=by exact zaD):FnD Tryz.prog 274 [zbw l mt mv p,.int .i64 x,.int .i64 y] [A σ] (.bool (above l σ x y)) [A (zkZ l σ x y)]:=by
 refine Fn.enter (Tryz.func274) Z Z (fun w0 R=>?_)
 refine sA (xB 1 Z (fun bk1=>(xaf Z (dS (TC.draw (od [1,3,5,7,9,13,15,19,21,23,25,27,31,33,10,16,28,34,37,39]) [1] fc_m (by kernel_rfl) (xf 3 zbi Z (xlc 1 zbv Z Z (xf 0 zaH Z (xL3 1 zab Z Z ?_)))))))))
 refine xmi Z (TL.ncI Z Z Z (xmc Z (xf 3 zbi Z (xlc 1 zbv Z Z (xf 0 zaH Z (xL3 1 zab Z Z (xmi Z (TL.ncI Z Z Z ?_))))))))
 refine xmc Z (xd [] (zbc hl) zcq Z (kL1 Z Zt) (TL.mload 0 hM Z Z Z Z Z (kL1 Z Zt) (xd [] (zbc hl) zcq Z (kL1 Z Zt) (TL.mload 0 hM Z Z Z Z Z (kL1 Z Zt) (xai Z (xai Z (dA (xmi Z ?_))))))))
 refine xmi Z (TL.gtr Z Z Z Z (fun q1=>?_) (fun q1=>?_))
 refine xmt Z (xo Z (xo Z (xo Z (xo Z (xo Z (xo Z (xo Z (xo Z ?_))))))))
 refine xpT Z (xat Z (dR ?_))
 refine FQ.ret1 (v:=(.bool true)) (Bs:=[A _]) [0] Z Z Z ⟨Z,Zt⟩ ?_
 first | exact ⟨(by unfold above; dsimp only; rw [Zp q1]),Z⟩ | exact ⟨(by unfold above; dsimp only; rw [Zn q1,Zp q2]),Z⟩ | exact ⟨(by unfold above; dsimp only; rw [Zn q1,Zn q2]),Z⟩
 refine xmf Z (xmi Z (xmi Z (TL.eql Z Z Z Z (fun q2=>?_) (fun q2=>?_))))
 refine xmt Z (xmi Z (xmi Z (TL.lssV Z Z Z Z (TL.pickT (.bool _) Z Z Z Z (TL.pickF (.bool _) Z Z Z Z (xab Z (dR ?_)))))))
 refine FQ.ret1 (v:=(.bool _)) (Bs:=[A _]) [0] Z Z Z ⟨Z,Zt⟩ ?_
 first | exact ⟨(by unfold above; dsimp only; rw [Zp q1]),Z⟩ | exact ⟨(by unfold above; dsimp only; rw [Zn q1,Zp q2]),Z⟩ | exact ⟨(by unfold above; dsimp only; rw [Zn q1,Zn q2]),Z⟩
 refine xmf Z (xo Z (xo Z (xo Z (xpF Z (xpF Z (xaf Z (dR ?_)))))))
 refine FQ.ret1 (v:=(.bool false)) (Bs:=[A _]) [0] Z Z Z ⟨Z,Zt⟩ ?_
 first | exact ⟨(by unfold above; dsimp only; rw [Zp q1]),Z⟩ | exact ⟨(by unfold above; dsimp only; rw [Zn q1,Zp q2]),Z⟩ | exact ⟨(by unfold above; dsimp only; rw [Zn q1,Zn q2]),Z⟩
theorem zvz {S:Type} [MemLike S] {mt:TypeId} {mv:Value} {A:S->Assn} (hM:MemI Tryz.prog mt mv A) {l:Lay} (hl:l.Ok) {p:Pen} {σ:S} {a b r:Int} {k:Nat} {σ2:S} (h:merge l p k σ a b=some (r,σ2)) (hz:Room (12 * k) σ:=by exact zaD):FnD Tryz.prog 258 [zbw l mt mv p,.int .i64 a,.int .i64 b] [A σ] (.int .i64 r) [A σ2]:=by
 induction k generalizing σ a b r σ2
 case zero=>simp [merge] at h
 case succ k ih =>
  refine Fn.enter (Tryz.func258) Z Z (fun w0 R=>?_)
  refine sA (xB 1 Z (fun bk1=>(xai Z (dS (TC.block (sA (xmi Z (TL.eql Z Z Z Z (fun q1=>?_) (fun q1=>?_)))))))))
  refine xat Z (dT Z (xmi Z (xai Z (dR (TQ.blockRet (TQ.thenRet ?_))))))
  refine FQ.ret1 (v:=(.int _ _)) (Bs:=[A _]) [0] Z Z Z ⟨Z,Zt⟩ ?_
  rw [merge,Zp q1] at h; cases h; exact ⟨rfl,rfl⟩
  refine xaf Z (TL.done (TQ.then (TC.condF Z (sA (xmi Z (TL.eql Z Z Z Z (fun q2=>?_) (fun q2=>?_)))))))
  refine xat Z (dT Z (xmi Z (xai Z (dR (TQ.blockRet (TQ.thenRet ?_))))))
  refine FQ.ret1 (v:=(.int _ _)) (Bs:=[A _]) [0] Z Z Z ⟨Z,Zt⟩ ?_
  rw [merge,Zn q1,Zp q2] at h; cases h; exact ⟨rfl,rfl⟩
  refine xaf Z (TL.done (TQ.then (TC.condF Z (sA (xL6 1 zaa Z Z (xmi Z (xmi Z (xD [0] (zwe hM hl) zyL Z ?_))))))))
  refine TL.cases rfl (fun q3=>?_) (fun q3=>?_)
  refine xat Z (TL.done (TQ.then (TC.condT Z (TC.seq (TC.draw (od [1,3,5,7,9,13,10,14,16]) [1] fc_m (by kernel_rfl) (xL6 1 zaa Z Z (xmi Z (xL6 1 zaa Z Z ?_))))))))
  refine xL6 1 zaa Z Z (xmi Z (xmi Z (xd [0] (zea hM hl) zen Z (kL1 Z Zt) ?_)))
  rw [merge,Zn q1,Zn q2] at h
  dsimp only at h
  rw [Zp q3] at h
  obtain ⟨⟨c,σ3⟩,h1,h9⟩:=Zb h
  refine xd [0] (ih h1 zaD) zoe Z (kL1 Z Zt) (xd [0] (zo1 hM hl) zlS Z (kL1 Z Zt) (dA (xmi Z (xai Z (dR (TQ.blockRet (TQ.thenRet ?_)))))))
  refine FQ.ret1 (v:=(.int _ _)) (Bs:=[A _]) [0] Z Z Z ⟨Z,Zt⟩ ?_
  cases h9; exact ⟨rfl,rfl⟩
  refine xaf Z (TL.done (TQ.then (TC.condF Z (TC.skip (TQ.inBlock (TQ.then (TC.seq (TC.draw (od [1,3,5,7,9,11,12,14,16]) [1] fc_m (by kernel_rfl) ?_))))))))
  refine xL6 1 zaa Z Z (xmi Z (xL6 1 zaa Z Z (xmi Z (xL6 1 zaa Z Z (xmi Z (xd [0] (zea hM hl) zen Z (kL1 Z Zt) ?_))))))
  rw [merge,Zn q1,Zn q2] at h
  dsimp only at h
  rw [Zn (by rw [q3]; decide)] at h
  obtain ⟨⟨c,σ3⟩,h1,h9⟩:=Zb h
  refine xd [0] (ih h1 zaD) zoe Z (kL1 Z Zt) (xd [0] (zo1 hM hl) zlS Z (kL1 Z Zt) (dA (xmi Z (xai Z (dR ?_)))))
  refine FQ.ret1 (v:=(.int _ _)) (Bs:=[A _]) [0] Z Z Z ⟨Z,Zt⟩ ?_
  cases h9; exact ⟨rfl,rfl⟩
theorem zeR {S:Type} [MemLike S] {mt:TypeId} {mv:Value} {A:S->Assn} (hM:MemI Tryz.prog mt mv A) {l:Lay} (hl:l.Ok) {p:Pen} {σ:S} {a b r:Int} {k:Nat} {σ2:S} (h:zei l p k σ a b=some (r,σ2)) (hz:Room (12 * k+2) σ:=by exact zaD):FnD Tryz.prog 239 [zbw l mt mv p,.int .i64 a,.int .i64 b] [A σ] (.int .i64 r) [A σ2]:=by
 obtain ⟨⟨c,σ3⟩,h1,h9⟩:=Zb h
 cases h9
 refine Fn.enter (Tryz.func239) Z Z (fun w0 R=>?_)
 refine sA (xB 1 Z (fun bk1=>(xai Z (dA (xL6 1 zaa Z Z (xmi Z (xmi Z (xD [0] (zvz hM hl h1) zoe Z (xai Z ?_)))))))))
 refine dA (xL6 1 zaa Z Z (xmi Z (xD [0] (zjs hM hl) zjO Z (dA (xmi Z (xai Z (dR ?_)))))))
 refine FQ.ret1 (v:=(.int _ _)) (Bs:=[A _]) [0] Z Z Z ⟨Z,Zt⟩ ?_
 exact ⟨Z,Z⟩
theorem zsm {S:Type} [MemLike S] {mt:TypeId} {mv:Value} {A:S->Assn} (hM:MemI Tryz.prog mt mv A) {l:Lay} (hl:l.Ok) {p:Pen} {σ:S} {x m:Int} {k:Nat} {σ2:S} (h0:0<=m) (h:zgq l k σ x m true=some σ2) (hz:Room (7 * k+7) σ:=by exact zaD):FnD Tryz.prog 241 [zbw l mt mv p,.int .i64 x,.int .i64 m,.bool true] [A σ] (.tuple #[]) [A σ2]:=by
 unfold zgq at h
 dsimp only [zkd] at h
 simp only [if_true,Bool.false_eq_true,if_false] at h
 refine Fn.enter (Tryz.func241) Z Z (fun w0 R=>?_)
 refine sA (xB 1 Z (fun bk1=>(dS (TC.draw (od [1,3,7,9,4,11,13]) [1] fc_m (by kernel_rfl) (xL6 1 zaa Z Z (xmi Z (xmi Z (TL.shl _ Z Z (by omega) Z Z Z (xd [0] (zgg hM hl) zhY Z (kL1 Z Zt) ?_)))))))))
 refine TL.andNot _ Z Z Z Z Z (xai Z (dB (xmt Z (TL.done (TQ.then (TC.condT Z (TC.region (xmi Z ?_))))))))
 refine xmi Z (TL.shl _ Z Z (by omega) Z Z Z (TL.or _ Z Z Z Z Z (xai Z (dA (xL6 1 zaa Z Z (xmi Z (xmi Z (xD [0] (zg2 hM hl) zjL Z ?_))))))))
 refine dA (xL6 1 zaa Z Z (xmi Z (xD [0] (zeP hM hl) zh2 Z (xai Z (dK (TC.loopK (X:=Nat×S×Int) [4] [1] (fun y=>[(9,.int .i64 y.2.2)]) (fun y=>[(0,A y.2.1)]) (fun y=>zbO l y.1 y.2.1 y.2.2=some σ2/\Room (7 * y.1) y.2.1) (fun y=>y.1) ((k,_,_)) ⟨h,zaD⟩ ⟨Z,Zt⟩ ⟨Z,Zt⟩ (fun y hI=>?_)))))))
 obtain ⟨k,σ1,z⟩:=y
 obtain ⟨hI,hzI⟩:=hI
 rcases k with _ | k
 ·simp [zbO] at hI
 dsimp only at hI hzI
 refine TC.sub (env':=[(9,_),(4,_)]) (L':=[(0,_),(1,_)]) ⟨Z,Z,Zt⟩ ⟨Z,Z,Zt⟩ (sB (xmi Z (TL.neq Z Z Z Z (fun q1=>?_) (fun q1=>?_))))
 refine TL.done (TQ.then (TC.condT Z (TC.skip (TQ.then (TC.seq (TC.block (TC.draw (od [1,3,5,7,8,10]) [1] fc_m (by kernel_rfl) (xL6 1 zaa Z Z ?_))))))))
 refine xmi Z (xL6 1 zaa Z Z (xmi Z (xd [0] (zgg hM hl) zhY Z (kL1 Z Zt) (xd [0] (zg2 hM hl) zjL Z (kL1 Z Zt) (dI (xL6 1 zaa Z Z (xmi Z (xD [0] (zeP hM hl) zh2 Z ?_))))))))
 refine xai Z (TL.done (TQ.roundK ((k,_,_)) ⟨⟨(by rw [zbO,Zp q1] at hI; exact hI),zaD⟩,Nat.lt_succ_self _⟩ ⟨Z,Zt⟩ ⟨Z,Zt⟩ (kE1 Z Zt) (kL1 Z Zt)))
 refine TL.done (TQ.then (TC.condF Z (TC.exit (TQ.thenExit (TQ.thenExit (TQ.blockHere ?_))))))
 refine FQ.end0 (Bs:=[A _]) [0] Z Z ⟨Z,Zt⟩ ?_
 rw [zbO,Zn q1] at hI; cases hI; exact ⟨rfl,rfl⟩
theorem zqy {S:Type} [MemLike S] {mt:TypeId} {mv:Value} {A:S->Assn} (hM:MemI Tryz.prog mt mv A) {l:Lay} (hl:l.Ok) {p:Pen} {σ:S} {x m:Int} {k:Nat} {σ2:S} (h0:0<=m) (h:zgq l k σ x m false=some σ2) (hz:Room (7 * k+7) σ:=by exact zaD):FnD Tryz.prog 241 [zbw l mt mv p,.int .i64 x,.int .i64 m,.bool false] [A σ] (.tuple #[]) [A σ2]:=by
 unfold zgq at h
 dsimp only [zkd] at h
 simp only [if_true,Bool.false_eq_true,if_false] at h
 refine Fn.enter (Tryz.func241) Z Z (fun w0 R=>?_)
 refine sA (xB 1 Z (fun bk1=>(dS (TC.draw (od [1,3,7,9,4,11,13]) [1] fc_m (by kernel_rfl) (xL6 1 zaa Z Z (xmi Z (xmi Z (TL.shl _ Z Z (by omega) Z Z Z (xd [0] (zgg hM hl) zhY Z (kL1 Z Zt) ?_)))))))))
 refine TL.andNot _ Z Z Z Z Z (xai Z (dB (xmf Z (dF Z (xL6 1 zaa Z Z (xmi Z (xmi Z (xD [0] (zg2 hM hl) zjL Z ?_))))))))
 refine dA (xL6 1 zaa Z Z (xmi Z (xD [0] (zeP hM hl) zh2 Z (xai Z (dK (TC.loopK (X:=Nat×S×Int) [4] [1] (fun y=>[(9,.int .i64 y.2.2)]) (fun y=>[(0,A y.2.1)]) (fun y=>zbO l y.1 y.2.1 y.2.2=some σ2/\Room (7 * y.1) y.2.1) (fun y=>y.1) ((k,_,_)) ⟨h,zaD⟩ ⟨Z,Zt⟩ ⟨Z,Zt⟩ (fun y hI=>?_)))))))
 obtain ⟨k,σ1,z⟩:=y
 obtain ⟨hI,hzI⟩:=hI
 rcases k with _ | k
 ·simp [zbO] at hI
 dsimp only at hI hzI
 refine TC.sub (env':=[(9,_),(4,_)]) (L':=[(0,_),(1,_)]) ⟨Z,Z,Zt⟩ ⟨Z,Z,Zt⟩ (sB (xmi Z (TL.neq Z Z Z Z (fun q1=>?_) (fun q1=>?_))))
 refine TL.done (TQ.then (TC.condT Z (TC.skip (TQ.then (TC.seq (TC.block (TC.draw (od [1,3,5,7,8,10]) [1] fc_m (by kernel_rfl) (xL6 1 zaa Z Z ?_))))))))
 refine xmi Z (xL6 1 zaa Z Z (xmi Z (xd [0] (zgg hM hl) zhY Z (kL1 Z Zt) (xd [0] (zg2 hM hl) zjL Z (kL1 Z Zt) (dI (xL6 1 zaa Z Z (xmi Z (xD [0] (zeP hM hl) zh2 Z ?_))))))))
 refine xai Z (TL.done (TQ.roundK ((k,_,_)) ⟨⟨(by rw [zbO,Zp q1] at hI; exact hI),zaD⟩,Nat.lt_succ_self _⟩ ⟨Z,Zt⟩ ⟨Z,Zt⟩ (kE1 Z Zt) (kL1 Z Zt)))
 refine TL.done (TQ.then (TC.condF Z (TC.exit (TQ.thenExit (TQ.thenExit (TQ.blockHere ?_))))))
 refine FQ.end0 (Bs:=[A _]) [0] Z Z ⟨Z,Zt⟩ ?_
 rw [zbO,Zn q1] at hI; cases hI; exact ⟨rfl,rfl⟩
theorem zsn {S:Type} [MemLike S] {mt:TypeId} {mv:Value} {A:S->Assn} (hM:MemI Tryz.prog mt mv A) {l:Lay} (hl:l.Ok) {p:Pen} {σ:S} {x m:Int} {on:Bool} {k:Nat} {σ2:S} (h0:0<=m) (h:zgq l k σ x m on=some σ2) (hz:Room (7 * k+7) σ:=by exact zaD):FnD Tryz.prog 241 [zbw l mt mv p,.int .i64 x,.int .i64 m,.bool on] [A σ] (.tuple #[]) [A σ2]:=by
 cases on
 ·exact zqy hM hl h0 h
 ·exact zsm hM hl h0 h
theorem zmK {S:Type} [MemLike S] {mt:TypeId} {mv:Value} {A:S->Assn} (hM:MemI Tryz.prog mt mv A) {l:Lay} (hl:l.Ok) {p:Pen} {σ:S} {x m:Int} (h0:0<=m) (hz:Room (1) σ:=by exact zaD):FnD Tryz.prog 257 [zbw l mt mv p,.int .i64 x,.int .i64 m] [A σ] (.bool (marked l σ x m)) [A (zfQ l σ x)]:=by
 refine Fn.enter (Tryz.func257) Z Z (fun w0 R=>?_)
 refine sA (xB 1 Z (fun bk1=>(xaf Z (dA (xL6 1 zaa Z Z (xmi Z (xD [0] (zgg hM hl) zhY Z (xmi Z (TL.shr _ Z Z (by omega) Z Z Z ?_)))))))))
 refine TL.and _ Z Z Z Z Z (TL.eqlV Z Z Z Z (xab Z (dR ?_)))
 refine FQ.ret1 (v:=(.bool _)) (Bs:=[A _]) [0] Z Z Z ⟨Z,Zt⟩ ?_
 exact ⟨Z,Z⟩
theorem zwO {S:Type} [MemLike S] {mt:TypeId} {mv:Value} {A:S->Assn} (hM:MemI Tryz.prog mt mv A) {l:Lay} (hl:l.Ok) {p:Pen} {σ:S} {x m:Int} (h0:0<=m) (hz:Room (1) σ:=by exact zaD):FnD Tryz.prog 278 [zbw l mt mv p,.int .i64 x,.int .i64 m] [A σ] (.bool (has l σ x m)) [A (zb5 l σ x)]:=by
 refine Fn.enter (Tryz.func278) Z Z (fun w0 R=>?_)
 refine sA (xB 1 Z (fun bk1=>(xaf Z (dA (xL6 1 zaa Z Z (xmi Z (xD [0] (zi2 hM hl) zjK Z (TL.shr _ Z Z (by decide) Z Z Z (xmi Z ?_)))))))))
 refine TL.shr _ Z Z (by omega) Z Z Z (TL.and _ Z Z Z Z Z (TL.eqlV Z Z Z Z (xab Z (dR ?_))))
 refine FQ.ret1 (v:=(.bool _)) (Bs:=[A _]) [0] Z Z Z ⟨Z,Zt⟩ ?_
 exact ⟨Z,Z⟩
theorem zvP {S:Type} [MemLike S] {mt:TypeId} {mv:Value} {A:S->Assn} (hM:MemI Tryz.prog mt mv A) {l:Lay} (hl:l.Ok) {p:Pen} {σ:S} {x m r:Int} {k:Nat} {σ2:S} (h0:0<=m) (h:first l k σ x m=some (r,σ2)) (hz:Room (4 * k+1) σ:=by exact zaD):FnD Tryz.prog 264 [zbw l mt mv p,.int .i64 x,.int .i64 m] [A σ] (.int .i64 r) [A σ2]:=by
 unfold first at h
 refine Fn.enter (Tryz.func264) Z Z (fun w0 R=>?_)
 refine sA (xB 1 Z (fun bk1=>(xai Z (dA (xmi Z (xai Z (dB (xL6 1 zaa Z Z (xmi Z ?_)))))))))
 refine xmi rfl (xD [0] (zwO hM hl h0) ztc rfl (TL.cases rfl (fun q1=>?_) (fun q1=>?_)))
 refine xnt Z (TL.done (TQ.then (TC.condF Z (TC.skip (TQ.then (TC.block (TC.loopK (X:=Nat×S×Int) [2,3] [1] (fun y=>[(7,.int .i64 y.2.2)]) (fun y=>[(0,A y.2.1)]) (fun y=>zcO l m y.1 y.2.1 y.2.2=some (r,σ2)/\Room (4 * y.1) y.2.1) (fun y=>y.1) ((k,zb5 l σ x,x)) ⟨(by rw [Zp q1] at h; exact h),zaD⟩ ⟨Z,Zt⟩ ⟨Z,Zt⟩ (fun y hI=>?_))))))))
 obtain ⟨k,σ1,z⟩:=y
 obtain ⟨hI,hzI⟩:=hI
 rcases k with _ | k
 ·simp [zcO] at hI
 dsimp only at hI hzI
 refine TC.sub (env':=[(7,_),(2,_),(3,_)]) (L':=[(0,_),(1,_)]) ⟨Z,Z,Z,Zt⟩ ⟨Z,Z,Zt⟩ (TC.block (sA (xL6 1 zaa Z Z (xmi Z (xD [0] (zea hM hl) zen Z (xai Z (dK (sA ?_))))))))
 refine xL6 1 zaa rfl rfl (xmi rfl (xmi rfl (xD [0] (zwO hM hl h0) ztc rfl (TL.cases rfl (fun q2=>?_) (fun q2=>?_)))))
 refine xat Z (TL.done (TQ.then (TC.condT Z (TC.region (xmi Z (xai Z (TL.done (TQ.inBlock ?_))))))))
 refine TQ.inBlock (TQ.roundK ((k,zb5 l (zdY l σ1 z 3) (tget l σ1 z 3),_)) ⟨⟨(by rw [zcO] at hI; dsimp only at hI; rw [Zp q2] at hI; exact hI),zaD⟩,Nat.lt_succ_self _⟩ ⟨Z,Zt⟩ ⟨Z,Zt⟩ (kE2 Z Z Zt) (kL1 Z Zt))
 refine xaf Z (TL.done (TQ.then (TC.condF Z (sA (xL6 1 zaa Z Z (xmi Z (xmi Z (xD [0] (zmK hM hl h0) zte Z ?_))))))))
 refine TL.cases rfl (fun q3=>?_) (fun q3=>?_)
 refine xat Z (dT Z (xmi Z (xai Z (dR (TQ.blockRet (TQ.blockRet (TQ.thenRet (TQ.blockRet ?_))))))))
 refine FQ.ret1 (v:=(.int _ _)) (Bs:=[A _]) [0] Z Z Z ⟨Z,Zt⟩ ?_
 rw [zcO] at hI; dsimp only at hI; rw [Zn (by rw [q2]; decide),Zp q3] at hI; cases hI; exact ⟨rfl,rfl⟩
 refine xaf Z (TL.done (TQ.then (TC.condF Z (TC.region (xL6 1 zaa Z Z (xmi Z (xD [0] (zea hM hl) zen Z (xai Z ?_))))))))
 refine TL.done (TQ.inBlock (TQ.inBlock (TQ.roundK ((k,zdY l (zb5 l (zb5 l (zdY l σ1 z 3) (tget l σ1 z 3)) z) z 4,_)) ⟨⟨(by rw [zcO] at hI; dsimp only at hI; rw [Zn (by rw [q2]; decide),Zn (by rw [q3]; decide)] at hI; exact hI),zaD⟩,Nat.lt_succ_self _⟩ ⟨Z,Zt⟩ ⟨Z,Zt⟩ (kE2 Z Z Zt) (kL1 Z Zt))))
 refine xnf Z (dT Z (xai Z (dRR ?_)))
 refine FQ.ret1 (v:=(.int _ _)) (Bs:=[A _]) [0] Z Z Z ⟨Z,Zt⟩ ?_
 rw [Zn (by rw [q1]; decide)] at h; cases h; exact ⟨rfl,rfl⟩
theorem zp1 {S:Type} [MemLike S] {mt:TypeId} {mv:Value} {A:S->Assn} (hM:MemI Tryz.prog mt mv A) {l:Lay} (hl:l.Ok) {p:Pen} {σ:S} {i u r:Int} {k:Nat} {σ2:S} (h:ze5 l p k σ i u=some (r,σ2)) (hz:Room (29 * k+9) σ:=by exact zaD):FnD Tryz.prog 240 [zbw l mt mv p,.int .i64 i,.int .i64 u] [A σ] (.int .i64 r) [A σ2]:=by
 unfold ze5 at h
 dsimp only at h
 obtain ⟨⟨a,σa⟩,h1,h⟩:=Zb h
 obtain ⟨⟨j,σb⟩,h2,h⟩:=Zb h
 obtain ⟨⟨s,σc⟩,h3,h4⟩:=Zb h
 dsimp only at h1 h2 h3 h4
 refine Fn.enter (Tryz.func240) Z Z (fun w0 R=>?_)
 refine sA (xB 1 Z (fun bk1=>(xai Z (dA (xf 0 zak Z (xf 0 zaH Z (xL3 1 zab Z Z (xmi Z (xmi Z ?_)))))))))
 refine xD [] (zc0 hl) zfu Z (xai Z (dS (TC.draw (od [1,3,5,7,9,13,15,17,10,18,20,23,25,27,29,31]) [1] fc_m (by kernel_rfl) (xf 0 zak Z (xL6 1 zaa Z Z (xf 0 zak Z (xL6 1 zaa Z Z (xmi Z ?_))))))))
 refine xf 0 zak Z (xL6 1 zaa Z Z (xmi Z (xd [0] (zfb hM hl h1) zft Z (kL1 Z Zt) (xd [0] (zlE hM hl h2) zof Z (kL1 Z Zt) (xd [0] (zc4 hM hl h3) zfr Z (kL1 Z Zt) (xmu Z (xei Z Z (xei Z Z ?_))))))))
 refine xai Z (xai Z (dA (xf 0 zak Z (xL6 1 zaa Z Z (xmi Z (xmi Z (xD [0] (zeR hM hl h4) zh0 Z (xai Z ?_))))))))
 refine dR ?_
 refine FQ.ret1 (v:=(.int _ _)) (Bs:=[A _]) [0] Z Z Z ⟨Z,Zt⟩ ?_
 exact ⟨Z,Z⟩
theorem zrz {S:Type} [MemLike S] {mt:TypeId} {mv:Value} {A:S->Assn} (hM:MemI Tryz.prog mt mv A) {l:Lay} (hl:l.Ok) {p:Pen} {σ:S} {i u v:Int} {b:Bool} {k:Nat} {σ2:S} (h:same l k σ i u v=some (b,σ2)) (hz:Room (2 * k) σ:=by exact zaD):FnD Tryz.prog 202 [zbw l mt mv p,.int .i64 i,.int .i64 u,.int .i64 v] [A σ] (.bool b) [A σ2]:=by
 unfold same at h
 obtain ⟨⟨a,σa⟩,h1,h⟩:=Zb h
 obtain ⟨⟨c,σb⟩,h2,h⟩:=Zb h
 dsimp only at h1 h2 h
 cases h
 refine Fn.enter (Tryz.func202) Z Z (fun w0 R=>?_)
 refine sA (xB 1 Z (fun bk1=>(xaf Z (dS (TC.draw (od [1,3,5,7,9,11,13,19,21,23,25,27,29,31,14,16,32,34,37,39]) [1] fc_m (by kernel_rfl) (xf 0 zak Z (xL6 1 zaa Z Z (xf 0 zak Z (xf 0 zaH Z ?_)))))))))
 refine xL3 1 zab Z Z (xmi Z (xmi Z (xf 0 zak Z (xL6 1 zaa Z Z (xf 0 zak Z (xf 0 zaH Z (xL3 1 zab Z Z (xmi Z ?_))))))))
 refine xmi Z (xd [] (zc0 hl) zfu Z (kL1 Z Zt) (xd [0] (zfb hM hl h1) zft Z (kL1 Z Zt) (xd [] (zc0 hl) zfu Z (kL1 Z Zt) (xd [0] (zfb hM hl h2) zft Z (kL1 Z Zt) (TL.eqlV Z Z Z Z (xab Z (dR ?_)))))))
 refine FQ.ret1 (v:=(.bool _)) (Bs:=[A _]) [0] Z Z Z ⟨Z,Zt⟩ ?_
 exact ⟨Z,Z⟩
theorem zpU {S:Type} [MemLike S] {mt:TypeId} {mv:Value} {A:S->Assn} (hM:MemI Tryz.prog mt mv A) {l:Lay} (hl:l.Ok) {p:Pen} {σ:S} {i u r:Int} {k:Nat} {σ2:S} (h:count l k σ i u=some (r,σ2)) (hz:Room (k+1) σ:=by exact zaD):FnD Tryz.prog 245 [zbw l mt mv p,.int .i64 i,.int .i64 u] [A σ] (.int .i64 r) [A σ2]:=by
 unfold count at h
 obtain ⟨⟨a,σa⟩,h1,h⟩:=Zb h
 dsimp only at h1 h
 cases h
 refine Fn.enter (Tryz.func245) Z Z (fun w0 R=>?_)
 refine sA (xB 1 Z (fun bk1=>(xai Z (dS (TC.draw (od [1,3,5,7,9,11,13,15,17,18,20,22,25]) [1] fc_m (by kernel_rfl) (xf 0 zak Z (xL6 1 zaa Z Z (xf 0 zak Z (xL6 1 zaa Z Z ?_)))))))))
 refine xf 0 zak Z (xf 0 zaH Z (xL3 1 zab Z Z (xmi Z (xmi Z (xd [] (zc0 hl) zfu Z (kL1 Z Zt) (xd [0] (zfb hM hl h1) zft Z (kL1 Z Zt) (xd [0] (zuN hM hl) zyN Z (kL1 Z Zt) (xai Z ?_))))))))
 refine dR ?_
 refine FQ.ret1 (v:=(.int _ _)) (Bs:=[A _]) [0] Z Z Z ⟨Z,Zt⟩ ?_
 exact ⟨Z,Z⟩
theorem zp4 {mt:TypeId} {mv:Value} {l:Lay} (hl:l.Ok) {p:Pen} {i s:Int}:FnD Tryz.prog 238 [zbw l mt mv p,.int .i64 i,.int .i64 s] [] (.tuple #[.int .i64 (l.arc s i 0),.int .i64 (l.arc s i 1)]) []:=by
 refine Fn.enter (Tryz.func238) Z Z (fun w0 R=>?_)
 refine sA (xB 0 Z (fun bk0=>(xai Z (xai Z (dS (TC.draw (od [1,3,5,7,9,13,15,17,19,21,10,22,25,27]) [0] fc_m (by kernel_rfl) (xf 0 zak Z (xf 0 zaH Z (xL3 0 zab Z Z ?_)))))))))
 refine xmi Z (xmi Z (xf 0 zak Z (xf 0 zaH Z (xL3 0 zab Z Z (xmi Z (xmi Z (xd [] (zuv hl) zog Z (kL1 Z Zt) (xd [] (zuv hl) zog Z (kL1 Z Zt) ?_))))))))
 refine xai Z (xai Z (dR ?_))
 refine FQ.ret2 (v:=(.int _ _)) (x:=(.int _ _)) (Bs:=[]) [] Z Z Z Z Zt ?_
 exact ⟨Z,Z⟩
theorem zsA {S:Type} [MemLike S] {mt:TypeId} {mv:Value} {A:S->Assn} (hM:MemI Tryz.prog mt mv A) {l:Lay} (hl:l.Ok) {p:Pen} {σ:S} {i s u v r:Int} {k:Nat} {σ2:S} (h:link l p k σ i s u v=some (r,σ2)) (hz:Room (94 * k+24) σ:=by exact zaD):FnD Tryz.prog 208 [zbw l mt mv p,.int .i64 i,.int .i64 s,.int .i64 u,.int .i64 v] [A σ] (.int .i64 r) [A σ2]:=by
 unfold link at h
 obtain ⟨⟨a,σa⟩,h1,h⟩:=Zb h
 obtain ⟨⟨x,σb⟩,h2,h⟩:=Zb h
 obtain ⟨⟨b,σc⟩,h3,h⟩:=Zb h
 obtain ⟨⟨y,σd⟩,h4,h5⟩:=Zb h
 dsimp only at h1 h2 h3 h4 h5
 refine Fn.enter (Tryz.func208) Z Z (fun w0 R=>?_)
 refine sA (xB 1 Z (fun bk1=>(xai Z (dA (xL6 1 zbV Z Z (xmi Z (xmi Z (xD [] (zp4 hl) zti Z (xmu Z ?_)))))))))
 refine xei Z Z (xei Z Z (xai Z (xai Z (dS (TC.draw (od [1,3,5,7,9,13,10,14,17]) [1] fc_m (by kernel_rfl) (xf 0 zak Z (xL6 1 zaa Z Z (xL6 1 zbV Z Z ?_))))))))
 refine xmi Z (xmi Z (xmi Z (xd [0] (zp1 hM hl h1) zth Z (kL1 Z Zt) (xd [0] (zeR hM hl h2) zh0 Z (kL1 Z Zt) (xai Z (dS (TC.draw (od [1,3,5,7,9,11,12,14,17]) [1] fc_m (by kernel_rfl) (xf 0 zak Z ?_))))))))
 refine xL6 1 zaa Z Z (xmi Z (xL6 1 zbV Z Z (xmi Z (xmi Z (xd [0] (zp1 hM hl h3) zth Z (kL1 Z Zt) (xd [0] (zeR hM hl h4) zh0 Z (kL1 Z Zt) (xai Z (dA ?_))))))))
 refine xf 0 zak Z (xL6 1 zaa Z Z (xmi Z (xmi Z (xD [0] (zeR hM hl h5) zh0 Z (xai Z (dR ?_))))))
 refine FQ.ret1 (v:=(.int _ _)) (Bs:=[A _]) [0] Z Z Z ⟨Z,Zt⟩ ?_
 exact ⟨Z,Z⟩
theorem zAU {S:Type} [MemLike S] {mt:TypeId} {mv:Value} {A:S->Assn} (hM:MemI Tryz.prog mt mv A) {l:Lay} (hl:l.Ok) {p:Pen} {σ:S} {i s:Int} {r:Int×Int} {k:Nat} {σ2:S} (h:cut l p k σ i s=some (r,σ2)) (hz:Room (69 * k+36) σ:=by exact zaD):FnD Tryz.prog 212 [zbw l mt mv p,.int .i64 i,.int .i64 s] [A σ] (.tuple #[.int .i64 r.1,.int .i64 r.2]) [A σ2]:=by
 unfold cut at h
 dsimp only at h
 obtain ⟨⟨i0,σa⟩,h1,h⟩:=Zb h
 obtain ⟨⟨j0,σb⟩,h2,h⟩:=Zb h
 obtain ⟨⟨rt,σc⟩,h3,h⟩:=Zb h
 obtain ⟨⟨s1,σd⟩,h4,h⟩:=Zb h
 obtain ⟨⟨s2,σe⟩,h5,h⟩:=Zb h
 obtain ⟨⟨s3,σf⟩,h6,h⟩:=Zb h
 obtain ⟨⟨s4,σg⟩,h7,h⟩:=Zb h
 obtain ⟨⟨m,σh⟩,h8,h9⟩:=Zb h
 dsimp only at h1 h2 h3 h4 h5 h6 h7 h8 h9
 cases h9
 refine Fn.enter (Tryz.func212) Z Z (fun w0 R=>?_)
 refine sA (xB 1 Z (fun bk1=>(xai Z (xai Z (dA (xL6 1 zbV Z Z (xmi Z (xmi Z (xD [] (zp4 hl) zti Z ?_)))))))))
 refine xmu Z (xei Z Z (xei Z Z (xai Z (xai Z (dS (TC.draw (od [1,3,5,9,11,13,6,14,17,19]) [1] fc_m (by kernel_rfl) (xf 0 zak Z (xL6 1 zaa Z Z ?_))))))))
 refine xmi Z (xf 0 zak Z (xL6 1 zaa Z Z (xmi Z (xd [0] (zlE hM hl h1) zof Z (kL1 Z Zt) (xd [0] (zlE hM hl h2) zof Z (kL1 Z Zt) (xai Z (xai Z (dB ?_))))))))
 refine xmi Z (xmi Z (TL.gtr Z Z Z Z (fun q1=>?_) (fun q1=>?_)))
 refine TL.done (TQ.then (TC.condT Z (TC.region (xmi Z (xmi Z (xai Z (xai Z (dS ?_))))))))
 refine TC.draw (od [1,3,5,7,9,13,10,14,17,19,21,23,25]) [1] fc_m (by kernel_rfl) (xf 0 zak Z (xL6 1 zaa Z Z (xf 0 zak Z (xL6 1 zaa Z Z (xmi Z (xmi Z (xd [0] (zfb hM hl h3) zft Z (kL1 Z Zt) (xd [0] (zc4 hM hl (by rw [Zp q1] at h4; exact h4)) zfr Z (kL1 Z Zt) ?_))))))))
 refine xmu Z (xei Z Z (xei Z Z (xai Z (xai Z (dA (xf 0 zak Z (xL6 1 zaa Z Z (xmi Z ?_))))))))
 refine xD [0] (zc4 hM hl h5) zfr Z (xmu Z (xei Z Z (xei Z Z (xai Z (dA (xf 0 zak Z (xL6 1 zaa Z Z (xmi Z ?_))))))))
 refine xmi Z (xD [0] (zc4 hM hl (by rw [Zp q1] at h6; exact h6)) zfr Z (xmu Z (xei Z Z (xei Z Z (xai Z (xai Z (dA (xf 0 zak Z ?_))))))))
 refine xL6 1 zaa Z Z (xmi Z (xD [0] (zc4 hM hl h7) zfr Z (xmu Z (xei Z Z (xei Z Z (xai Z (dA (xf 0 zak Z ?_))))))))
 refine xL6 1 zaa Z Z (xmi Z (xD [0] (zhw hM hl) zjQ Z (dA (xf 0 zak Z (xL6 1 zaa Z Z (xmi Z (xD [0] (zhw hM hl) zjQ Z (dA ?_))))))))
 refine xmi Z (xf 0 zak Z (xL6 1 zaa Z Z (xmi Z (xmi Z (xD [0] (zeR hM hl h8) zh0 Z (xai Z (xai Z (dR ?_))))))))
 refine FQ.ret2 (v:=(.int _ _)) (x:=(.int _ _)) (Bs:=[A _]) [0] Z Z Z Z ⟨Z,Zt⟩ ?_
 exact ⟨Z,Z⟩
 refine TL.done (TQ.then (TC.condF Z (TC.skip (TQ.then (TC.seq (TC.draw (od [1,3,5,7,9,13,10,14,17,19,21,23,25]) [1] fc_m (by kernel_rfl) (xf 0 zak Z (xL6 1 zaa Z Z ?_))))))))
 refine xf 0 zak Z (xL6 1 zaa Z Z (xmi Z (xmi Z (xd [0] (zfb hM hl h3) zft Z (kL1 Z Zt) (xd [0] (zc4 hM hl (by rw [Zn q1] at h4; exact h4)) zfr Z (kL1 Z Zt) (xmu Z (xei Z Z (xei Z Z ?_))))))))
 refine xai Z (xai Z (dA (xf 0 zak Z (xL6 1 zaa Z Z (xmi Z (xD [0] (zc4 hM hl h5) zfr Z (xmu Z (xei Z Z ?_))))))))
 refine xei Z Z (xai Z (dA (xf 0 zak Z (xL6 1 zaa Z Z (xmi Z (xmi Z (xD [0] (zc4 hM hl (by rw [Zn q1] at h6; exact h6)) zfr Z (xmu Z ?_))))))))
 refine xei Z Z (xei Z Z (xai Z (xai Z (dA (xf 0 zak Z (xL6 1 zaa Z Z (xmi Z (xD [0] (zc4 hM hl h7) zfr Z ?_))))))))
 refine xmu Z (xei Z Z (xei Z Z (xai Z (dA (xf 0 zak Z (xL6 1 zaa Z Z (xmi Z (xD [0] (zhw hM hl) zjQ Z ?_))))))))
 refine dA (xf 0 zak Z (xL6 1 zaa Z Z (xmi Z (xD [0] (zhw hM hl) zjQ Z (dA (xmi Z (xf 0 zak Z (xL6 1 zaa Z Z ?_))))))))
 refine xmi Z (xmi Z (xD [0] (zeR hM hl h8) zh0 Z (xai Z (xai Z (dR ?_)))))
 refine FQ.ret2 (v:=(.int _ _)) (x:=(.int _ _)) (Bs:=[A _]) [0] Z Z Z Z ⟨Z,Zt⟩ ?_
 exact ⟨Z,Z⟩
theorem zw7 {b:Bool}:FnD Tryz.prog 204 [.bool b] [] (.int .u64 (bit b)) []:=by
 refine Fn.enter (Tryz.func204) Z Z (fun w0 R=>?_)
 refine sA (xai rfl (dB (xmb rfl (TL.cases rfl (fun q1=>?_) (fun q1=>?_)))))
 refine dT Z (xai Z (dRR ?_))
 refine FQ.ret1 (v:=(.int _ _)) (Bs:=[]) [] Z Z Z Zt ?_
 cases b<;>first | exact ⟨rfl,rfl⟩ | (exfalso; simp at q1)
 refine dF Z (xai Z (dR ?_))
 refine FQ.ret1 (v:=(.int _ _)) (Bs:=[]) [] Z Z Z Zt ?_
 cases b<;>first | exact ⟨rfl,rfl⟩ | (exfalso; simp at q1)
theorem zyo {S:Type} [MemLike S] {mt:TypeId} {mv:Value} {A:S->Assn} (hM:MemI Tryz.prog mt mv A) {l:Lay} (hl:l.Ok) {σ:S} {u v:Int} (hz:Room (1) σ:=by exact zaD):FnD Tryz.prog 171 [zjV l mt mv,.int .i64 u,.int .i64 v] [A σ] (.tuple #[.int .i64 (find l σ u v).slot,.bool (find l σ u v).tree,.bool (find l σ u v).ok]) [A (zm4 l σ u v)]:=by
 refine Fn.enter (Tryz.func171) Z Z (fun w0 R=>?_)
 refine sA (xB 1 Z (fun bk1=>(xai Z (xaf Z (xaf Z (dS (TC.draw (od [1,3,5,7,9,11,15,17,12,18,21]) [1] fc_m (by kernel_rfl) (xf 3 zbG Z (xlc 1 zbv Z Z ?_)))))))))
 refine xf 0 zaM Z (xL3 1 zab Z Z (xmi Z (xmi Z (TL.ncI Z Z Z (xmc Z (xd [] (zjW hl) zjR Z (kL1 Z Zt) (TL.mload 0 hM Z Z Z Z Z (kL1 Z Zt) (xai Z ?_))))))))
 refine dB (xmi Z (TL.eql Z Z Z Z (fun q1=>?_) (fun q1=>?_)))
 refine dT Z (xai Z (xaf Z (xaf Z (dRR ?_))))
 refine FQ.ret3 (v:=(.int _ _)) (x:=(.bool false)) (y:=(.bool false)) (Bs:=[A _]) [0] Z Z Z Z Z ⟨Z,Zt⟩ ?_
 first | exact ⟨(by unfold find; dsimp only; rw [Zp q1]),Z⟩ | exact ⟨(by unfold find; dsimp only; rw [Zn q1]; rfl),Z⟩
 refine dF Z (xmi Z (TL.shr _ Z Z (by decide) Z Z Z (TL.conv _ Z zdT zaQ (Z) Z Z (TL.sub _ Z Z (Z) Z Z (xmi Z (TL.and _ Z Z Z Z Z (TL.eqlV Z Z Z Z (xai Z ?_))))))))
 refine xab Z (xat Z (dR ?_))
 refine FQ.ret3 (v:=(.int _ _)) (x:=(.bool _)) (y:=(.bool true)) (Bs:=[A _]) [0] Z Z Z Z Z ⟨Z,Zt⟩ ?_
 first | exact ⟨(by unfold find; dsimp only; rw [Zp q1]),Z⟩ | exact ⟨(by unfold find; dsimp only; rw [Zn q1]; rfl),Z⟩
theorem zzu {S:Type} [MemLike S] {mt:TypeId} {mv:Value} {A:S->Assn} (hM:MemI Tryz.prog mt mv A) {l:Lay} (hl:l.Ok) {σ:S} {s u v i:Int} {t:Bool} (hz:Room (3) σ:=by exact zaD):FnD Tryz.prog 161 [zjV l mt mv,.int .i64 s,.int .i64 u,.int .i64 v,.int .i64 i,.bool t] [A σ] (.tuple #[]) [A (eput l σ s u v i t)]:=by
 refine Fn.enter (Tryz.func161) Z Z (fun w0 R=>?_)
 refine sA (xB 1 Z (fun bk1=>(dS (TC.draw (od [1,3,5,7,9,13,15,17,19,21,23,25,27,29,31,33,10,34]) [1] fc_m (by kernel_rfl) (xf 3 zbG Z (xlc 1 zbv Z Z (xf 0 zaM Z (xL3 1 zab Z Z (xmi Z ?_)))))))))
 refine xmi Z (xmi Z (TL.min2 Z Z Z Z (TL.shl _ Z Z (by decide) Z Z Z (xmi Z (xmi Z (TL.max2 Z Z Z Z (TL.or _ Z Z Z Z Z (TL.conv _ Z zgr zbu (Z) Z Z ?_))))))))
 refine TL.ncI Z Z Z (xmc Z (xd [] (ztX hl) ztt Z (kL1 Z Zt) (TL.mstore 0 hM Z Z Z (by first | exact zcV _ | exact zby _ _ | exact MemLike.rng _ _ | decide | assumption) Z Z Z (kL1 Z Zt) (dS (TC.draw (od [1,3,5,7,9,13,15,17,19,10,20]) [1] fc_m (by kernel_rfl) (xf 3 zbG Z (xlc 1 zbv Z Z (xf 0 zaM Z ?_))))))))
 refine xL3 1 zab Z Z (xmi Z (xmi Z (TL.conv _ Z zgr zbu (Z) Z Z (TL.ncI Z Z Z (xmc Z (xd [] (zlC hl) zoo Z (kL1 Z Zt) (TL.mstore 0 hM Z Z Z (by first | exact zcV _ | exact zby _ _ | exact MemLike.rng _ _ | decide | assumption) Z Z Z (kL1 Z Zt) (TL.done ?_))))))))
 refine TQ.then (TC.draw (od [1,3,5,7,9,11,15,17,19,21,23,29,31,12,24,27,32]) [1] fc_m (by kernel_rfl) (xf 3 zbG Z (xlc 1 zbv Z Z (xf 0 zaM Z (xL3 1 zab Z Z (xmi Z (xmi Z (xmi Z ?_))))))))
 refine TL.add _ Z Z (Z) Z Z (TL.conv _ Z zgr zbu (Z) Z Z (TL.shl _ Z Z (by decide) Z Z Z (xmb Z (TL.ncI Z Z Z (xmc Z (xd [] (zjW hl) zjR Z (kL1 Z Zt) (xd [] zw7 zts Z (kL1 Z Zt) (TL.or _ Z Z Z Z Z ?_))))))))
 refine TL.mstore 0 hM Z Z Z (by first | exact zcV _ | exact zby _ _ | exact MemLike.rng _ _ | decide | assumption) Z Z Z (kL1 Z Zt) (TL.done ?_)
 refine FQ.end0 (Bs:=[A _]) [0] Z Z ⟨Z,Zt⟩ ?_
 exact ⟨Z,Z⟩
theorem zkP {S:Type} [MemLike S] {mt:TypeId} {mv:Value} {A:S->Assn} (hM:MemI Tryz.prog mt mv A) {l:Lay} (hl:l.Ok) {σ:S} {u v:Int} (hz:Room (1) σ:=by exact zaD):FnD Tryz.prog 174 [zjV l mt mv,.int .i64 u,.int .i64 v] [A σ] (.tuple #[]) [A (zbW l σ u v)]:=by
 refine Fn.enter (Tryz.func174) Z Z (fun w0 R=>?_)
 refine sA (xB 1 Z (fun bk1=>(TL.done (TQ.then (TC.draw (od [1,3,5,7,9,11,15,17,12,18]) [1] fc_m (by kernel_rfl) (xf 3 zbG Z (xlc 1 zbv Z Z (xf 0 zaM Z (xL3 1 zab Z Z ?_)))))))))
 refine xmi Z (xmi Z (TL.ncI Z Z Z (xmc Z (xd [] (zjW hl) zjR Z (kL1 Z Zt) (TL.mstore 0 hM Z Z Z (by first | exact zcV _ | exact zby _ _ | exact MemLike.rng _ _ | decide | assumption) Z Z Z (kL1 Z Zt) (TL.done ?_))))))
 refine FQ.end0 (Bs:=[A _]) [0] Z Z ⟨Z,Zt⟩ ?_
 exact ⟨Z,Z⟩
theorem zpO {S:Type} [MemLike S] {mt:TypeId} {mv:Value} {A:S->Assn} (hM:MemI Tryz.prog mt mv A) {l:Lay} (hl:l.Ok) {σ:S} {s:Int} (hz:Room (1) σ:=by exact zaD):FnD Tryz.prog 170 [zjV l mt mv,.int .i64 s] [A σ] (.tuple #[.int .i64 (endsU l σ s),.int .i64 (endsV l σ s)]) [A (zhr l σ s)]:=by
 refine Fn.enter (Tryz.func170) Z Z (fun w0 R=>?_)
 refine sA (xB 1 Z (fun bk1=>(xai Z (xai Z (dS (TC.draw (od [1,3,5,7,9,13,15,10,16,19,21]) [1] fc_m (by kernel_rfl) (xf 3 zbG Z (xlc 1 zbv Z Z (xf 0 zaM Z ?_)))))))))
 refine xL3 1 zab Z Z (xmi Z (TL.ncI Z Z Z (xmc Z (xd [] (ztX hl) ztt Z (kL1 Z Zt) (TL.mload 0 hM Z Z Z Z Z (kL1 Z Zt) (TL.conv _ Z zdT zaQ (Z) Z Z (xai Z (dA ?_))))))))
 refine xmi Z (TL.shr _ Z Z (by decide) Z Z Z (xmi Z (TL.and _ Z Z Z Z Z (xai Z (xai Z (dR ?_))))))
 refine FQ.ret2 (v:=(.int _ _)) (x:=(.int _ _)) (Bs:=[A _]) [0] Z Z Z Z ⟨Z,Zt⟩ ?_
 exact ⟨Z,Z⟩
theorem zdv {S:Type} [MemLike S] {mt:TypeId} {mv:Value} {A:S->Assn} (hM:MemI Tryz.prog mt mv A) {l:Lay} (hl:l.Ok) {σ:S} {s:Int} (hz:Room (3) σ:=by exact zaD):FnD Tryz.prog 134 [zjV l mt mv,.int .i64 s] [A σ] (edgV (eget l σ s)) [A (zeH l σ s)]:=by
 refine Fn.enter (Tryz.func134) Z Z (fun w0 R=>?_)
 refine sA (xB 1 Z (fun bk1=>(TL.alloc 2 (cs:=#[.int .i64 0,.int .i64 0,.int .i64 0,.bool false]) zdm Z Z Z (fun _=>Zt) (fun bk2=>(dA (xL4 1 za3 Z Z (xmi Z (xD [0] (zpO hM hl) ztF Z (xmu Z (xei Z Z ?_))))))))))
 refine xei Z Z (xai Z (xai Z (dA (xL4 1 za3 Z Z (xmi Z (xmi Z (xD [0] (zyo hM hl) zza Z (xmu Z ?_))))))))
 refine xei Z Z (TL.ext (.bool _) Z Z Z Z (TL.ext (.bool _) Z Z Z Z (xai Z (xab Z (xab Z (dS (TC.draw (od [1,3,5,7,9,11,13,17,19,25,14,20,23,27,28]) [1] fc_m (by kernel_rfl) (xmi Z ?_))))))))
 refine xmi Z (xf 3 zbG Z (xlc 1 zbv Z Z (xf 0 zaM Z (xL3 1 zab Z Z (xmi Z (TL.ncI Z Z Z (xmc Z (xmb Z ?_))))))))
 refine xd [] (zlC hl) zoo Z (kL1 Z Zt) (TL.mload 0 hM Z Z Z Z Z (kL1 Z Zt) (TL.conv _ Z zdT zaQ (Z) Z Z (TL.bld [.int .i64 0,.int .i64 0,.int .i64 0,.bool false] [(.int _ _),(.int _ _),(.int _ _),(.bool _)] [_,_,_,_] zdm zyB ⟨Z,Z,Z,Z,Zt⟩ ⟨Z,Z⟩ Z Z (TL.stW 2 4 [_,_,_,_] Z Z Z Z Z Z zbU Z Z (kL1 Z Zt) (dR ?_)))))
 refine FQ.retG (rs:=[.cell 4 217]) [(.agg _)] (Bs:=[A _]) [0] Z ⟨⟨_,_,_,_,_,2,Z,Z,.inr ⟨4,[_,_,_,_],zbU,Z,Z⟩⟩,Zt⟩ Z Z ⟨Z,Zt⟩ ?_
 exact ⟨Z,Z⟩
theorem zvS {S:Type} [MemLike S] {mt:TypeId} {mv:Value} {A:S->Assn} (hM:MemI Tryz.prog mt mv A) {l:Lay} (hl:l.Ok) {σ:S} {s:Int} {t:Bool} (hz:Room (2) σ:=by exact zaD):FnD Tryz.prog 207 [zjV l mt mv,.int .i64 s,.bool t] [A σ] (.tuple #[]) [A (zgs l σ s t)]:=by
 refine Fn.enter (Tryz.func207) Z Z (fun w0 R=>?_)
 refine sA (xB 1 Z (fun bk1=>(dA (xL4 1 za3 Z Z (xmi Z (xD [0] (zpO hM hl) ztF Z (xmu Z (xei Z Z (xei Z Z ?_)))))))))
 refine xai Z (xai Z (TL.done (TQ.then (TC.draw (od [1,3,5,7,9,11,15,17,19,21,23,29,31,12,24,27,32]) [1] fc_m (by kernel_rfl) (xf 3 zbG Z (xlc 1 zbv Z Z (xf 0 zaM Z (xL3 1 zab Z Z ?_))))))))
 refine xmi Z (xmi Z (xmi Z (TL.add _ Z Z (Z) Z Z (TL.conv _ Z zgr zbu (Z) Z Z (TL.shl _ Z Z (by decide) Z Z Z (xmb Z (TL.ncI Z Z Z (xmc Z ?_))))))))
 refine xd [] (zjW hl) zjR Z (kL1 Z Zt) (xd [] zw7 zts Z (kL1 Z Zt) (TL.or _ Z Z Z Z Z (TL.mstore 0 hM Z Z Z (by first | exact zcV _ | exact zby _ _ | exact MemLike.rng _ _ | decide | assumption) Z Z Z (kL1 Z Zt) (TL.done ?_))))
 refine FQ.end0 (Bs:=[A _]) [0] Z Z ⟨Z,Zt⟩ ?_
 exact ⟨Z,Z⟩
theorem zpP {S:Type} [MemLike S] {mt:TypeId} {mv:Value} {A:S->Assn} (hM:MemI Tryz.prog mt mv A) {l:Lay} (hl:l.Ok) {σ:S} {s i:Int} (hz:Room (1) σ:=by exact zaD):FnD Tryz.prog 265 [zjV l mt mv,.int .i64 s,.int .i64 i] [A σ] (.tuple #[]) [A (zgt l σ s i)]:=by
 refine Fn.enter (Tryz.func265) Z Z (fun w0 R=>?_)
 refine sA (xB 1 Z (fun bk1=>(TL.done (TQ.then (TC.draw (od [1,3,5,7,9,13,15,17,19,10,20]) [1] fc_m (by kernel_rfl) (xf 3 zbG Z (xlc 1 zbv Z Z (xf 0 zaM Z (xL3 1 zab Z Z ?_)))))))))
 refine xmi Z (xmi Z (TL.conv _ Z zgr zbu (Z) Z Z (TL.ncI Z Z Z (xmc Z (xd [] (zlC hl) zoo Z (kL1 Z Zt) (TL.mstore 0 hM Z Z Z (by first | exact zcV _ | exact zby _ _ | exact MemLike.rng _ _ | decide | assumption) Z Z Z (kL1 Z Zt) (TL.done ?_)))))))
 refine FQ.end0 (Bs:=[A _]) [0] Z Z ⟨Z,Zt⟩ ?_
 exact ⟨Z,Z⟩
theorem zj7 {S:Type} [MemLike S] {mt:TypeId} {mv:Value} {A:S->Assn} (hM:MemI Tryz.prog mt mv A) {l:Lay} (hl:l.Ok) {p:Pen} {σ:S} {c:Int} (hz:Room (1) σ:=by exact zaD):FnD Tryz.prog 233 [adjV l mt mv p,.int .i64 c] [A σ] (.int .i64 (aget σ c)) [A (MemLike.ld σ c)]:=by
 refine Fn.enter (Tryz.func233) Z Z (fun w0 R=>?_)
 refine sA (xB 1 Z (fun bk1=>(xai Z (dA (xf 6 zaA Z (xf 3 zbG Z (xlc 1 zbv Z Z (xmi Z (TL.mload 0 hM Z Z Z Z Z Zt ?_)))))))))
 refine TL.conv _ Z zdT zaQ (Z) Z Z (xai Z (dR ?_))
 refine FQ.ret1 (v:=(.int _ _)) (Bs:=[A _]) [0] Z Z Z ⟨Z,Zt⟩ ?_
 exact ⟨Z,Z⟩
theorem zfx {S:Type} [MemLike S] {mt:TypeId} {mv:Value} {A:S->Assn} (hM:MemI Tryz.prog mt mv A) {l:Lay} (hl:l.Ok) {p:Pen} {σ:S} {c v:Int} (hz:Room (1) σ:=by exact zaD):FnD Tryz.prog 234 [adjV l mt mv p,.int .i64 c,.int .i64 v] [A σ] (.tuple #[]) [A (MemLike.st σ c (IntKind.u64.wrap v))]:=by
 refine Fn.enter (Tryz.func234) Z Z (fun w0 R=>?_)
 refine sA (xB 1 Z (fun bk1=>(dG (xf 6 zaA Z (xf 3 zbG Z (xlc 1 zbv Z Z (xmi Z (xmi Z (TL.conv _ Z zgr zbu (Z) Z Z ?_)))))))))
 refine TL.mstore 0 hM Z Z Z (by first | exact zcV _ | exact zby _ _ | exact MemLike.rng _ _ | decide | assumption) Z Z Z Zt (TL.done ?_)
 refine FQ.end0 (Bs:=[A _]) [0] Z Z ⟨Z,Zt⟩ ?_
 exact ⟨Z,Z⟩
theorem zlc {s d:Int}:FnD Tryz.prog 206 [.int .i64 s,.int .i64 d] [] (.int .i64 (side s d)) []:=by
 refine Fn.enter (Tryz.func206) Z Z (fun w0 R=>?_)
 refine sA (xai Z (dA (xmi Z (TL.mul _ Z Z (Z) Z Z (xmi Z (TL.add _ Z Z (Z) Z Z (TL.add _ Z Z (Z) Z Z (xai Z ?_))))))))
 refine dR ?_
 refine FQ.ret1 (v:=(.int _ _)) (Bs:=[]) [] Z Z Z Zt ?_
 exact ⟨Z,Z⟩
theorem zl8 {mt:TypeId} {mv:Value} {l:Lay} (hl:l.Ok) {p:Pen} {x:Int}:FnD Tryz.prog 235 [adjV l mt mv p,.int .i64 x] [] (.int .i64 (za7 l x)) []:=by
 refine Fn.enter (Tryz.func235) Z Z (fun w0 R=>?_)
 refine sA (xB 0 Z (fun bk0=>(xai Z (dA (xf 6 zaA Z (xf 0 zaM Z (xL3 0 zab Z Z (xmi Z (TL.sub _ Z Z (Z) Z Z ?_)))))))))
 refine TL.quo _ Z Z (by omega) (quo2 _) Z Z (xmi Z (TL.sub _ Z Z (Z) Z Z (TL.rem _ Z Z (by omega) (Z) Z Z (xD [] (zx6 hl) zyP Z (xai Z (dR ?_))))))
 refine FQ.ret1 (v:=(.int _ _)) (Bs:=[]) [] Z Z Z Zt ?_
 exact ⟨Z,Z⟩
theorem zhv {mt:TypeId} {mv:Value} {l:Lay} (hl:l.Ok) {p:Pen} {x:Int}:FnD Tryz.prog 236 [adjV l mt mv p,.int .i64 x] [] (.int .i64 (zaR l x)) []:=by
 refine Fn.enter (Tryz.func236) Z Z (fun w0 R=>?_)
 refine sA (xB 0 Z (fun bk0=>(xai Z (dA (xf 6 zaA Z (xf 0 zaM Z (xL3 0 zab Z Z (xmi Z (TL.sub _ Z Z (Z) Z Z ?_)))))))))
 refine TL.quo _ Z Z (by omega) (quo2 _) Z Z (xmi Z (TL.sub _ Z Z (Z) Z Z (TL.rem _ Z Z (by omega) (Z) Z Z (xD [] (zxP hl) zyO Z (xai Z (dR ?_))))))
 refine FQ.ret1 (v:=(.int _ _)) (Bs:=[]) [] Z Z Z Zt ?_
 exact ⟨Z,Z⟩
theorem zgm {S:Type} [MemLike S] {mt:TypeId} {mv:Value} {A:S->Assn} (hM:MemI Tryz.prog mt mv A) {l:Lay} (hl:l.Ok) {p:Pen} {σ:S} {v i:Int} {k:Nat} {σ2:S} (h:ze7 l k σ v i=some σ2) (hz:Room (7 * k+9) σ:=by exact zaD):FnD Tryz.prog 237 [adjV l mt mv p,.int .i64 v,.int .i64 i] [A σ] (.tuple #[]) [A σ2]:=by
 unfold ze7 at h
 dsimp only at h
 refine Fn.enter (Tryz.func237) Z Z (fun w0 R=>?_)
 refine sA (xB 1 Z (fun bk1=>(dA (xf 6 zaA Z (xf 0 zaM Z (xL3 1 zab Z Z (xmi Z (xmi Z (xD [] (zc0 hl) zfu Z ?_)))))))))
 refine xai Z (dS (TC.draw (od [1,3,5,7,9,11,12,14,17,19]) [1] fc_m (by kernel_rfl) (xL10 1 zao Z Z (xf 6 zaA Z (xf 0 zaM Z (xL3 1 zab Z Z (xmi Z (xmi Z ?_))))))))
 refine xd [] (zlJ hl) zlV Z (kL1 Z Zt) (xd [0] (zj7 hM hl) zjN Z (kL1 Z Zt) (TL.neqV Z Z Z Z (xab Z (dA (xmb Z (xf 0 zbh Z (xf 0 zak Z (xL6 1 zaa Z Z ?_))))))))
 refine xmi rfl (xD [0] (zmK hM hl (by decide)) zte rfl (TL.neqB rfl rfl zAP rfl rfl (TL.cases rfl (fun q1=>?_) (fun q1=>?_))))
 refine TL.done (TQ.then (TC.condT Z (TC.region (xf 0 zbh Z (xf 0 zak Z (xL6 1 zaa Z Z (xmi Z (xmb Z ?_))))))))
 refine xD [0] (zsn hM hl (by decide) (by rw [Zp (by simpa using q1)] at h; exact h)) ztg Z (TL.done ?_)
 refine FQ.end0 (Bs:=[A _]) [0] Z Z ⟨Z,Zt⟩ ?_
 exact ⟨Z,Z⟩
 refine TL.done (TQ.then (TC.condF Z (TC.skip ?_)))
 refine FQ.end0 (Bs:=[A _]) [0] Z Z ⟨Z,Zt⟩ ?_
 rw [Zn (fun hc=>by revert q1 hc; cases marked l (MemLike.ld σ (l.head v i)) (l.vertex i v) 0<;>simp<;>omega)] at h; cases h; exact ⟨rfl,rfl⟩
theorem zrP {S:Type} [MemLike S] {mt:TypeId} {mv:Value} {A:S->Assn} (hM:MemI Tryz.prog mt mv A) {l:Lay} (hl:l.Ok) {p:Pen} {σ:S} {x v i:Int} {k:Nat} {σ2:S} (h:push l k σ x v i=some σ2) (hz:Room (7 * k+14) σ:=by exact zaD):FnD Tryz.prog 205 [adjV l mt mv p,.int .i64 x,.int .i64 v,.int .i64 i] [A σ] (.tuple #[]) [A σ2]:=by
 unfold push at h
 dsimp only at h
 refine Fn.enter (Tryz.func205) Z Z (fun w0 R=>?_)
 refine sA (xB 1 Z (fun bk1=>(dA (xf 6 zaA Z (xf 0 zaM Z (xL3 1 zab Z Z (xmi Z (xmi Z (xD [] (zlJ hl) zlV Z ?_)))))))))
 refine xai Z (dA (xL10 1 zao Z Z (xmi Z (xD [0] (zj7 hM hl) zjN Z (xai Z (dS (TC.draw (od [1,3,5,9,6,10]) [1] fc_m (by kernel_rfl) (xL10 1 zao Z Z ?_))))))))
 refine xL10 1 zao Z Z (xmi Z (xmi Z (xd [] (zl8 hl) zoh Z (kL1 Z Zt) (xd [0] (zfx hM hl) zfs Z (kL1 Z Zt) (dS (TC.draw (od [1,3,5,6,8]) [1] fc_m (by kernel_rfl) (xL10 1 zao Z Z (xL10 1 zao Z Z ?_))))))))
 refine xmi Z (xd [] (zhv hl) zjM Z (kL1 Z Zt) (xd [0] (zfx hM hl) zfs Z (kL1 Z Zt) (dB (xmi Z (TL.neq Z Z Z Z (fun q1=>?_) (fun q1=>?_))))))
 refine TL.done (TQ.then (TC.condT Z (TC.draw (od [1,3,5,9,6,10]) [1] fc_m (by kernel_rfl) (xL10 1 zao Z Z (xL10 1 zao Z Z (xmi Z (xmi Z (xd [] (zhv hl) zjM Z (kL1 Z Zt) ?_))))))))
 refine xd [0] (zfx hM hl) zfs Z (kL1 Z Zt) (dA (xL10 1 zao Z Z (xmi Z (xmi Z (xD [0] (zfx hM hl) zfs Z (dG (xL10 1 zao Z Z (xmi Z ?_))))))))
 refine xmi Z (xD [0] (zgm hM hl (by rw [Zp q1] at h; exact h)) zh1 Z (TL.done ?_))
 refine FQ.end0 (Bs:=[A _]) [0] Z Z ⟨Z,Zt⟩ ?_
 exact ⟨Z,Z⟩
 refine dF Z (xL10 1 zao Z Z (xmi Z (xmi Z (xD [0] (zfx hM hl) zfs Z (dG (xL10 1 zao Z Z (xmi Z (xmi Z ?_))))))))
 refine xD [0] (zgm hM hl (by rw [Zn q1] at h; exact h)) zh1 Z (TL.done ?_)
 refine FQ.end0 (Bs:=[A _]) [0] Z Z ⟨Z,Zt⟩ ?_
 exact ⟨Z,Z⟩
theorem zrT {S:Type} [MemLike S] {mt:TypeId} {mv:Value} {A:S->Assn} (hM:MemI Tryz.prog mt mv A) {l:Lay} (hl:l.Ok) {p:Pen} {σ:S} {x v i:Int} {k:Nat} {σ2:S} (h:pull l k σ x v i=some σ2) (hz:Room (7 * k+13) σ:=by exact zaD):FnD Tryz.prog 211 [adjV l mt mv p,.int .i64 x,.int .i64 v,.int .i64 i] [A σ] (.tuple #[]) [A σ2]:=by
 unfold pull at h
 dsimp only at h
 refine Fn.enter (Tryz.func211) Z Z (fun w0 R=>?_)
 refine sA (xB 1 Z (fun bk1=>(dS (TC.draw (od [1,3,5,11,13,15,6,8,16,18,21,23]) [1] fc_m (by kernel_rfl) (xL10 1 zao Z Z (xL10 1 zao Z Z (xmi Z (xL10 1 zao Z Z (xL10 1 zao Z Z ?_)))))))))
 refine xmi Z (xd [] (zhv hl) zjM Z (kL1 Z Zt) (xd [0] (zj7 hM hl) zjN Z (kL1 Z Zt) (xd [] (zl8 hl) zoh Z (kL1 Z Zt) (xd [0] (zj7 hM hl) zjN Z (kL1 Z Zt) (xai Z (xai Z (dB (xmi Z ?_))))))))
 refine TL.eql Z Z Z Z (fun q1=>?_) (fun q1=>?_)
 refine TL.done (TQ.then (TC.condT Z (TC.draw (od [1,3,5,7,9,11,15,12,16]) [1] fc_m (by kernel_rfl) (xL10 1 zao Z Z (xf 6 zaA Z (xf 0 zaM Z (xL3 1 zab Z Z (xmi Z ?_))))))))
 refine xmi Z (xmi Z (xd [] (zlJ hl) zlV Z (kL1 Z Zt) (xd [0] (zfx hM hl) zfs Z (kL1 Z Zt) (dB (xmi Z (TL.neq Z Z Z Z (fun q2=>?_) (fun q2=>?_)))))))
 refine TL.done (TQ.then (TC.condT Z (TC.draw (od [1,3,5,9,6,10]) [1] fc_m (by kernel_rfl) (xL10 1 zao Z Z (xL10 1 zao Z Z (xmi Z (xmi Z (xd [] (zhv hl) zjM Z (kL1 Z Zt) ?_))))))))
 refine xd [0] (zfx hM hl) zfs Z (kL1 Z Zt) (dG (xL10 1 zao Z Z (xmi Z (xmi Z (xD [0] (zgm hM hl (by rw [Zp q1,Zp q2] at h; exact h)) zh1 Z (TL.done ?_))))))
 refine FQ.end0 (Bs:=[A _]) [0] Z Z ⟨Z,Zt⟩ ?_
 exact ⟨Z,Z⟩
 refine TL.done (TQ.then (TC.condF Z (TC.skip (TQ.then (TC.region (xL10 1 zao Z Z (xmi Z (xmi Z ?_))))))))
 refine xD [0] (zgm hM hl (by rw [Zp q1,Zn q2] at h; exact h)) zh1 Z (TL.done ?_)
 refine FQ.end0 (Bs:=[A _]) [0] Z Z ⟨Z,Zt⟩ ?_
 exact ⟨Z,Z⟩
 refine TL.done (TQ.then (TC.condF Z (TC.draw (od [1,3,5,9,6,10]) [1] fc_m (by kernel_rfl) (xL10 1 zao Z Z (xL10 1 zao Z Z (xmi Z (xmi Z (xd [] (zl8 hl) zoh Z (kL1 Z Zt) ?_))))))))
 refine xd [0] (zfx hM hl) zfs Z (kL1 Z Zt) (dB (xmi Z (TL.neq Z Z Z Z (fun q2=>?_) (fun q2=>?_))))
 refine TL.done (TQ.then (TC.condT Z (TC.draw (od [1,3,5,9,6,10]) [1] fc_m (by kernel_rfl) (xL10 1 zao Z Z (xL10 1 zao Z Z (xmi Z (xmi Z (xd [] (zhv hl) zjM Z (kL1 Z Zt) ?_))))))))
 refine xd [0] (zfx hM hl) zfs Z (kL1 Z Zt) (dG (xL10 1 zao Z Z (xmi Z (xmi Z (xD [0] (zgm hM hl (by rw [Zn q1,Zp q2] at h; exact h)) zh1 Z (TL.done ?_))))))
 refine FQ.end0 (Bs:=[A _]) [0] Z Z ⟨Z,Zt⟩ ?_
 exact ⟨Z,Z⟩
 refine TL.done (TQ.then (TC.condF Z (TC.skip (TQ.then (TC.region (xL10 1 zao Z Z (xmi Z (xmi Z ?_))))))))
 refine xD [0] (zgm hM hl (by rw [Zn q1,Zn q2] at h; exact h)) zh1 Z (TL.done ?_)
 refine FQ.end0 (Bs:=[A _]) [0] Z Z ⟨Z,Zt⟩ ?_
 exact ⟨Z,Z⟩
theorem znl {S:Type} [MemLike S] {mt:TypeId} {mv:Value} {A:S->Assn} (hM:MemI Tryz.prog mt mv A) {l:Lay} (hl:l.Ok) {p:Pen} {σ:S} {s:Int} {k:Nat} {σ2:S} (h:add l k σ s=some σ2) (hz:Room (14 * k+31) σ:=by exact zaD):FnD Tryz.prog 162 [adjV l mt mv p,.int .i64 s] [A σ] (.tuple #[]) [A σ2]:=by
 unfold add at h
 dsimp only at h
 obtain ⟨σ1,h1,h2⟩:=Zb h
 refine Fn.enter (Tryz.func162) Z Z (fun w0 R=>?_)
 refine sA (xB 1 Z (fun bk1=>(dA (xf 6 zaA Z (xL4 1 za3 Z Z (xmi Z (xD [0] (zdv hM hl) zdu Z (TL.alloc 2 (cs:=#[.int .i64 0,.int .i64 0,.int .i64 0,.bool false]) zdm Z Z Z (fun _=>Zt) (fun bk2=>(TL.stW 2 4 [_,_,_,_] Z Z Z Z Z Z zbU Z Z Zt ?_))))))))))
 refine dS (TC.draw (od [1,3,7,9,11,13,4,14]) [1,2] fc_m (by kernel_rfl) (xL10 1 zao Z Z (xmi Z (xf 0 zbo Z (xli 2 zad Z Z (xf 2 zbF Z (xli 2 zad Z Z (xd [] zlc zlX Z (kL2 Z Z Zt) ?_))))))))
 refine xd [0] (zrP hM hl h1) ztr Z (kL2 Z Z Zt) (TL.done (TQ.then (TC.draw (od [1,3,7,9,11,13,4,14]) [1,2] fc_m (by kernel_rfl) (xL10 1 zao Z Z (xmi Z (xf 1 zbn Z (xli 2 zad Z Z (xf 2 zbF Z ?_))))))))
 refine xli 2 zad Z Z (xd [] zlc zlX Z (kL2 Z Z Zt) (xd [0] (zrP hM hl h2) ztr Z (kL2 Z Z Zt) (TL.done ?_)))
 refine FQ.end0 (Bs:=[A _]) [0] Z Z ⟨Z,Zt⟩ ?_
 exact ⟨Z,Z⟩
theorem zj4 {S:Type} [MemLike S] {mt:TypeId} {mv:Value} {A:S->Assn} (hM:MemI Tryz.prog mt mv A) {l:Lay} (hl:l.Ok) {p:Pen} {σ:S} {s:Int} {k:Nat} {σ2:S} (h:remove l k σ s=some σ2) (hz:Room (14 * k+29) σ:=by exact zaD):FnD Tryz.prog 173 [adjV l mt mv p,.int .i64 s] [A σ] (.tuple #[]) [A σ2]:=by
 unfold remove at h
 dsimp only at h
 obtain ⟨σ1,h1,h2⟩:=Zb h
 refine Fn.enter (Tryz.func173) Z Z (fun w0 R=>?_)
 refine sA (xB 1 Z (fun bk1=>(dA (xf 6 zaA Z (xL4 1 za3 Z Z (xmi Z (xD [0] (zdv hM hl) zdu Z (TL.alloc 2 (cs:=#[.int .i64 0,.int .i64 0,.int .i64 0,.bool false]) zdm Z Z Z (fun _=>Zt) (fun bk2=>(TL.stW 2 4 [_,_,_,_] Z Z Z Z Z Z zbU Z Z Zt ?_))))))))))
 refine dS (TC.draw (od [1,3,7,9,11,13,4,14]) [1,2] fc_m (by kernel_rfl) (xL10 1 zao Z Z (xmi Z (xf 0 zbo Z (xli 2 zad Z Z (xf 2 zbF Z (xli 2 zad Z Z (xd [] zlc zlX Z (kL2 Z Z Zt) ?_))))))))
 refine xd [0] (zrT hM hl h1) zto Z (kL2 Z Z Zt) (TL.done (TQ.then (TC.draw (od [1,3,7,9,11,13,4,14]) [1,2] fc_m (by kernel_rfl) (xL10 1 zao Z Z (xmi Z (xf 1 zbn Z (xli 2 zad Z Z (xf 2 zbF Z ?_))))))))
 refine xli 2 zad Z Z (xd [] zlc zlX Z (kL2 Z Z Zt) (xd [0] (zrT hM hl h2) zto Z (kL2 Z Z Zt) (TL.done ?_)))
 refine FQ.end0 (Bs:=[A _]) [0] Z Z ⟨Z,Zt⟩ ?_
 exact ⟨Z,Z⟩
theorem zuD {S:Type} [MemLike S] {mt:TypeId} {mv:Value} {A:S->Assn} (hM:MemI Tryz.prog mt mv A) {l:Lay} (hl:l.Ok) {p:Pen} {σ:S} {v i:Int} (hz:Room (1) σ:=by exact zaD):FnD Tryz.prog 248 [adjV l mt mv p,.int .i64 v,.int .i64 i] [A σ] (.tuple #[.int .i64 (afirst l σ v i).1,.bool (afirst l σ v i).2]) [A (zf5 l σ v i)]:=by
 refine Fn.enter (Tryz.func248) Z Z (fun w0 R=>?_)
 refine sA (xB 1 Z (fun bk1=>(xai Z (xaf Z (dS (TC.draw (od [1,3,5,7,9,11,12,14,17]) [1] fc_m (by kernel_rfl) (xL10 1 zao Z Z (xf 6 zaA Z (xf 0 zaM Z ?_)))))))))
 refine xL3 1 zab Z Z (xmi Z (xmi Z (xd [] (zlJ hl) zlV Z (kL1 Z Zt) (xd [0] (zj7 hM hl) zjN Z (kL1 Z Zt) (xai Z (dB (xmi Z (TL.eql Z Z Z Z (fun q1=>?_) (fun q1=>?_)))))))))
 refine dT Z (xai Z (xaf Z (dRR ?_)))
 refine FQ.ret2 (v:=(.int _ _)) (x:=(.bool false)) (Bs:=[A _]) [0] Z Z Z Z ⟨Z,Zt⟩ ?_
 first | exact ⟨(by unfold afirst; dsimp only; rw [Zp q1]),Z⟩ | exact ⟨(by unfold afirst; dsimp only; rw [Zn q1]),Z⟩
 refine dF Z (xmi Z (TL.sub _ Z Z (Z) Z Z (TL.quo _ Z Z (by omega) (quo2 _) Z Z (xai Z (xat Z (dR ?_))))))
 refine FQ.ret2 (v:=(.int _ _)) (x:=(.bool true)) (Bs:=[A _]) [0] Z Z Z Z ⟨Z,Zt⟩ ?_
 first | exact ⟨(by unfold afirst; dsimp only; rw [Zp q1]),Z⟩ | exact ⟨(by unfold afirst; dsimp only; rw [Zn q1]),Z⟩
theorem zly {S:Type} [MemLike S] {mt:TypeId} {mv:Value} {A:S->Assn} (hM:MemI Tryz.prog mt mv A) {l:Lay} (hl:l.Ok) {p:Pen} {σ:S} {s i:Int} {on:Bool} {k:Nat} {σ2:S} (h:lmark l k σ s i on=some σ2) (hz:Room (7 * k+7) σ:=by exact zaD):FnD Tryz.prog 209 [adjV l mt mv p,.int .i64 s,.int .i64 i,.bool on] [A σ] (.tuple #[]) [A σ2]:=by
 unfold lmark at h
 refine Fn.enter (Tryz.func209) Z Z (fun w0 R=>?_)
 refine sA (xB 1 Z (fun bk1=>(TL.done (TQ.then (TC.draw (od [1,3,5,7,9,11,13,15,17,19,23,20,24]) [1] fc_m (by kernel_rfl) (xf 0 zaq Z (xf 0 zbh Z (xf 0 zak Z (xL6 1 zaa Z Z ?_)))))))))
 refine xf 0 zaq Z (xf 6 zaA Z (xf 0 zaM Z (xL3 1 zab Z Z (xmi Z (xmi Z (xmb Z (xd [] (zuv hl) zog Z (kL1 Z Zt) (xd [0] (zsn hM hl (by decide) h) ztg Z (kL1 Z Zt) ?_))))))))
 refine TL.done ?_
 refine FQ.end0 (Bs:=[A _]) [0] Z Z ⟨Z,Zt⟩ ?_
 exact ⟨Z,Z⟩
theorem zpd {S:Type} [MemLike S] {mt:TypeId} {mv:Value} {A:S->Assn} (hM:MemI Tryz.prog mt mv A) {l:Lay} (hl:l.Ok) {p:Pen} {σ:S} {s:Int} {k:Nat} {σ2:S} (h:plant l p k σ s=some σ2) (hz:Room (7 * k+12+k * (94 * k+24)) σ:=by exact zaD):FnD Tryz.prog 163 [adjV l mt mv p,.int .i64 s] [A σ] (.tuple #[]) [A σ2]:=by
 unfold plant at h
 dsimp only at h
 obtain ⟨σ1,h1,h2⟩:=Zb h
 refine Fn.enter (Tryz.func163) Z Z (fun w0 R=>?_)
 refine sA (xB 1 Z (fun bk1=>(dA (xf 0 zaq Z (xf 6 zaA Z (xL4 1 za3 Z Z (xmi Z (xD [0] (zdv hM hl) zdu Z (TL.alloc 2 (cs:=#[.int .i64 0,.int .i64 0,.int .i64 0,.bool false]) zdm Z Z Z (fun _=>Zt) (fun bk2=>?_))))))))))
 refine TL.stW 2 4 [_,_,_,_] Z Z Z Z Z Z zbU Z Z Zt (dA (xf 0 zaq Z (xf 6 zaA Z (xL4 1 za3 Z Z (xmi Z (xD [0] (zvS hM hl) zy3 Z (dB (xf 2 zbF Z ?_))))))))
 refine xli 2 zad Z Z (TL.add _ Z Z (Z) Z Z (xmi Z (dK (TC.loopK (X:=Nat×S×Int) [1,2,4,18] [1,2] (fun y=>[(19,.int .i64 y.2.2)]) (fun y=>[(0,A y.2.1)]) (fun y=>zco l p s (eget l σ s).u (eget l σ s).v y.1 k y.2.1 y.2.2 (IntKind.i64.wrap ((eget l σ s).level+1))=some σ1/\Room (y.1 * (94 * k+24)+(7 * k+7)) y.2.1) (fun y=>y.1) ((k,_,0)) ⟨h1,zaD⟩ ⟨Z,Zt⟩ ⟨Z,Zt⟩ (fun y hI=>?_)))))
 obtain ⟨j,σ3,z⟩:=y
 obtain ⟨hI,hzI⟩:=hI
 rcases j with _ | j
 ·simp [zco] at hI
 dsimp only at hI hzI
 rw [Nat.add_one_mul] at hzI
 refine TC.sub (env':=[(19,_),(1,_),(2,_),(4,_),(18,_)]) (L':=[(0,_),(1,_),(2,_)]) ⟨Z,Z,Z,Z,Z,Zt⟩ ⟨Z,Z,Z,Zt⟩ (sA (TL.lss Z Z Z Z (fun q1=>?_) (fun q1=>?_)))
 refine dS (TC.condT Z (TC.skip (TQ.then (TC.seq (TC.block (sA (xmi Z (xai Z ?_))))))))
 refine dG (xf 0 zaq Z (xf 0 zbh Z (xL6 1 zbV Z Z (xmi Z (xmi Z (xf 0 zbo Z (xli 2 zad Z Z (xf 1 zbn Z ?_))))))))
 refine xli 2 zad Z Z ?_
 rw [zco,Zp q1] at hI
 obtain ⟨⟨r,σ4⟩,h3,h4⟩:=Zb hI
 refine xD [0] (zsA hM hl h3) ztq Z (dI (TL.add _ Z Z (Z) Z Z (xmi Z (TL.done (TQ.roundK ((j,_,_)) ⟨⟨h4,zaD⟩,Nat.lt_succ_self _⟩ ⟨Z,Zt⟩ ⟨Z,Zt⟩ (kE4 Z Z Z Z Zt) (kL2 Z Z Zt))))))
 refine dS (TC.condF Z (TC.exit (TQ.thenExit (TQ.thenExit (TQ.blockHere (TQ.then (TC.region (xL10 1 zaZ Z Z ?_))))))))
 refine xmi Z (xf 2 zbF Z (xli 2 zad Z Z ?_))
 rw [zco,Zn q1] at hI
 cases hI
 refine xD [0] (zly hM hl h2) zoj Z (TL.done ?_)
 refine FQ.end0 (Bs:=[A _]) [0] Z Z ⟨Z,Zt⟩ ?_
 exact ⟨Z,Z⟩
theorem zyq {S:Type} [MemLike S] {mt:TypeId} {mv:Value} {A:S->Assn} (hM:MemI Tryz.prog mt mv A) {l:Lay} (hl:l.Ok) {p:Pen} {σ:S} {s:Int} {k:Nat} {σ2:S} (h:fell l p k σ s=some σ2) (hz:Room (3+k * (69 * k+36)) σ:=by exact zaD):FnD Tryz.prog 175 [adjV l mt mv p,.int .i64 s] [A σ] (.tuple #[]) [A σ2]:=by
 unfold fell at h
 refine Fn.enter (Tryz.func175) Z Z (fun w0 R=>?_)
 refine sA (xB 1 Z (fun bk1=>(dA (xf 0 zaq Z (xf 6 zaA Z (xL4 1 za3 Z Z (xmi Z (xD [0] (zdv hM hl) zdu Z (TL.fv 2 3 (.int _ _) Z zhp zad Z Z Z ?_)))))))))
 refine TL.add _ Z Z (Z) Z Z (xmi Z (dK (TC.loopK (X:=Nat×S×Int) [1,2,11] [1] (fun y=>[(12,.int .i64 y.2.2)]) (fun y=>[(0,A y.2.1)]) (fun y=>zeq l p s y.1 k y.2.1 y.2.2 (IntKind.i64.wrap ((eget l σ s).level+1))=some σ2/\Room (y.1 * (69 * k+36)) y.2.1) (fun y=>y.1) ((k,_,0)) ⟨h,zaD⟩ ⟨Z,Zt⟩ ⟨Z,Zt⟩ (fun y hI=>?_))))
 obtain ⟨j,σ3,z⟩:=y
 obtain ⟨hI,hzI⟩:=hI
 rcases j with _ | j
 ·simp [zeq] at hI
 dsimp only at hI hzI
 rw [Nat.add_one_mul] at hzI
 refine TC.sub (env':=[(12,_),(1,_),(2,_),(11,_)]) (L':=[(0,_),(1,_)]) ⟨Z,Z,Z,Z,Zt⟩ ⟨Z,Z,Zt⟩ (sA (TL.lss Z Z Z Z (fun q1=>?_) (fun q1=>?_)))
 refine dS (TC.condT Z (TC.skip (TQ.then (TC.seq (TC.block (sA (xmi Z (xai Z ?_))))))))
 refine dG (xf 0 zaq Z (xf 0 zbh Z (xL6 1 zbV Z Z (xmi Z (xmi Z ?_)))))
 rw [zeq,Zp q1] at hI
 obtain ⟨⟨r,σ4⟩,h3,h4⟩:=Zb hI
 refine xD [0] (zAU hM hl h3) zy2 Z (dI (TL.add _ Z Z (Z) Z Z (xmi Z (TL.done (TQ.roundK ((j,_,_)) ⟨⟨h4,zaD⟩,Nat.lt_succ_self _⟩ ⟨Z,Zt⟩ ⟨Z,Zt⟩ (kE3 Z Z Z Zt) (kL1 Z Zt))))))
 refine dS (TC.condF Z (TC.exit (TQ.thenExit (TQ.thenExit (TQ.blockHere ?_)))))
 refine FQ.end0 (Bs:=[A _]) [0] Z Z ⟨Z,Zt⟩ ?_
 rw [zeq,Zn q1] at hI; cases hI; exact ⟨rfl,rfl⟩
theorem zrf {S:Type} [MemLike S] {mt:TypeId} {mv:Value} {A:S->Assn} (hM:MemI Tryz.prog mt mv A) {l:Lay} (hl:l.Ok) {p:Pen} {σ:S} {s:Int} {k:Nat} {σ2:S} (h:treeUp l p k σ s=some σ2) (hz:Room (108 * k+42) σ:=by exact zaD):FnD Tryz.prog 247 [adjV l mt mv p,.int .i64 s] [A σ] (.tuple #[]) [A σ2]:=by
 unfold treeUp at h
 dsimp only at h
 obtain ⟨σ1,h1,h⟩:=Zb h
 obtain ⟨⟨r,σ3⟩,h2,h3⟩:=Zb h
 dsimp only at h3
 refine Fn.enter (Tryz.func247) Z Z (fun w0 R=>?_)
 refine sA (xB 1 Z (fun bk1=>(dA (xf 0 zaq Z (xf 6 zaA Z (xL4 1 za3 Z Z (xmi Z (xD [0] (zdv hM hl) zdu Z (TL.alloc 2 (cs:=#[.int .i64 0,.int .i64 0,.int .i64 0,.bool false]) zdm Z Z Z (fun _=>Zt) (fun bk2=>?_))))))))))
 refine TL.stW 2 4 [_,_,_,_] Z Z Z Z Z Z zbU Z Z Zt (dA (xL10 1 zaZ Z Z (xmi Z (xf 2 zbF Z (xli 2 zad Z Z (xD [0] (zly hM hl h1) zoj Z (dA (xf 0 zaq Z ?_))))))))
 refine xf 6 zaA Z (xL4 1 za3 Z Z (xmi Z (xf 2 zbF Z (xli 2 zad Z Z (TL.add _ Z Z (Z) Z Z (xD [0] (zpP hM hl) ztd Z (dA (xf 0 zaq Z ?_))))))))
 refine xf 0 zbh Z (xL6 1 zbV Z Z (xf 2 zbF Z (xli 2 zad Z Z (TL.add _ Z Z (Z) Z Z (xmi Z (xf 0 zbo Z (xli 2 zad Z Z (xf 1 zbn Z ?_))))))))
 refine xli 2 zad Z Z (xD [0] (zsA hM hl h2) ztq Z (dG (xL10 1 zaZ Z Z (xmi Z (xf 2 zbF Z (xli 2 zad Z Z (TL.add _ Z Z (Z) Z Z (xD [0] (zly hM hl h3) zoj Z ?_))))))))
 refine TL.done ?_
 refine FQ.end0 (Bs:=[A _]) [0] Z Z ⟨Z,Zt⟩ ?_
 exact ⟨Z,Z⟩
theorem zvt {S:Type} [MemLike S] {mt:TypeId} {mv:Value} {A:S->Assn} (hM:MemI Tryz.prog mt mv A) {l:Lay} (hl:l.Ok) {p:Pen} {σ:S} {s:Int} {k:Nat} {σ2:S} (h:plain l k σ s=some σ2) (hz:Room (28 * k+64) σ:=by exact zaD):FnD Tryz.prog 249 [adjV l mt mv p,.int .i64 s] [A σ] (.tuple #[]) [A σ2]:=by
 unfold plain at h
 dsimp only at h
 obtain ⟨σ1,h1,h2⟩:=Zb h
 refine Fn.enter (Tryz.func249) Z Z (fun w0 R=>?_)
 refine sA (xB 1 Z (fun bk1=>(dA (xf 0 zaq Z (xf 6 zaA Z (xL4 1 za3 Z Z (xmi Z (xD [0] (zdv hM hl) zdu Z (TL.fv 2 3 (.int _ _) Z zhp zad Z Z Z ?_)))))))))
 refine xai Z (dA (xf 0 zaq Z (xL10 1 zao Z Z (xmi Z (xD [0] (zj4 hM hl h1) zon Z (dA (xf 0 zaq Z (xf 6 zaA Z ?_))))))))
 refine xL4 1 za3 Z Z (xmi Z (xmi Z (TL.add _ Z Z (Z) Z Z (xD [0] (zpP hM hl) ztd Z (dG (xf 0 zaq Z (xL10 1 zao Z Z (xmi Z ?_))))))))
 refine xD [0] (znl hM hl h2) ztI Z (TL.done ?_)
 refine FQ.end0 (Bs:=[A _]) [0] Z Z ⟨Z,Zt⟩ ?_
 exact ⟨Z,Z⟩
theorem zhi {S:Type} [MemLike S] {mt:TypeId} {mv:Value} {A:S->Assn} (hM:MemI Tryz.prog mt mv A) {l:Lay} (hl:l.Ok) {p:Pen} {σ:S} {i v m r:Int} {k:Nat} {σ2:S} (h0:0<=m) (h:lfirst l k σ i v m=some (r,σ2)) (hz:Room (5 * k+1) σ:=by exact zaD):FnD Tryz.prog 246 [adjV l mt mv p,.int .i64 i,.int .i64 v,.int .i64 m] [A σ] (.int .i64 r) [A σ2]:=by
 unfold lfirst at h
 obtain ⟨⟨a,σ1⟩,h1,h2⟩:=Zb h
 refine Fn.enter (Tryz.func246) Z Z (fun w0 R=>?_)
 refine sA (xB 1 Z (fun bk1=>(xai Z (dS (TC.draw (od [1,3,5,7,9,11,13,15,17,19,21,23,25,27,33,28,30,34,37]) [1] fc_m (by kernel_rfl) (xf 0 zaq Z (xf 0 zbh Z (xf 0 zak Z (xL6 1 zaa Z Z ?_)))))))))
 refine xf 0 zaq Z (xf 0 zbh Z (xf 0 zak Z (xL6 1 zaa Z Z (xf 0 zaq Z (xf 6 zaA Z (xf 0 zaM Z (xL3 1 zab Z Z (xmi Z ?_))))))))
 refine xmi Z (xmi Z (xd [] (zc0 hl) zfu Z (kL1 Z Zt) (xd [0] (zfb hM hl h1) zft Z (kL1 Z Zt) (xd [0] (zvP hM hl h0 h2) zyM Z (kL1 Z Zt) (xai Z (dR ?_))))))
 refine FQ.ret1 (v:=(.int _ _)) (Bs:=[A _]) [0] Z Z Z ⟨Z,Zt⟩ ?_
 exact ⟨Z,Z⟩
theorem zuV {S:Type} [MemLike S] {mt:TypeId} {mv:Value} {A:S->Assn} (hM:MemI Tryz.prog mt mv A) {l:Lay} (hl:l.Ok) {p:Pen} {σ:S} {i v:Int} {k:Nat} {σ2:S} (h:trees l p k σ i v=some σ2) (hz:Room (5 * k+1+k * (113 * k+43)) σ:=by exact zaD):FnD Tryz.prog 214 [adjV l mt mv p,.int .i64 i,.int .i64 v] [A σ] (.tuple #[]) [A σ2]:=by
 unfold trees at h
 obtain ⟨⟨a,σ1⟩,h1,h2⟩:=Zb h
 dsimp only at h2
 refine Fn.enter (Tryz.func214) Z Z (fun w0 R=>?_)
 refine sA (xB 1 Z (fun bk1=>(dA (xL10 1 zaZ Z Z (xmi Z (xmi Z (xD [0] (zhi hM hl (by decide) h1) zlU Z (xai Z (dK ?_)))))))))
 refine TC.loopK (X:=Nat×S×Int) [1,2,3] [1] (fun y=>[(6,.int .i64 y.2.2)]) (fun y=>[(0,A y.2.1)]) (fun y=>zcn l p i v y.1 k y.2.1 y.2.2=some σ2/\Room (y.1 * (113 * k+43)) y.2.1) (fun y=>y.1) ((k,_,_)) ⟨h2,zaD⟩ ⟨Z,Zt⟩ ⟨Z,Zt⟩ (fun y hI=>?_)
 obtain ⟨j,σ3,z⟩:=y
 obtain ⟨hI,hzI⟩:=hI
 rcases j with _ | j
 ·simp [zcn] at hI
 dsimp only at hI hzI
 rw [Nat.add_one_mul] at hzI
 refine TC.sub (env':=[(6,_),(1,_),(2,_),(3,_)]) (L':=[(0,_),(1,_)]) ⟨Z,Z,Z,Z,Zt⟩ ⟨Z,Z,Zt⟩ (sB (xmi Z (TL.neq Z Z Z Z (fun q1=>?_) (fun q1=>?_))))
 refine TL.done (TQ.then (TC.condT Z (TC.skip (TQ.then (TC.seq (TC.block (sA (xf 0 zaq Z ?_))))))))
 refine xf 6 zaA Z (xf 0 zaM Z (xL3 1 zab Z Z (xmi Z (xD [] (zfO hl) zik Z (xmu Z (TL.ext (.agg _) Z Z Z Z (TL.ext (.bool _) Z Z Z Z (TL.alloc 2 (cs:=#[.bool false,.int .i64 0,.int .i64 0,.int .i64 0,.int .i64 0]) zfB Z Z Z (fun _=>Zt) (fun bk2=>?_)))))))))
 refine TL.stW 2 5 [_,_,_,_,_] Z Z Z Z Z Z zcr Z Z Zt (xab Z (dG (xL10 1 zaZ Z Z (xf 3 zqI Z (xli 2 zad Z Z ?_)))))
 rw [zcn,Zp q1] at hI
 obtain ⟨σ4,h3,hI⟩:=Zb hI
 obtain ⟨⟨r,σ5⟩,h5,h6⟩:=Zb hI
 refine xD [0] (zrf hM hl h3) zyU Z (dI (xL10 1 zaZ Z Z (xmi Z (xmi Z (xD [0] (zhi hM hl (by decide) h5) zlU Z (xai Z (TL.done (TQ.roundK ((j,_,_)) ⟨⟨h6,zaD⟩,Nat.lt_succ_self _⟩ ⟨Z,Zt⟩ ⟨Z,Zt⟩ (kE3 Z Z Z Zt) (kL1 Z Zt)))))))))
 refine TL.done (TQ.then (TC.condF Z (TC.exit (TQ.thenExit (TQ.thenExit (TQ.blockHere ?_))))))
 refine FQ.end0 (Bs:=[A _]) [0] Z Z ⟨Z,Zt⟩ ?_
 rw [zcn,Zn q1] at hI; cases hI; exact ⟨rfl,rfl⟩
theorem zxC {S:Type} [MemLike S] {mt:TypeId} {mv:Value} {A:S->Assn} (hM:MemI Tryz.prog mt mv A) {l:Lay} (hl:l.Ok) {p:Pen} {σ:S} {i v:Int} {r:Int×Bool} {k:Nat} {σ2:S} (h:seek l k σ i v=some (r,σ2)) (hz:Room (5 * k+1+k * (35 * k+69)) σ:=by exact zaD):FnD Tryz.prog 215 [adjV l mt mv p,.int .i64 i,.int .i64 v] [A σ] (.tuple #[.int .i64 r.1,.bool r.2]) [A σ2]:=by
 unfold seek at h
 obtain ⟨⟨a,σ1⟩,h1,h2⟩:=Zb h
 dsimp only at h2
 refine Fn.enter (Tryz.func215) Z Z (fun w0 R=>?_)
 refine sA (xB 1 Z (fun bk1=>(xai Z (xaf Z (dB (xL10 1 zaZ Z Z (xmi Z (xmi Z (xD [0] (zhi hM hl (by decide) h1) zlU Z ?_)))))))))
 refine xai Z (dK (TC.loopK (X:=Nat×S×Int) [1,2,3] [1] (fun y=>[(8,.int .i64 y.2.2),(6,.int .i64 0),(7,.bool false)]) (fun y=>[(0,A y.2.1)]) (fun y=>zde l i v y.1 k y.2.1 y.2.2=some (r,σ2)/\Room (y.1 * (35 * k+69)) y.2.1) (fun y=>y.1) ((k,_,_)) ⟨h2,zaD⟩ ⟨Z,Z,Z,Zt⟩ ⟨Z,Zt⟩ (fun y hI=>?_)))
 obtain ⟨j,σ3,z⟩:=y
 obtain ⟨hI,hzI⟩:=hI
 rcases j with _ | j
 ·simp [zde] at hI
 dsimp only at hI hzI
 rw [Nat.add_one_mul] at hzI
 refine TC.sub (env':=[(8,_),(6,_),(7,_),(1,_),(2,_),(3,_)]) (L':=[(0,_),(1,_)]) ⟨Z,Z,Z,Z,Z,Z,Zt⟩ ⟨Z,Z,Zt⟩ (sB (xmi Z (TL.neq Z Z Z Z (fun q1=>?_) (fun q1=>?_))))
 refine TL.done (TQ.then (TC.condT Z (TC.skip (TQ.then (TC.seq (TC.block (sA (xf 0 zaq Z ?_))))))))
 refine xf 6 zaA Z (xf 0 zaM Z (xL3 1 zab Z Z (xmi Z (xD [] (zfO hl) zik Z (xmu Z (TL.ext (.agg _) Z Z Z Z (TL.ext (.bool _) Z Z Z Z (TL.alloc 2 (cs:=#[.bool false,.int .i64 0,.int .i64 0,.int .i64 0,.int .i64 0]) zfB Z Z Z (fun _=>Zt) (fun bk2=>?_)))))))))
 refine TL.stW 2 5 [_,_,_,_,_] Z Z Z Z Z Z zcr Z Z Zt (xab Z (dA (xf 0 zaq Z (xL10 1 zao Z Z (xf 2 zqJ Z (xli 2 zad Z Z (xmi Z (xD [0] (zuD hM hl) zyT Z ?_))))))))
 refine xmu Z (xei Z Z (TL.ext (.bool _) Z Z Z Z (xai Z (xab Z (dB (xf 0 zaq Z (xf 6 zaA Z (xL4 1 za3 Z Z ?_))))))))
 refine xmi Z (xD [0] (zdv hM hl) zdu Z (TL.alloc 3 (cs:=#[.int .i64 0,.int .i64 0,.int .i64 0,.bool false]) zdm Z Z Z (fun _=>Zt) (fun bk3=>(TL.stW 3 4 [_,_,_,_] Z Z Z Z Z Z zbU Z Z Zt (dA (xf 0 zaq Z (xf 0 zbh Z (xL6 1 zbV Z Z (xmi Z ?_)))))))))
 refine xf 0 zbo Z (xli 3 zad Z Z (xf 1 zbn Z (xli 3 zad Z Z ?_)))
 rw [zde,Zp q1] at hI
 dsimp only at hI
 obtain ⟨⟨b,σ4⟩,h3,hI⟩:=Zb hI
 dsimp only at hI
 refine xD [0] (zrz hM hl h3) ztu rfl (TL.cases rfl (fun q2=>?_) (fun q2=>?_))
 refine xnt Z (TL.done (TQ.then (TC.condF Z (TC.skip (TQ.then (TC.region (xL10 1 zaZ Z Z (xmi Z ?_))))))))
 rw [Zp (by simpa using q2)] at hI
 obtain ⟨σ5,h4,hI⟩:=Zb hI
 obtain ⟨⟨r2,σ6⟩,h5,h6⟩:=Zb hI
 refine xD [0] (zvt hM hl h4) zyS Z (dI (xL10 1 zaZ Z Z (xmi Z (xmi Z (xD [0] (zhi hM hl (by decide) h5) zlU Z (xai Z (TL.done (TQ.roundK ((j,_,_)) ⟨⟨h6,zaD⟩,Nat.lt_succ_self _⟩ ⟨Z,Z,Z,Zt⟩ ⟨Z,Zt⟩ (kE3 Z Z Z Zt) (kL1 Z Zt)))))))))
 refine xnf Z (dT Z (xmi Z (xai Z (xat Z (dRR (TQ.blockRet (TQ.thenRet (TQ.thenRet ?_))))))))
 refine TQ.blockRet (TQ.thenRet ?_)
 refine FQ.ret2 (v:=(.int _ _)) (x:=(.bool true)) (Bs:=[A _]) [0] Z Z Z Z ⟨Z,Zt⟩ ?_
 rw [Zn (by simpa using q2)] at hI; cases hI; exact ⟨rfl,rfl⟩
 refine dE Z (sA (xai Z (xaf Z (dR ?_))))
 refine FQ.ret2 (v:=(.int _ _)) (x:=(.bool false)) (Bs:=[A _]) [0] Z Z Z Z ⟨Z,Zt⟩ ?_
 rw [zde,Zn q1] at hI; cases hI; exact ⟨rfl,rfl⟩
theorem zqi {S:Type} [MemLike S] {mt:TypeId} {mv:Value} {A:S->Assn} (hM:MemI Tryz.prog mt mv A) {l:Lay} (hl:l.Ok) {p:Pen} {σ:S} {i u v r:Int} {k:Nat} {σ2:S} (h:smaller l k σ i u v=some (r,σ2)) (hz:Room (2 * k+2) σ:=by exact zaD):FnD Tryz.prog 213 [adjV l mt mv p,.int .i64 i,.int .i64 u,.int .i64 v] [A σ] (.int .i64 r) [A σ2]:=by
 unfold smaller at h
 obtain ⟨⟨a,σ1⟩,h1,h⟩:=Zb h
 obtain ⟨⟨b,σ3⟩,h2,h⟩:=Zb h
 dsimp only at h2 h
 cases h
 refine Fn.enter (Tryz.func213) Z Z (fun w0 R=>?_)
 refine sA (xB 1 Z (fun bk1=>(xai Z (dS (TC.seq (TC.draw (od [1,3,5,7,9,13,15,17,19,21,10,22,25]) [1] fc_m (by kernel_rfl) (xf 0 zaq Z (xf 0 zbh Z (xL6 1 zbV Z Z ?_)))))))))
 refine xmi Z (xmi Z (xf 0 zaq Z (xf 0 zbh Z (xL6 1 zbV Z Z (xmi Z (xmi Z (xd [0] (zpU hM hl h1) ztf Z (kL1 Z Zt) (xd [0] (zpU hM hl h2) ztf Z (kL1 Z Zt) ?_))))))))
 refine TL.lss Z Z Z Z (fun q1=>?_) (fun q1=>?_)
 refine dT Z (xmi Z (xai Z (dRR ?_)))
 refine FQ.ret1 (v:=(.int _ _)) (Bs:=[A _]) [0] Z Z Z ⟨Z,Zt⟩ ?_
 first | exact ⟨iE (by rw [Zp q1]),Z⟩ | exact ⟨iE (by rw [Zn q1]),Z⟩
 refine dF Z (xmi Z (xai Z (dR ?_)))
 refine FQ.ret1 (v:=(.int _ _)) (Bs:=[A _]) [0] Z Z Z ⟨Z,Zt⟩ ?_
 first | exact ⟨iE (by rw [Zp q1]),Z⟩ | exact ⟨iE (by rw [Zn q1]),Z⟩
theorem zhl {mt:TypeId} {mv:Value} {l:Lay} {p:Pen}:FnD Tryz.prog 133 [layV l,.iface mt mv,.agg #[.int .i64 p.thread,.int .i64 p.tag]] [] (adjV l mt mv p) []:=by
 refine Fn.enter (Tryz.func133) Z Z (fun w0 R=>?_)
 refine sA (xB 0 Z (fun bk0=>(xB 1 Z (fun bk1=>(TL.alloc 2 (cs:=#[.int .i64 0,.int .i64 0,.int .i64 0,.nilIface,.int .i64 0,.int .i64 0,.int .i64 0,.int .i64 0,.int .i64 0,.nilIface]) zs0 Z Z Z (fun _=>Zt) (fun bk2=>(dA (xL3 0 zab Z Z (xmc Z (xL2 1 zba Z Z (TL.bld [.int .i64 0,.int .i64 0,.int .i64 0,.nilIface,.int .i64 0,.int .i64 0] [(.agg _),(.iface _ _),(.agg _)] [_,_,_,_,_,_] zjA zob ⟨Z,Z,Z,Zt⟩ ⟨Z,Z⟩ Z Z ?_)))))))))))
 refine TL.bld [.int .i64 0,.int .i64 0,.int .i64 0,.nilIface,.int .i64 0,.int .i64 0] [(.agg _)] [_,_,_,_,_,_] zs1 zyH ⟨Z,Zt⟩ ⟨Z,Z⟩ Z Z (TL.alloc 3 (cs:=#[.int .i64 0,.int .i64 0,.int .i64 0,.nilIface,.int .i64 0,.int .i64 0]) zs1 Z Z Z (fun _=>Zt) (fun bk3=>(TL.stW 3 6 [_,_,_,_,_,_] Z Z Z Z Z Z zbV Z Z Zt (dA (xL6 3 zbV Z Z (xL3 0 zab Z Z (xmc Z (TL.bld [.int .i64 0,.int .i64 0,.int .i64 0,.nilIface] [(.agg _),(.iface _ _)] [_,_,_,_] zyx zyG ⟨Z,Z,Zt⟩ ⟨Z,Z⟩ Z Z ?_))))))))
 refine TL.bld [.int .i64 0,.int .i64 0,.int .i64 0,.nilIface,.int .i64 0,.int .i64 0,.int .i64 0,.int .i64 0,.int .i64 0,.nilIface] [(.agg _),(.agg _)] [_,_,_,_,_,_,_,_,_,_] zyw zyF ⟨Z,Z,Zt⟩ ⟨Z,Z⟩ Z Z (TL.bld [.int .i64 0,.int .i64 0,.int .i64 0,.nilIface,.int .i64 0,.int .i64 0,.int .i64 0,.int .i64 0,.int .i64 0,.nilIface] [(.agg _)] [_,_,_,_,_,_,_,_,_,_] zyv zyE ⟨Z,Zt⟩ ⟨Z,Z⟩ Z Z (TL.bld [.int .i64 0,.int .i64 0,.int .i64 0,.nilIface,.int .i64 0,.int .i64 0,.int .i64 0,.int .i64 0,.int .i64 0,.nilIface] [(.agg _)] [_,_,_,_,_,_,_,_,_,_] zs0 zyD ⟨Z,Zt⟩ ⟨Z,Z⟩ Z Z ?_))
 refine TL.stW 2 10 [_,_,_,_,_,_,_,_,_,_] Z Z Z Z Z Z zck Z Z Zt (dR ?_)
 refine FQ.retG (rs:=[.cell 6 196]) [(.agg _)] (Bs:=[]) [] Z ⟨⟨_,_,_,_,_,2,Z,Z,.inr ⟨10,[_,_,_,_,_,_,_,_,_,_],zck,Z,Z⟩⟩,Zt⟩ Z Z Zt ?_
 exact ⟨Z,Z⟩
theorem zsF {S:Type} [MemLike S] {mt:TypeId} {mv:Value} {A:S->Assn} (hM:MemI Tryz.prog mt mv A) {l:Lay} (hl:l.Ok) {p:Pen} {σ:S} {u v:Int} {b:Bool} {k:Nat} {σ2:S} (h:same l k σ 0 u v=some (b,σ2)) (hz:Room (2 * k) σ:=by exact zaD):FnD Tryz.prog 160 [adjV l mt mv p,.int .i64 u,.int .i64 v] [A σ] (.bool b) [A σ2]:=by
 refine Fn.enter (Tryz.func160) Z Z (fun w0 R=>?_)
 refine sA (xB 1 Z (fun bk1=>(xaf Z (dA (xf 0 zaV Z (xf 0 zaq Z (xf 0 zbh Z (xL6 1 zbV Z Z (xmi Z ?_)))))))))
 refine xmi Z (xD [0] (zrz hM hl h) ztu Z (xab Z (dR ?_)))
 refine FQ.ret1 (v:=(.bool _)) (Bs:=[A _]) [0] Z Z Z ⟨Z,Zt⟩ ?_
 exact ⟨Z,Z⟩
theorem zqE {S:Type} [MemLike S] {mt:TypeId} {mv:Value} {A:S->Assn} (hM:MemI Tryz.prog mt mv A) {l:Lay} (hl:l.Ok) {p:Pen} {σ:S} {s u v:Int} {b:Bool} {k:Nat} {σ2:S} (h:zbf l p k σ s u v=some (b,σ2)) (hz:Room (23 * k+46+k * (94 * k+24)) σ:=by exact zaD):FnD Tryz.prog 120 [adjV l mt mv p,.int .i64 s,.int .i64 u,.int .i64 v] [A σ] (.bool b) [A σ2]:=by
 unfold zbf at h
 obtain ⟨⟨j,σ1⟩,h1,h⟩:=Zb h
 dsimp only at h
 refine Fn.enter (Tryz.func120) Z Z (fun w0 R=>?_)
 refine sA (xB 1 Z (fun bk1=>(xaf Z (dA (xL10 1 zck Z Z (xmi Z (xmi Z (xD [0] (zsF hM hl h1) zzd Z (xab Z ?_)))))))))
 refine dA (xf 0 zaV Z (xf 0 zaq Z (xf 6 zaA Z (xL4 1 za3 Z Z (xmi Z (xmi Z (xmi Z (xD [0] (zzu hM hl) zzc Z ?_))))))))
 refine dB (xmb rfl (TL.cases rfl (fun q1=>?_) (fun q1=>?_)))
 refine TL.done (TQ.then (TC.condT Z (TC.region (xf 0 zaV Z (xf 0 zaq Z (xL10 1 zao Z Z (xmi Z ?_)))))))
 rw [Zp (by simpa using q1)] at h
 obtain ⟨σ3,h2,h3⟩:=Zb h
 cases h3
 refine xD [0] (znl hM hl h2) ztI Z (dA (xmb Z (TL.not _ _ Z Z Z Z (xab Z (dR ?_)))))
 refine FQ.ret1 (v:=(.bool _)) (Bs:=[A _]) [0] Z Z Z ⟨Z,Zt⟩ ?_
 first | exact ⟨by rw [q1]; rfl,Z⟩ | exact ⟨by simp [*],Z⟩
 refine TL.done (TQ.then (TC.condF Z (TC.region (xf 0 zaV Z (xL10 1 zaZ Z Z (xmi Z ?_))))))
 rw [Zn (by simpa using q1)] at h
 obtain ⟨σ3,h2,h3⟩:=Zb h
 cases h3
 refine xD [0] (zpd hM hl h2) ztH Z (dA (xmb Z (TL.not _ _ Z Z Z Z (xab Z (dR ?_)))))
 refine FQ.ret1 (v:=(.bool _)) (Bs:=[A _]) [0] Z Z Z ⟨Z,Zt⟩ ?_
 first | exact ⟨by rw [q1]; rfl,Z⟩ | exact ⟨by simp [*],Z⟩
theorem zqq {S:Type} [MemLike S] {mt:TypeId} {mv:Value} {A:S->Assn} (hM:MemI Tryz.prog mt mv A) {l:Lay} (hl:l.Ok) {p:Pen} {σ:S} {i u v:Int} {r:Int×Bool} {k:Nat} {σ2:S} (h:replace l p k σ i u v=some (r,σ2)) (hz:Room (33 * k+45+k * (113 * k+43)+k * (35 * k+69)+k * (94 * k+24)) σ:=by exact zaD):FnD Tryz.prog 176 [adjV l mt mv p,.int .i64 i,.int .i64 u,.int .i64 v] [A σ] (.tuple #[.int .i64 r.1,.bool r.2]) [A σ2]:=by
 unfold replace at h
 refine Fn.enter (Tryz.func176) Z Z (fun w0 R=>?_)
 refine sA (xB 1 Z (fun bk1=>(xai Z (xaf Z (dB (xmi Z (TL.add _ Z Z (Z) Z Z (xf 0 zaV Z (xf 0 zaq Z ?_)))))))))
 refine xf 6 zaA Z (xf 0 zaM Z (xL3 1 zab Z Z (xD [] (zcN hl) zgy Z (TL.geq Z Z Z Z (fun q1=>?_) (fun q1=>?_)))))
 refine dT Z (xai Z (xaf Z (dRR ?_)))
 refine FQ.ret2 (v:=(.int _ _)) (x:=(.bool false)) (Bs:=[A _]) [0] Z Z Z Z ⟨Z,Zt⟩ ?_
 first | (rw [Zp (by omega)] at h; cases h; exact ⟨rfl,rfl⟩) | exact ⟨by dsimp only at q2; rw [q2],rfl⟩ | (rw [Zn (by simpa using q2)] at h; cases h; exact ⟨by simp_all,rfl⟩)
 refine dF Z (xf 0 zaV Z (xL10 1 zaZ Z Z (xmi Z (xmi Z (xmi Z ?_)))))
 rw [Zn (by omega)] at h
 obtain ⟨⟨w,σ3⟩,h1,h⟩:=Zb h
 obtain ⟨σ4,h2,h⟩:=Zb h
 obtain ⟨⟨⟨b,ok⟩,σ5⟩,h3,h⟩:=Zb h
 dsimp only at h2 h3 h
 refine xD [0] (zqi hM hl h1) zy1 Z (xai Z (dA (xf 0 zaV Z (xL10 1 zaZ Z Z (xmi Z (xmi Z (xD [0] (zuV hM hl h2) zy0 Z (dB ?_))))))))
 refine xf 0 zaV Z (xL10 1 zaZ Z Z (xmi Z (xmi Z (xD [0] (zxC hM hl h3) zyZ Z (xmu Z (xei Z Z (TL.ext (.bool _) Z Z Z Z (xai Z ?_))))))))
 refine xab rfl (dA (xmb rfl (TL.cases rfl (fun q2=>?_) (fun q2=>?_))))
 refine dT Z (xf 0 zaV Z (xf 0 zaq Z (xL10 1 zao Z Z (xmi Z ?_))))
 rw [Zp (by simpa using q2)] at h
 obtain ⟨σ6,h4,h⟩:=Zb h
 obtain ⟨σ7,h5,h6⟩:=Zb h
 cases h6
 refine xD [0] (zj4 hM hl h4) zon Z (dG (xf 0 zaV Z (xL10 1 zaZ Z Z (xmi Z (xD [0] (zpd hM hl h5) ztH Z (dA (xmi Z (xmb Z ?_))))))))
 refine xai Z (xab Z (dR ?_))
 refine FQ.ret2 (v:=(.int _ _)) (x:=(.bool _)) (Bs:=[A _]) [0] Z Z Z Z ⟨Z,Zt⟩ ?_
 first | (rw [Zp (by omega)] at h; cases h; exact ⟨rfl,rfl⟩) | exact ⟨by dsimp only at q2; rw [q2],rfl⟩ | (rw [Zn (by simpa using q2)] at h; cases h; exact ⟨by simp_all,rfl⟩)
 refine dF Z (xmi Z (xmb Z (xai Z (xab Z (dR ?_)))))
 refine FQ.ret2 (v:=(.int _ _)) (x:=(.bool _)) (Bs:=[A _]) [0] Z Z Z Z ⟨Z,Zt⟩ ?_
 first | (rw [Zp (by omega)] at h; cases h; exact ⟨rfl,rfl⟩) | exact ⟨by dsimp only at q2; rw [q2],rfl⟩ | (rw [Zn (by simpa using q2)] at h; cases h; exact ⟨by simp_all,rfl⟩)
theorem zeT {S:Type} [MemLike S] {mt:TypeId} {mv:Value} {A:S->Assn} (hM:MemI Tryz.prog mt mv A) {l:Lay} (hl:l.Ok) {p:Pen} {σ:S} {s b:Int} {t o:Bool} {k:Nat} {σ2:S} (h:zbk l p k σ s=some ((t,b,o),σ2)) (hz:Room (14 * k+37+k * (69 * k+36)+k * (33 * k+45+k * (113 * k+43)+k * (35 * k+69)+k * (94 * k+24))) σ:=by exact zaD):FnD Tryz.prog 135 [adjV l mt mv p,.int .i64 s] [A σ] (.tuple #[.bool t,.int .i64 b,.bool o]) [A σ2]:=by
 unfold zbk at h
 dsimp only at h
 refine Fn.enter (Tryz.func135) Z Z (fun w0 R=>?_)
 refine sA (xB 1 Z (fun bk1=>(xaf Z (xai Z (xaf Z (dA (xf 0 zaV Z (xf 0 zaq Z (xf 6 zaA Z ?_)))))))))
 refine xL4 1 za3 Z Z (xmi Z (xD [0] (zdv hM hl) zdu Z (TL.alloc 2 (cs:=#[.int .i64 0,.int .i64 0,.int .i64 0,.bool false]) zdm Z Z Z (fun _=>Zt) (fun bk2=>(TL.stW 2 4 [_,_,_,_] Z Z Z Z Z Z zbU Z Z Zt (dB (xf 3 zoc Z (xlb 2 zd3 Z Z (TL.not _ _ Z Z Z Z ?_)))))))))
 refine TL.done (TQ.then (TC.cond Z (fun q1=>?_) (fun q1=>?_)))
 refine sA (xf 0 zaV Z (xf 0 zaq Z (xL10 1 zao Z Z (xmi Z ?_))))
 rw [Zn (by simpa using q1)] at h
 obtain ⟨σ3,h1,h2⟩:=Zb h
 cases h2
 refine xD [0] (zj4 hM hl h1) zon Z (dA (xf 0 zaV Z (xf 0 zaq Z (xf 6 zaA Z (xL4 1 za3 Z Z (xf 0 zbo Z (xli 2 zad Z Z (xf 1 zbn Z ?_))))))))
 refine xli 2 zad Z Z (xD [0] (zkP hM hl) ztE Z (dA (xaf Z (xai Z (xaf Z (dRR ?_))))))
 refine FQ.ret3 (v:=(.bool false)) (x:=(.int _ _)) (y:=(.bool false)) (Bs:=[A _]) [0] Z Z Z Z Z ⟨Z,Zt⟩ ?_
 exact ⟨Z,Z⟩
 refine TC.skip (TQ.then (sA (xf 0 zaV Z (xL10 1 zaZ Z Z (xmi Z ?_)))))
 rw [Zp (by simpa using q1)] at h
 obtain ⟨σ3,h1,h⟩:=Zb h
 obtain ⟨⟨⟨b2,o2⟩,σ4⟩,h2,h3⟩:=Zb h
 dsimp only at h2 h3
 cases h3
 refine xD [0] (zyq hM hl h1) zy9 Z (dA (xf 0 zaV Z (xf 0 zaq Z (xf 6 zaA Z (xL4 1 za3 Z Z (xf 0 zbo Z (xli 2 zad Z Z (xf 1 zbn Z ?_))))))))
 refine xli 2 zad Z Z (xD [0] (zkP hM hl) ztE Z (dB (xf 2 zbF Z (xli 2 zad Z Z (xai Z (dK (TC.loopK (X:=Nat×S×Int×Int×Bool) [2,4,7] [1,2] (fun y=>[(8,.int .i64 y.2.2.1),(5,.int .i64 y.2.2.2.1),(6,.bool y.2.2.2.2)]) (fun y=>[(0,A y.2.1)]) (fun y=>zbb l p (eget l σ s).u (eget l σ s).v y.1 k y.2.1 y.2.2.1 (y.2.2.2.1,y.2.2.2.2)=some ((b,o),σ2)/\Room (y.1 * (33 * k+45+k * (113 * k+43)+k * (35 * k+69)+k * (94 * k+24))) y.2.1) (fun y=>y.1) ((k,_,_,0,false)) ⟨h2,zaD⟩ ⟨Z,Z,Z,Zt⟩ ⟨Z,Zt⟩ (fun y hI=>?_))))))))
 obtain ⟨j,σ5,z,b4,o4⟩:=y
 obtain ⟨hI,hzI⟩:=hI
 rcases j with _ | j
 ·simp [zbb] at hI
 dsimp only at hI hzI
 rw [Nat.add_one_mul] at hzI
 refine TC.sub (env':=[(8,_),(5,_),(6,_),(2,_),(4,_),(7,_)]) (L':=[(0,_),(1,_),(2,_)]) ⟨Z,Z,Z,Z,Z,Z,Zt⟩ ⟨Z,Z,Z,Zt⟩ (sB (xmi Z (TL.geq Z Z Z Z (fun q2=>?_) (fun q2=>?_))))
 refine TL.done (TQ.then (TC.condT Z (TC.skip (TQ.then (TC.seq (TC.block (sA (xL10 1 zck Z Z ?_))))))))
 refine xmi Z (xf 0 zbo Z (xli 2 zad Z Z (xf 1 zbn Z (xli 2 zad Z Z ?_))))
 rw [zbb,Zp q2] at hI
 obtain ⟨⟨⟨b3,o3⟩,σ6⟩,h4,hI⟩:=Zb hI
 dsimp only at h4 hI
 refine xD [0] (zqq hM hl h4) zy8 rfl (xmu rfl (xei rfl rfl (TL.ext (.bool _) rfl rfl rfl rfl (xai rfl (xab rfl (dA (xmb rfl (TL.cases rfl (fun q3=>?_) (fun q3=>?_)))))))))
 refine TL.done (TQ.then (TC.condT Z (TC.exit (TQ.blockOut Z (TQ.thenExit (TQ.thenExit (TQ.blockHere (TQ.then ?_))))))))
 refine sA (xmi Z (xmb Z (xat Z (xai Z (xab Z (dR ?_))))))
 refine FQ.ret3 (v:=(.bool true)) (x:=(.int _ _)) (y:=(.bool _)) (Bs:=[A _]) [0] Z Z Z Z Z ⟨Z,Zt⟩ ?_
 rw [Zp (by simpa using q3)] at hI; cases hI; exact ⟨rfl,rfl⟩
 refine TL.done (TQ.then (TC.condF Z (TC.skip (TQ.inBlock (TQ.then (TC.region (xmi Z (TL.sub _ Z Z (Z) Z Z ?_))))))))
 refine xai Z (TL.done (TQ.roundK ((j,_,_,_,_)) ⟨⟨(by rw [Zn (by simpa using q3)] at hI; exact hI),zaD⟩,Nat.lt_succ_self _⟩ ⟨Z,Z,Z,Zt⟩ ⟨Z,Zt⟩ (kE3 Z Z Z Zt) (kL2 Z Z Zt)))
 refine dE Z (sA (xmi Z (xmb Z (xat Z (xai Z (xab Z (dR ?_)))))))
 refine FQ.ret3 (v:=(.bool true)) (x:=(.int _ _)) (y:=(.bool _)) (Bs:=[A _]) [0] Z Z Z Z Z ⟨Z,Zt⟩ ?_
 rw [zbb,Zn q2] at hI; cases hI; exact ⟨rfl,rfl⟩
theorem at_Li {ab mb N cap:Nat} {c:Cnt} {i:Int} (h0:0<=i) (h1:i<N):FnD Tryz.prog 82 [.pointer (some ⟨ab,0,none⟩),.int .i64 i,.pointer (some ⟨ab,1,none⟩)] [arO ab mb (N) cap 139 c] (.pointer (some ⟨mb,0+i.toNat * 1,none⟩)) [arO ab mb (N) cap 139 c.ld]:=by
 refine Fn.enter (Tryz.func82) Z Z (fun w0 R=>?_)
 refine sA (TL.asg (.pointer none) Z Z Z (dB (xmi Z (TL.lssF Z Z (by omega) Z Z (xmf Z (xmi Z (xmp Z (xN0 Z ?_))))))))
 refine xf 0 zdr Z (xls 0 zih Z Z (xz za6 Z (TL.geqF Z Z (by omega) Z Z (xpF Z (dF Z (xmp Z (xN0 Z (xli 0 zad Z Z ?_))))))))
 refine TL.add _ Z Z (Z) Z Z (xN0 Z (TL.st 0 #[_,_,_,_,_,_] (.int _ _) Z Z Z Z Z Z zad Z Z Zt (dA (xmp Z (xN0 Z (xf 0 zdr Z (xls 0 zih Z Z (xmi Z ?_))))))))
 refine TL.ia _ Z Z za6 (by omega) (by omega) Z Z Z (xap Z (dR ?_))
 refine FQ.ret1 (v:=(.pointer (some ⟨_,_,none⟩))) (Bs:=[_]) [0] Z Z Z ⟨Z,Zt⟩ ?_
 exact ⟨Z,Z⟩
theorem at_Si {ab mb N cap:Nat} {c:Cnt} {i:Int} (h0:0<=i) (h1:i<N):FnD Tryz.prog 82 [.pointer (some ⟨ab,0,none⟩),.int .i64 i,.pointer (some ⟨ab,2,none⟩)] [arO ab mb (N) cap 139 c] (.pointer (some ⟨mb,0+i.toNat * 1,none⟩)) [arO ab mb (N) cap 139 c.st]:=by
 refine Fn.enter (Tryz.func82) Z Z (fun w0 R=>?_)
 refine sA (TL.asg (.pointer none) Z Z Z (dB (xmi Z (TL.lssF Z Z (by omega) Z Z (xmf Z (xmi Z (xmp Z (xN0 Z ?_))))))))
 refine xf 0 zdr Z (xls 0 zih Z Z (xz za6 Z (TL.geqF Z Z (by omega) Z Z (xpF Z (dF Z (xmp Z (xN0 Z (xli 0 zad Z Z ?_))))))))
 refine TL.add _ Z Z (Z) Z Z (xN0 Z (TL.st 0 #[_,_,_,_,_,_] (.int _ _) Z Z Z Z Z Z zad Z Z Zt (dA (xmp Z (xN0 Z (xf 0 zdr Z (xls 0 zih Z Z (xmi Z ?_))))))))
 refine TL.ia _ Z Z za6 (by omega) (by omega) Z Z Z (xap Z (dR ?_))
 refine FQ.ret1 (v:=(.pointer (some ⟨_,_,none⟩))) (Bs:=[_]) [0] Z Z Z ⟨Z,Zt⟩ ?_
 exact ⟨Z,Z⟩
theorem at_o {ab mb N cap k:Nat} {c:Cnt} {i:Int} (h:¬(0<=i/\i<N)):FnD Tryz.prog 82 [.pointer (some ⟨ab,0,none⟩),.int .i64 i,.pointer (some ⟨ab,k,none⟩)] [arO ab mb (N) cap 139 c] (.pointer none) [arO ab mb (N) cap 139 c]:=by
 refine Fn.enter (Tryz.func82) Z Z (fun w0 R=>?_)
 refine sA (TL.asg (.pointer none) Z Z Z (dB (xmi Z (TL.lss Z Z Z Z (fun q1=>?_) (fun q1=>?_)))))
 refine xmt Z (xo Z (xo Z (xo Z (xo Z (xo Z (xo Z (xo Z (xpT Z ?_))))))))
 refine dT Z (TL.asg (.pointer none) Z Z Z (dRR ?_))
 refine FQ.ret1 (v:=(.pointer none)) (Bs:=[_]) [0] Z Z Z ⟨Z,Zt⟩ ?_
 exact ⟨Z,Z⟩
 refine xmf Z (xmi Z (xmp Z (xN0 Z (xf 0 zdr Z (xls 0 zih Z Z (xz za6 Z (TL.geq Z Z Z Z (fun q2=>?_) (fun q2=>?_))))))))
 refine xpH Z (dT Z (TL.asg (.pointer none) Z Z Z (dRR ?_)))
 refine FQ.ret1 (v:=(.pointer none)) (Bs:=[_]) [0] Z Z Z ⟨Z,Zt⟩ ?_
 exact ⟨Z,Z⟩
 refine xpF Z (TL.done (TQ.then (TC.condF Z (TC.skip (TQ.then (TC.seq ?_))))))
 exact absurd (by omega:False) id
theorem zzM {ab mb cap:Nat} {rs:Array Value} {σ:Array UInt64} {c:Cnt} {i:Int} (h0:0<=i) (h1:i<σ.size):FnD Tryz.prog 23 [.pointer (some ⟨ab,0,none⟩),.int .i64 i] [arO ab mb (σ.size) cap 139 c,pt mb (.cells (encM (σ)++rs) 29)] (.tuple #[.int .u64 (MemLike.get σ i),.int .i64 0]) [arO ab mb (σ.size) cap 139 c.ld,pt mb (.cells (encM (σ)++rs) 29)]:=by
 refine Fn.enter (Tryz.func23) Z Z (fun w0 R=>?_)
 refine sA (xai Z (xai Z (dA (xmp Z (xmi Z (xmp Z (xN0 Z (xf 1 zem Z ?_))))))))
 refine xf 0 zjI Z (xD [0] (at_Li h0 h1) zpJ Z (xap Z (dB (xmp Z (TL.nilP false Z Z zlR Z Z Z (dF Z (xmp Z (xN0 Z ?_))))))))
 refine TL.ldM 1 Z Z (by omega) (by omega) zkG Z Z (xai Z (xai Z (dR ?_)))
 refine FQ.ret2 (v:=(.int _ _)) (x:=(.int _ _)) (Bs:=[_,_]) [0,1] Z Z Z Z ⟨Z,Z,Zt⟩ ?_
 exact ⟨Z,Z⟩
theorem zzL {ab mb cap:Nat} {rs:Array Value} {σ:Array UInt64} {c:Cnt} {i:Int} (h:¬(0<=i/\i<σ.size)):FnD Tryz.prog 23 [.pointer (some ⟨ab,0,none⟩),.int .i64 i] [arO ab mb (σ.size) cap 139 c,pt mb (.cells (encM (σ)++rs) 29)] (.tuple #[.int .u64 (MemLike.get σ i),.int .i64 20]) [arO ab mb (σ.size) cap 139 c,pt mb (.cells (encM (σ)++rs) 29)]:=by
 refine Fn.enter (Tryz.func23) Z Z (fun w0 R=>?_)
 refine sA (xai Z (xai Z (dA (xmp Z (xmi Z (xmp Z (xN0 Z (xf 1 zem Z ?_))))))))
 refine xf 0 zjI Z (xD [0] (at_o h) zpJ Z (TL.asg (.pointer none) Z Z Z (dB (TL.mv (.pointer none) Z Z Z (TL.nilP true Z Z zlR Z Z Z (dT Z (xai Z (xai Z ?_))))))))
 refine dRR ?_
 refine FQ.ret2 (v:=(.int _ _)) (x:=(.int _ _)) (Bs:=[_,_]) [0,1] Z Z Z Z ⟨Z,Z,Zt⟩ ?_
 exact ⟨by rw [zf3,Zn h],Z⟩
theorem zwj {ab mb cap:Nat} {rs:Array Value} {σ:Array UInt64} {c:Cnt} {i:Int} (h0:0<=i) (h1:i<σ.size) {y:Int} (hv:0<=y/\y<18446744073709551616):FnD Tryz.prog 17 [.pointer (some ⟨ab,0,none⟩),.int .i64 i,.int .u64 y] [arO ab mb (σ.size) cap 139 c,pt mb (.cells (encM (σ)++rs) 29)] (.int .i64 0) [arO ab mb (σ.size) cap 139 c.st,pt mb (.cells (encM (MemLike.st σ i y)++rs) 29)]:=by
 refine Fn.enter (Tryz.func17) Z Z (fun w0 R=>?_)
 refine sA (xai Z (dA (xmp Z (xmi Z (xmp Z (xN0 Z (xf 1 zem Z (xf 1 zjH Z ?_))))))))
 refine xD [0] (at_Si h0 h1) zpJ Z (xap Z (dB (xmp Z (TL.nilP false Z Z zlR Z Z Z (dF Z (xmp Z (xmi Z (xN0 Z ?_))))))))
 refine TL.stM 1 Z Z Z (by omega) (by omega) (by omega) zkG Z Z Zt (dA (xai Z (dR ?_)))
 refine FQ.ret1 (v:=(.int _ _)) (Bs:=[_,_]) [0,1] Z Z Z ⟨Z,Z,Zt⟩ ?_
 exact ⟨Z,Z⟩
theorem zwi {ab mb cap:Nat} {rs:Array Value} {σ:Array UInt64} {c:Cnt} {i:Int} (h:¬(0<=i/\i<σ.size)) {y:Int} (hv:0<=y/\y<18446744073709551616):FnD Tryz.prog 17 [.pointer (some ⟨ab,0,none⟩),.int .i64 i,.int .u64 y] [arO ab mb (σ.size) cap 139 c,pt mb (.cells (encM (σ)++rs) 29)] (.int .i64 20) [arO ab mb (σ.size) cap 139 c,pt mb (.cells (encM (MemLike.st σ i y)++rs) 29)]:=by
 have hst:(MemLike.st σ i y:Array UInt64)=σ:=by rw [zj6,Zn h]
 refine Fn.enter (Tryz.func17) Z Z (fun w0 R=>?_)
 refine sA (xai Z (dA (xmp Z (xmi Z (xmp Z (xN0 Z (xf 1 zem Z (xf 1 zjH Z ?_))))))))
 refine xD [0] (at_o h) zpJ Z (TL.asg (.pointer none) Z Z Z (dB (TL.mv (.pointer none) Z Z Z (TL.nilP true Z Z zlR Z Z Z (dT Z (xai Z (dRR ?_)))))))
 refine FQ.ret1 (v:=(.int _ _)) (Bs:=[_,_]) [0,1] Z Z Z ⟨Z,Z,Zt⟩ ?_
 exact ⟨Z,by rw [hst]⟩
theorem zuC {ab mb:Nat} {σ:Array UInt64} {c:Cnt} {i:Int}:FnD Tryz.prog 23 [.pointer (some ⟨ab,0,none⟩),.int .i64 i] [arenaC ab mb 139 29 (σ) (c)] (.tuple #[.int .u64 (MemLike.get σ i),.int .i64 (if 0<=i/\i<σ.size then 0 else 20)]) [arenaC ab mb 139 29 (σ) (cntL σ i c)]:=by
 unfold cntL
 by_cases h:0<=i/\i<σ.size
 ·rw [Zp h,Zp h]; exact Fn.arenaC Z fun cap rs=>zzM h.1 h.2
 ·rw [Zn h,Zn h]; exact Fn.arenaC Z fun cap rs=>zzL h
theorem zqV {ab mb:Nat} {σ:Array UInt64} {c:Cnt} {i v:Int} (hv:0<=v/\v<18446744073709551616):FnD Tryz.prog 17 [.pointer (some ⟨ab,0,none⟩),.int .i64 i,.int .u64 v] [arenaC ab mb 139 29 (σ) (c)] (.int .i64 (if 0<=i/\i<σ.size then 0 else 20)) [arenaC ab mb 139 29 (MemLike.st σ i v) (cntS σ i c)]:=by
 unfold cntS
 by_cases h:0<=i/\i<σ.size
 ·rw [Zp h,Zp h]; exact Fn.arenaC (zgS _ _ _) fun cap rs=>zwj h.1 h.2 hv
 ·rw [Zn h,Zn h]; exact Fn.arenaC (zgS _ _ _) fun cap rs=>zwi h hv
theorem ziU {ab mb:Nat} {σ:Array UInt64} {i:Int}:FnD Tryz.prog 23 [.pointer (some ⟨ab,0,none⟩),.int .i64 i] [zal ab mb 139 29 (σ)] (.tuple #[.int .u64 (MemLike.get σ i),.int .i64 (if 0<=i/\i<σ.size then 0 else 20)]) [zal ab mb 139 29 (σ)]:=Fn.arena fun _=>⟨_,zuC⟩
theorem ze6 {ab mb:Nat} {σ:Array UInt64} {i v:Int} (hv:0<=v/\v<18446744073709551616):FnD Tryz.prog 17 [.pointer (some ⟨ab,0,none⟩),.int .i64 i,.int .u64 v] [zal ab mb 139 29 (σ)] (.int .i64 (if 0<=i/\i<σ.size then 0 else 20)) [zal ab mb 139 29 (MemLike.st σ i v)]:=Fn.arena fun _=>⟨_,zqV hv⟩
theorem zvl {ab mb:Nat} {σ:Array UInt64} {i:Int}:FnD Tryz.prog 301 [.agg #[.pointer (some ⟨ab,0,none⟩)],.int .i64 i] [zal ab mb 139 29 (σ)] (.int .u64 (MemLike.get σ i)) [zal ab mb 139 29 (σ)]:=by
 refine Fn.enter (Tryz.func301) Z Z (fun w0 R=>?_)
 refine sA (xB 1 Z (fun bk1=>(xai Z (dA (xf 0 zjF Z (xlp 1 zdU Z Z (xmi Z (xD [0] ziU zpL Z (xmu Z ?_)))))))))
 refine xei Z Z (xei Z Z (xai Z (xai Z (dA (xmi Z (xai Z (dR ?_)))))))
 refine FQ.ret1 (v:=(.int _ _)) (Bs:=[zal ab mb 139 29 (σ)]) [0] Z Z Z ⟨Z,Zt⟩ ?_
 exact ⟨Z,Z⟩
theorem zrX {ab mb:Nat} {σ:Array UInt64} {i:Int} {y:Int} (hv:0<=y/\y<18446744073709551616):FnD Tryz.prog 302 [.agg #[.pointer (some ⟨ab,0,none⟩)],.int .i64 i,.int .u64 y] [zal ab mb 139 29 (σ)] (.tuple #[]) [zal ab mb 139 29 (MemLike.st σ i y)]:=by
 refine Fn.enter (Tryz.func302) Z Z (fun w0 R=>?_)
 refine sA (xB 1 Z (fun bk1=>(dG (xf 0 zjF Z (xlp 1 zdU Z Z (xmi Z (xmi Z (xD [0] (ze6 hv) zkO Z (TL.done ?_)))))))))
 refine FQ.end0 (Bs:=[_]) [0] Z Z ⟨Z,Zt⟩ ?_
 exact ⟨Z,Z⟩
theorem zfz {ab mb:Nat}:MemI (S:=Array UInt64) Tryz.prog 149 (.agg #[.pointer (some ⟨ab,0,none⟩)]) (zal ab mb 139 29) :=
 ⟨⟨301,_,ziF (by kernel_rfl) (by kernel_rfl),fun _ _ _=>zvl⟩,⟨302,_,ziF (by kernel_rfl) (by kernel_rfl),fun _ _ _ hv _=>zrX hv⟩⟩
theorem zzH {N:Nat} (hN:N<=16384):Go.Eng.Fn Tryz.prog 16 [.int .i64 ((N:Nat):Int)] [] (fun v Bs=>∃ ab mb,v=.tuple #[.pointer (some ⟨ab,0,none⟩),.int .i64 0]/\Bs=[arenaC ab mb 139 29 (Array.replicate N 0) (⟨0,0,0,0,0⟩)]):=by
 refine Fn.enter (Tryz.func16) Z Z (fun w0 R=>?_)
 refine sA (TL.asg (.pointer none) Z Z Z (xai Z (dB (xmi Z (TL.lssF Z Z (by omega) Z Z (xmf Z (xmi Z (TL.gtrF Z Z (by omega) Z Z ?_))))))))
 refine xpF Z (dF Z (xmi Z (TL.mkS 0 Z Z zjC zAt Z (by omega) Z Z (fun bk0=>⟨Zt,?_⟩))))
 refine TL.bld [.slice none 0 0,.int .i64 0,.int .i64 0,.int .i64 0,.int .i64 0,.int .i64 0] [(.slice _ _ _)] [_,_,_,_,_,_] zs3 zs7 ⟨Z,Zt⟩ ⟨Z,Z⟩ Z Z (xB 1 Z (fun bk1=>(xap Z (xai Z (dR (TQ.conseq 0 (B:=pt _ (.cells (encM (Array.replicate N 0)++#[]) 29)) Z (fun h hh=>by rw [<-zvX,Array.append_empty]; exact hh) (TQ.arenaC 1 0 (N:=N) (c:=⟨0,0,0,0,0⟩) (by simp) Z Z (by decide) ?_)))))))
 refine FQ.ret2 (v:=(.pointer (some ⟨_,_,none⟩))) (x:=(.int _ _)) (Bs:=[_]) [1] Z Z Z Z ⟨Z,Zt⟩ ?_
 exact ⟨_,_,Z,Z⟩
theorem zfh {ab:Nat}:FnD Tryz.prog 85 [.pointer (some ⟨ab,0,none⟩)] [] (.agg #[.pointer (some ⟨ab,0,none⟩)]) []:=by
 refine Fn.enter (Tryz.func85) Z Z (fun w0 R=>?_)
 refine sA (TL.alloc 0 (cs:=#[.pointer none]) zs2 Z Z Z (fun _=>Zt) (fun bk0=>(dA (xmp Z (TL.bld [.pointer none] [(.pointer (some ⟨_,_,none⟩))] [_] zs2 zyI ⟨Z,Zt⟩ ⟨Z,Z⟩ Z Z (TL.stW 0 1 [_] Z Z Z Z Z Z zm9 Z Z Zt (dR ?_)))))))
 refine FQ.retG (rs:=[.cell 2 149]) [(.agg _)] (Bs:=[]) [] Z ⟨⟨_,_,_,_,_,0,Z,Z,.inr ⟨1,[_],zm9,Z,Z⟩⟩,Zt⟩ Z Z Zt ?_
 exact ⟨Z,Z⟩
theorem zzO {x:Int}:FnD Tryz.prog 189 [.int .i64 x] [] (wdV (wofI x)) []:=by
 refine Fn.enter (Tryz.func189) Z Z (fun w0 R=>?_)
 refine sA (TL.alloc 0 (cs:=#[.int .i64 0,.int .i64 0,.int .i64 0,.int .i64 0]) zb9 Z Z Z (fun _=>Zt) (fun bk0=>(dA (xmi Z (TL.max2 Z Z Z Z (TL.min2 Z Z Z Z (xai Z (dA (xmi Z ?_)))))))))
 refine xmi Z (TL.bld [.int .i64 0,.int .i64 0,.int .i64 0,.int .i64 0] [(.int _ _),(.int _ _)] [_,_,_,_] zb9 zhS ⟨Z,Z,Zt⟩ ⟨Z,Z⟩ Z Z (TL.stW 0 4 [_,_,_,_] Z Z Z Z Z Z zaI Z Z Zt (dR ?_)))
 refine FQ.retG (rs:=[.cell 2 260]) [(.agg _)] (Bs:=[]) [] Z ⟨⟨_,_,_,_,_,0,Z,Z,.inr ⟨4,[_,_,_,_],zaI,Z,Z⟩⟩,Zt⟩ Z Z Zt ?_
 exact ⟨Z,Z⟩
theorem zxw {tag:Int} {dn:Bool} (h:0<=tag/\tag<=16777215):FnD Tryz.prog 231 [.int .i64 tag,.bool dn] [] (.tuple #[.int .u64 (zaT tag dn),.int .i64 0]) []:=by
 refine Fn.enter (Tryz.func231) Z Z (fun w0 R=>?_)
 refine sA (xai Z (xai Z (dB (xmi Z (xD [] zeJ zhZ Z ?_)))))
 rw [decide_eq_true h]
 refine xnt rfl (dF rfl (xmi rfl (TL.conv _ rfl zgr zbu (rfl) rfl rfl (TL.shl _ rfl rfl (by decide) rfl rfl rfl (xai rfl (dB (xmb rfl (TL.cases rfl (fun q1=>?_) (fun q1=>?_)))))))))
 refine TL.done (TQ.then (TC.condT Z (TC.region (xmi Z (TL.or _ Z Z Z Z Z (xai Z (dA (xmi Z ?_))))))))
 refine xai Z (xai Z (dR ?_))
 refine FQ.ret2 (v:=(.int _ _)) (x:=(.int _ _)) (Bs:=[]) [] Z Z Z Z Zt ?_
 first | exact ⟨by unfold zaT; rw [Zp q1]; rfl,Z⟩ | exact ⟨by unfold zaT; rw [Zn (by rw [q1]; decide)]; rfl,Z⟩
 refine dF Z (xmi Z (xai Z (xai Z (dR ?_))))
 refine FQ.ret2 (v:=(.int _ _)) (x:=(.int _ _)) (Bs:=[]) [] Z Z Z Z Zt ?_
 first | exact ⟨by unfold zaT; rw [Zp q1]; rfl,Z⟩ | exact ⟨by unfold zaT; rw [Zn (by rw [q1]; decide)]; rfl,Z⟩
theorem zxv {tag:Int} {dn:Bool} (h:¬(0<=tag/\tag<=16777215)):FnD Tryz.prog 231 [.int .i64 tag,.bool dn] [] (.tuple #[.int .u64 0,.int .i64 11]) []:=by
 refine Fn.enter (Tryz.func231) Z Z (fun w0 R=>?_)
 refine sA (xai Z (xai Z (dB (xmi Z (xD [] zeJ zhZ Z ?_)))))
 rw [decide_eq_false h]
 refine xnf Z (dT Z (xai Z (xai Z (dRR ?_))))
 refine FQ.ret2 (v:=(.int _ _)) (x:=(.int _ _)) (Bs:=[]) [] Z Z Z Z Zt ?_
 exact ⟨Z,Z⟩
theorem zmQ {l:Lay} (hl:l.Ok) {t:Int}:FnD Tryz.prog 70 [layV l,.int .i64 t] [] (.int .i64 (l.state t)) []:=by
 have hb:=zbL hl
 refine Fn.enter (Tryz.func70) Z Z (fun w0 R=>?_)
 refine sA (xB 0 Z (fun bk0=>(xai Z (dB (xmi Z (TL.sub _ Z Z (Z) Z Z (xf 2 ze2 Z (xli 0 zad Z Z (xD [] zbA zdc Z ?_)))))))))
 refine TL.casesP Z (fun q1=>?_) (fun q1=>?_)
 refine xnt Z (dF Z (xmi Z (TL.sub _ Z Z (Z) Z Z (xai Z (dR ?_)))))
 refine FQ.ret1 (v:=(.int _ _)) (Bs:=[]) [] Z Z Z Zt ?_
 first | exact ⟨iE (by unfold Lay.state; rw [Zp (by omega)]),Z⟩ | exact ⟨iE (by unfold Lay.state; rw [Zn (by omega)]),Z⟩
 refine xnf Z (dT Z (xai Z (dRR ?_)))
 refine FQ.ret1 (v:=(.int _ _)) (Bs:=[]) [] Z Z Z Zt ?_
 first | exact ⟨iE (by unfold Lay.state; rw [Zp (by omega)]),Z⟩ | exact ⟨iE (by unfold Lay.state; rw [Zn (by omega)]),Z⟩
theorem zpx {l:Lay} (hl:l.Ok) {s:Int}:FnD Tryz.prog 138 [layV l,.int .i64 s] [] (.int .i64 (l.of s 0)) []:=by
 have hb:=zbL hl
 refine Fn.enter (Tryz.func138) Z Z (fun w0 R=>?_)
 refine sA (xB 0 Z (fun bk0=>(xai Z (dA (xL3 0 zab Z Z (xmi Z (xD [] (zsg hl (by omega)) zjP Z (xai Z (dR ?_)))))))))
 refine FQ.ret1 (v:=(.int _ _)) (Bs:=[]) [] Z Z Z Zt ?_
 exact ⟨Z,Z⟩
theorem zng {o m t g:Int}:FnD Tryz.prog 188 [.agg #[.int .i64 o,.int .i64 m,.int .i64 t,.int .i64 g]] [] (wdV (wofI m)) []:=by
 refine Fn.enter (Tryz.func188) Z Z (fun w0 R=>?_)
 refine sA (xB 0 Z (fun bk0=>(TL.alloc 1 (cs:=#[.int .i64 0,.int .i64 0,.int .i64 0,.int .i64 0]) zb9 Z Z Z (fun _=>Zt) (fun bk1=>(dA (xf 1 zcz Z (xli 0 zad Z Z (xD [] zzO zy7 Z (TL.stW 1 4 [_,_,_,_] Z Z Z Z Z Z zaI Z Z Zt (dR ?_))))))))))
 refine FQ.retG (rs:=[.cell 2 260]) [(.agg _)] (Bs:=[]) [] Z ⟨⟨_,_,_,_,_,1,Z,Z,.inr ⟨4,[_,_,_,_],zaI,Z,Z⟩⟩,Zt⟩ Z Z Zt ?_
 exact ⟨Z,Z⟩
theorem zuj {S:Type} [MemLike S] {mt:TypeId} {mv:Value} {A:S->Assn} (hM:MemI Tryz.prog mt mv A) {σ:S} {c:Int} (h:(zae (MemLike.get σ c)).2=false) (hz:Room (2) σ:=by exact zaD):FnD Tryz.prog 187 [.iface mt mv,.int .i64 c,.func (.func 188) #[] #[]] [A σ] (.tuple #[]) [A (MemLike.ld σ c)]:=by
 refine Fn.enter (Tryz.func187) Z Z (fun w0 R=>?_)
 refine sA (xmc Z (xmi Z (TL.mload 0 hM Z Z Z Z Z Zt (xD [] zdB zfW Z (xmu Z (TL.ext (.agg _) Z Z Z Z (xei Z Z (TL.alloc 1 (cs:=#[.int .i64 0,.int .i64 0,.int .i64 0,.int .i64 0]) zb9 Z Z Z (fun _=>Zt) (fun bk1=>?_)))))))))
 refine TL.stW 1 4 [_,_,_,_] Z Z Z Z Z Z zaI Z Z Zt (xai Z (dB (xmi Z (TL.neqT Z Z (by rw [h]; decide) Z Z (TL.done (TQ.then (TC.condT Z (TC.ret ?_))))))))
 refine TQ.thenRet ?_
 refine FQ.ret0 (Bs:=[A (MemLike.ld σ c)]) [0] Z Z ⟨Z,Zt⟩ ?_
 exact ⟨Z,Z⟩
theorem zui {S:Type} [MemLike S] {mt:TypeId} {mv:Value} {A:S->Assn} (hM:MemI Tryz.prog mt mv A) {σ:S} {c:Int} (h:(zae (MemLike.get σ c)).2=true) (h2:(wofI (zae (MemLike.get σ c)).1.new).right=false) (hz:Room (2) σ:=by exact zaD):FnD Tryz.prog 187 [.iface mt mv,.int .i64 c,.func (.func 188) #[] #[]] [A σ] (.tuple #[]) [A (MemLike.ld σ c)]:=by
 refine Fn.enter (Tryz.func187) Z Z (fun w0 R=>?_)
 refine sA (xmc Z (xmi Z (TL.mload 0 hM Z Z Z Z Z Zt (xD [] zdB zfW Z (xmu Z (TL.ext (.agg _) Z Z Z Z (xei Z Z (TL.alloc 1 (cs:=#[.int .i64 0,.int .i64 0,.int .i64 0,.int .i64 0]) zb9 Z Z Z (fun _=>Zt) (fun bk1=>?_)))))))))
 refine TL.stW 1 4 [_,_,_,_] Z Z Z Z Z Z zaI Z Z Zt (xai Z (dB (xmi Z (TL.neqF Z Z (by rw [h]; decide) Z Z (dF Z (TL.mv (.func _ _ _) Z Z Z (xL4 1 zaI Z Z (TL.callC (c1:=[]) (c2:=[]) (vs:=[_]) [] [] Z zng ⟨Z,Zt⟩ Zt ztA Z Z Z Z Z Zt ?_))))))))
 refine xD [] zll zlW Z (xmu Z (xei Z Z (xei Z Z (xai Z (xai Z (dA (xmi Z (TL.eqlF Z Z (by rw [h2]; decide) Z Z ?_))))))))
 refine TL.done (TQ.then (TC.condF Z (TC.skip ?_)))
 refine FQ.end0 (Bs:=[A (MemLike.ld σ c)]) [0] Z Z ⟨Z,Zt⟩ ?_
 exact ⟨Z,Z⟩
theorem zuh {S:Type} [MemLike S] {mt:TypeId} {mv:Value} {A:S->Assn} (hM:MemI Tryz.prog mt mv A) {σ:S} {c:Int} (h:(zae (MemLike.get σ c)).2=true) (h2:(wofI (zae (MemLike.get σ c)).1.new).right=true) (hz:Room (2) σ:=by exact zaD):FnD Tryz.prog 187 [.iface mt mv,.int .i64 c,.func (.func 188) #[] #[]] [A σ] (.tuple #[]) [A (MemLike.st (MemLike.ld σ c) c (wofI (zae (MemLike.get σ c)).1.new).pack)]:=by
 refine Fn.enter (Tryz.func187) Z Z (fun w0 R=>?_)
 refine sA (xmc Z (xmi Z (TL.mload 0 hM Z Z Z Z Z Zt (xD [] zdB zfW Z (xmu Z (TL.ext (.agg _) Z Z Z Z (xei Z Z (TL.alloc 1 (cs:=#[.int .i64 0,.int .i64 0,.int .i64 0,.int .i64 0]) zb9 Z Z Z (fun _=>Zt) (fun bk1=>?_)))))))))
 refine TL.stW 1 4 [_,_,_,_] Z Z Z Z Z Z zaI Z Z Zt (xai Z (dB (xmi Z (TL.neqF Z Z (by rw [h]; decide) Z Z (dF Z (TL.mv (.func _ _ _) Z Z Z (xL4 1 zaI Z Z (TL.callC (c1:=[]) (c2:=[]) (vs:=[_]) [] [] Z zng ⟨Z,Zt⟩ Zt ztA Z Z Z Z Z Zt ?_))))))))
 refine xD [] zll zlW Z (xmu Z (xei Z Z (xei Z Z (xai Z (xai Z (dA (xmi Z (TL.eqlT Z Z (by rw [h2]; decide) Z Z ?_))))))))
 refine TL.done (TQ.then (TC.condT Z (TC.region (xmc Z (xmi Z (xmi Z (TL.mstore 0 hM Z Z Z (by rw [h2]; exact zby _ _) Z Z Z Zt (TL.done ?_))))))))
 refine FQ.end0 (Bs:=[A _]) [0] Z Z ⟨Z,Zt⟩ ?_
 exact ⟨Z,by rw [h2]; rfl⟩
theorem zqO {S:Type} [MemLike S] {mt:TypeId} {mv:Value} {A:S->Assn} (hM:MemI Tryz.prog mt mv A) {σ:S} {c:Int} (hz:Room (2) σ:=by exact zaD):FnD Tryz.prog 187 [.iface mt mv,.int .i64 c,.func (.func 188) #[] #[]] [A σ] (.tuple #[]) [A (zbs σ c)]:=by
 unfold zbs
 cases h:(zae (MemLike.get σ c)).2
 ·exact zuj hM h
 ·rw [Zp Z]
  cases h2:(wofI (zae (MemLike.get σ c)).1.new).right
  ·exact zui hM h h2
  ·exact zuh hM h h2
theorem zpX {S:Type} [MemLike S] {mt:TypeId} {mv:Value} {A:S->Assn} (hM:MemI Tryz.prog mt mv A) {σ:S} {p:Pen} {c:Int} (hz:Room (2) σ:=by exact zaD):FnD Tryz.prog 148 [.agg #[.int .i64 p.thread,.int .i64 p.tag],.iface mt mv,.int .i64 c] [A σ] (.tuple #[]) [A (zbs σ c)]:=by
 refine Fn.enter (Tryz.func148) Z Z (fun w0 R=>?_)
 refine sA (xB 1 Z (fun bk1=>(dG (xmc Z (xmi Z (xD [0] (zqO hM) ztB Z (TL.done ?_)))))))
 refine FQ.end0 (Bs:=[A (zbs σ c)]) [0] Z Z ⟨Z,Zt⟩ ?_
 exact ⟨Z,Z⟩
theorem zvf {S:Type} [MemLike S] {mt:TypeId} {mv:Value} {A:S->Assn} (hM:MemI Tryz.prog mt mv A) {fS:FuncId} (hfS:zhb Tryz.prog mt "Store" fS=true) {l:Lay} (hl:l.Ok) {p:Pen} {σ:S} {tag:Int} {dn:Bool} (h:0<=tag/\tag<=16777215) (hz:Room (1) σ:=by exact zaD):FnD Tryz.prog 201 [.agg #[.int .i64 p.thread,.int .i64 p.tag],.iface mt mv,layV l,.int .i64 tag,.bool dn] [A σ] (.tuple #[]) [A (MemLike.st σ (l.state p.thread) (zaT tag dn))]:=by
 refine Fn.enter (Tryz.func201) Z Z (fun w0 R=>?_)
 refine sA (xB 1 Z (fun bk1=>(xB 2 Z (fun bk2=>(dA (xmi Z (xmb Z (xD [] (zxw h) ztj Z (xmu Z (xei Z Z ?_))))))))))
 refine xei Z Z (xai Z (xai Z (dA (xmi Z (TL.eqlT Z Z (by decide) Z Z (TL.done (TQ.then (TC.condT Z ?_))))))))
 refine TC.draw (od [1,3,5,7,11,13,15,17,8,18]) [1,2] fc_m (by kernel_rfl) (xmc Z (xL3 2 zab Z Z (xf 0 zdt Z (xli 1 zad Z Z (xmi Z (TL.mf (xs:=[_]) (ys:=[]) [_] [] ⟨Z,Zt⟩ Zt Z Z (TL.ncM hfS Z Z Z (xmc Z ?_))))))))
 refine xd [] (zmQ hl) zwY Z (kL2 Z Z Zt) (TL.mstore 0 hM Z Z Z (zf8 h _) Z Z Z (kL2 Z Z Zt) (TL.done ?_))
 refine FQ.end0 (Bs:=[A _]) [0] Z Z ⟨Z,Zt⟩ ?_
 exact ⟨Z,Z⟩
theorem zve {S:Type} [MemLike S] {mt:TypeId} {mv:Value} {A:S->Assn} (hM:MemI Tryz.prog mt mv A) {fS:FuncId} (hfS:zhb Tryz.prog mt "Store" fS=true) {l:Lay} (hl:l.Ok) {p:Pen} {σ:S} {tag:Int} {dn:Bool} (h:¬(0<=tag/\tag<=16777215)) (hz:Room (1) σ:=by exact zaD):FnD Tryz.prog 201 [.agg #[.int .i64 p.thread,.int .i64 p.tag],.iface mt mv,layV l,.int .i64 tag,.bool dn] [A σ] (.tuple #[]) [A (σ)]:=by
 refine Fn.enter (Tryz.func201) Z Z (fun w0 R=>?_)
 refine sA (xB 1 Z (fun bk1=>(xB 2 Z (fun bk2=>(dA (xmi Z (xmb Z (xD [] (zxv h) ztj Z (xmu Z (xei Z Z ?_))))))))))
 refine xei Z Z (xai Z (xai Z (dA (xmi Z (TL.eqlF Z Z (by decide) Z Z (TL.done (TQ.then (TC.condF Z ?_))))))))
 refine TC.skip ?_
 refine FQ.end0 (Bs:=[A _]) [0] Z Z ⟨Z,Zt⟩ ?_
 exact ⟨Z,Z⟩
theorem zmC {S:Type} [MemLike S] {mt:TypeId} {mv:Value} {A:S->Assn} (hM:MemI Tryz.prog mt mv A) {fS:FuncId} (hfS:zhb Tryz.prog mt "Store" fS=true) {l:Lay} (hl:l.Ok) {p:Pen} {σ:S} {tag:Int} {dn:Bool} (hz:Room (1) σ:=by exact zaD):FnD Tryz.prog 201 [.agg #[.int .i64 p.thread,.int .i64 p.tag],.iface mt mv,layV l,.int .i64 tag,.bool dn] [A σ] (.tuple #[]) [A (za0 l p σ tag dn)]:=by
 unfold za0
 by_cases h:0<=tag/\tag<=16777215
 ·rw [Zp h]; exact zvf hM hfS hl h
 ·rw [Zn h]; exact zve hM hfS hl h
theorem zqu {S:Type} [MemLike S] {mt:TypeId} {mv:Value} {A:S->Assn} (hM:MemI Tryz.prog mt mv A) {fS:FuncId} (hfS:zhb Tryz.prog mt "Store" fS=true) {l:Lay} (hl:l.Ok) {p:Pen} {σ:S} (hz:Room (1) σ:=by exact zaD):FnD Tryz.prog 156 [.agg #[.int .i64 p.thread,.int .i64 p.tag],.iface mt mv,layV l] [A σ] (.tuple #[]) [A (za0 l p σ p.tag true)]:=by
 refine Fn.enter (Tryz.func156) Z Z (fun w0 R=>?_)
 refine sA (xB 1 Z (fun bk1=>(xB 2 Z (fun bk2=>(dG (xL2 1 zba Z Z (xmc Z (xL3 2 zab Z Z (xf 1 zds Z (xli 1 zad Z Z ?_))))))))))
 refine xD [0] (zmC hM hfS hl) ztv Z (TL.done ?_)
 refine FQ.end0 (Bs:=[A (za0 l p σ p.tag true)]) [0] Z Z ⟨Z,Zt⟩ ?_
 exact ⟨Z,Z⟩
theorem zxS {S:Type} [MemLike S] {mt:TypeId} {mv:Value} {A:S->Assn} (hM:MemI Tryz.prog mt mv A) {fS:FuncId} (hfS:zhb Tryz.prog mt "Store" fS=true) {l:Lay} (hl:l.Ok) {p:Pen} {σ:S} (hz:Room (1) σ:=by exact zaD):FnD Tryz.prog 158 [.agg #[.int .i64 p.thread,.int .i64 p.tag],.iface mt mv,layV l] [A σ] (.tuple #[]) [A (za0 l p σ (IntKind.i64.wrap (p.tag+1)) false)]:=by
 refine Fn.enter (Tryz.func158) Z Z (fun w0 R=>?_)
 refine sA (xB 1 Z (fun bk1=>(xB 2 Z (fun bk2=>(dG (xL2 1 zba Z Z (xmc Z (xL3 2 zab Z Z (xf 1 zds Z (xli 1 zad Z Z ?_))))))))))
 refine TL.add _ Z Z (Z) Z Z (xD [0] (zmC hM hfS hl) ztv Z (TL.done ?_))
 refine FQ.end0 (Bs:=[A (za0 l p σ (IntKind.i64.wrap (p.tag+1)) false)]) [0] Z Z ⟨Z,Zt⟩ ?_
 exact ⟨Z,Z⟩
theorem zsq {l:Lay} (hl:l.Ok)  : FnD Tryz.prog 114 [layV l] [] (.bool true) []:=by
 have hb:=zbL hl
 refine Fn.enter (Tryz.func114) Z Z (fun w0 R=>?_)
 refine sA (xB 0 Z (fun bk0=>(xaf Z (dA (xf 0 zaJ Z (xli 0 zad Z Z (TL.sub _ Z Z (wr64 (by omega)) Z Z (xD [] zbA zdc Z (TL.casesP Z (fun q1=>?_) (fun q1=>?_))))))))))
 refine xmt Z (xf 1 zbC Z (xli 0 zad Z Z (xD [] zbA zdc Z (TL.casesP Z (fun q2=>?_) (fun q2=>?_)))))
 refine xpT Z (xmt Z (xf 2 ze2 Z (xli 0 zad Z Z (TL.sub _ Z Z (wr64 (by omega)) Z Z (xD [] zbA zdc Z (TL.pickT (.bool _) Z Z Z Z (xab Z (dR ?_))))))))
 refine FQ.ret1 (v:=(.bool _)) (Bs:=[]) [] Z Z Z Zt ?_
 first | exact ⟨congrArg Value.bool (decide_eq_true (by omega)),Z⟩ | (exfalso; omega)
 refine xpG Z (xmf Z (xo Z (xo Z (xo Z (xo Z (xpF Z (xaf Z (dR ?_))))))))
 refine FQ.ret1 (v:=(.bool false)) (Bs:=[]) [] Z Z Z Zt ?_
 first | exact ⟨congrArg Value.bool (decide_eq_true (by omega)),Z⟩ | (exfalso; omega)
 refine xmf Z (xo Z (xo Z (xo Z (xpF Z (xmf Z (xo Z (xo Z (xo Z ?_))))))))
 refine xo Z (xpF Z (xaf Z (dR ?_)))
 refine FQ.ret1 (v:=(.bool false)) (Bs:=[]) [] Z Z Z Zt ?_
 first | exact ⟨congrArg Value.bool (decide_eq_true (by omega)),Z⟩ | (exfalso; omega)
theorem zu4 {mt:TypeId} {mv:Value} {A:Array UInt64->Assn} (hM:MemI Tryz.prog mt mv A) {fS:FuncId} (hfS:zhb Tryz.prog mt "Store" fS=true) {l:Lay} (hl:l.Ok) {σ:Array UInt64}:FnD Tryz.prog 115 [.iface mt mv,layV l] [A σ] (.tuple #[]) [A (zio l σ)]:=by
 have hb:=zbL hl
 refine Fn.enter (Tryz.func115) Z Z (fun w0 R=>?_)
 refine sA (xB 1 Z (fun bk1=>(dB (xf 1 zbC Z (xli 1 zad Z Z (xmi Z (dK (TC.loopK (X:=Nat) [0,3,6] [1] (fun s=>[(7,.int .i64 ((s:Nat):Int))]) (fun s=>[(0,A (zeM l s σ))]) (fun s=>s<=l.S) (fun s=>l.S - s) (0) (Nat.zero_le _) ⟨Z,Zt⟩ ⟨Z,Zt⟩ (fun s hI=>(TC.sub (env':=[(7,_),(0,_),(3,_),(6,_)]) (L':=[(0,_),(1,_)]) ⟨Z,Z,Z,Z,Zt⟩ ⟨Z,Z,Zt⟩ ?_))))))))))
 refine sA (TL.lss Z Z Z Z (fun q1=>?_) (fun q1=>?_))
 refine dS (TC.condT Z (TC.skip (TQ.then (TC.seq (TC.block (sA (xmi Z (xai Z ?_))))))))
 refine TL.done (TQ.then (TC.draw (od [1,3,5,9,11,13,15,17,19,6,20]) [1] fc_m (by kernel_rfl) (xmc Z (xL3 1 zab Z Z (xmi Z (xmi Z (TL.add _ Z Z (wr64 (by omega)) Z Z (TL.conv _ Z zgr zbu (zuJ (by omega)) Z Z ?_))))))))
 refine TL.mf (xs:=[_]) (ys:=[]) [_] [] ⟨Z,Zt⟩ Zt Z Z (TL.ncM hfS Z Z Z (xmc Z (xd [] (zpx hl) ztM Z (kL1 Z Zt) (TL.mstore 0 hM Z Z Z (by first | decide | omega) Z Z Z (kL1 Z Zt) (dI (TL.add (((s+1:Nat):Int)) Z Z (wrN (by omega)) Z Z (xmi Z (TL.done ?_))))))))
 refine TQ.roundK (s+1) ⟨(by omega),(by omega)⟩ ⟨Z,Zt⟩ ⟨Z,Zt⟩ (kE3 Z Z Z Zt) (kL1 Z Zt)
 refine dS (TC.condF Z (TC.exit (TQ.thenExit (TQ.thenExit (TQ.blockHere (TQ.then (sB (xf 1 zbC Z ?_))))))))
 refine xli 1 zad Z Z (TL.eql Z Z Z Z (fun q2=>?_) (fun q2=>?_))
 refine TL.done (TQ.then (TC.condT Z (TC.seq (TC.draw (od [1,3,7,9,11,4,12]) [1] fc_m (by kernel_rfl) (xmc Z (xL3 1 zab Z Z (TL.mf (xs:=[_]) (ys:=[]) [_] [] ⟨Z,Zt⟩ Zt Z Z (TL.ncM hfS Z Z Z ?_))))))))
 refine xmc Z (xd [] (zlN hl) zlZ Z (kL1 Z Zt) (TL.mstore 0 hM Z Z Z (by first | decide | omega) Z Z Z (kL1 Z Zt) (dRR ?_)))
 refine FQ.ret0 (Bs:=[A _]) [0] Z Z ⟨Z,Zt⟩ ?_
 obtain rfl:s=l.S:=by omega
 have e0:l.S=0:=by omega
 exact ⟨Z,by rw [zxA e0,e0,zeM]⟩
 refine TL.done (TQ.then (TC.condF Z (TC.skip (TQ.then (TC.seq (TC.draw (od [1,3,5,7,9,13,15,17,10,18]) [1] fc_m (by kernel_rfl) (xmc Z (xL3 1 zab Z Z ?_))))))))
 refine xf 1 zbC Z (xli 1 zad Z Z (TL.sub _ Z Z (wr64 (by omega)) Z Z (TL.mf (xs:=[_]) (ys:=[]) [_] [] ⟨Z,Zt⟩ Zt Z Z (TL.ncM hfS Z Z Z (xmc Z (xd [] (zpx hl) ztM Z (kL1 Z Zt) (TL.mstore 0 hM Z Z Z (by first | decide | omega) Z Z Z (kL1 Z Zt) (TL.done ?_))))))))
 refine TQ.then (TC.draw (od [1,3,7,9,11,4,12]) [1] fc_m (by kernel_rfl) (xmc Z (xL3 1 zab Z Z (TL.mf (xs:=[_]) (ys:=[]) [_] [] ⟨Z,Zt⟩ Zt Z Z (TL.ncM hfS Z Z Z (xmc Z (xd [] (zlN hl) zlZ Z (kL1 Z Zt) (TL.mstore 0 hM Z Z Z (by first | decide | omega) Z Z Z (kL1 Z Zt) ?_))))))))
 refine TL.done ?_
 refine FQ.end0 (Bs:=[A _]) [0] Z Z ⟨Z,Zt⟩ ?_
 obtain rfl:s=l.S:=by omega
 exact ⟨Z,by rw [zxz (by omega)]⟩
theorem ziT {mt:TypeId} {mv:Value} {A:Array UInt64->Assn} (hM:MemI Tryz.prog mt mv A) {l:Lay} (hl:l.Ok) {p:Pen} {σ:Array UInt64} {x y:Int} (hy:0<=y/\y<18446744073709551616)  : FnD Tryz.prog 116 [zbw l mt mv p,.int .i64 x,.int .u64 y] [A σ] (.tuple #[]) [A (zf1 l p σ x y)]:=by
 refine Fn.enter (Tryz.func116) Z Z (fun w0 R=>?_)
 refine sA (xB 1 Z (fun bk1=>(dS (TC.draw (od [1,3,5,7,9,13,15,17,10,18]) [1] fc_m (by kernel_rfl) (xf 3 zbi Z (xlc 1 zbv Z Z (xf 0 zaH Z (xL3 1 zab Z Z (xmi Z ?_)))))))))
 refine xmi Z (TL.ncI Z Z Z (xmc Z (xd [] (zbc hl) zcq Z (kL1 Z Zt) (TL.mstore 0 hM Z Z Z (by first | exact hy | decide) Z Z Z (kL1 Z Zt) (dA (xL6 1 zaa Z Z (xmi Z (xD [0] (zhw hM hl) zjQ Z ?_))))))))
 refine dS (TC.draw (od [1,3,5,7,9,11,13,14,16]) [1] fc_m (by kernel_rfl) (xf 4 zjE Z (xL2 1 zba Z Z (xf 3 zbi Z (xlc 1 zbv Z Z (xf 0 zaH Z (xL3 1 zab Z Z (xmi Z ?_))))))))
 refine xd [] (zbc hl) zcq Z (kL1 Z Zt) (xd [0] (zpX hM) ztL Z (kL1 Z Zt) (dA (xai Z (dB (xf 0 zaH Z (xL3 1 zab Z Z (xmi Z (xD [] (zfO hl) zik Z ?_))))))))
 refine xmu Z (TL.ext (.agg _) Z Z Z Z (TL.ext (.bool _) Z Z Z Z (TL.alloc 2 (cs:=#[.bool false,.int .i64 0,.int .i64 0,.int .i64 0,.int .i64 0]) zfB Z Z Z (fun _=>Zt) (fun bk2=>(TL.stW 2 5 [_,_,_,_,_] Z Z Z Z Z Z zcr Z Z Zt (xab Z (dA (xf 0 zkK Z (xlb 2 zd3 Z Z ?_)))))))))
 refine TL.not _ _ rfl rfl rfl rfl (xmb rfl (TL.cases rfl (fun q1=>?_) (fun q1=>?_)))
 refine xf 1 zeY Z (xli 2 zad Z Z (TL.eql Z Z Z Z (fun q2=>?_) (fun q2=>?_)))
 refine xpT Z (TL.done (TQ.then (TC.condT Z (TC.region (xai Z (TL.done (TQ.then (TC.draw (od [1,3,5,7,9,13,15,17,10,18]) [1] fc_m (by kernel_rfl) ?_))))))))
 refine xf 3 zbi Z (xlc 1 zbv Z Z (xf 0 zaH Z (xL3 1 zab Z Z (xmi Z (xmi Z (TL.ncI Z Z Z (xmc Z (xd [] (zbc hl) zcq Z (kL1 Z Zt) ?_))))))))
 refine TL.mstore 0 hM Z Z Z (by first | exact hy | decide) Z Z Z (kL1 Z Zt) (TL.done ?_)
 refine FQ.end0 (Bs:=[A _]) [0] Z Z ⟨Z,Zt⟩ ?_
 exact ⟨Z,by unfold zf1 zhh; rw [if_pos ⟨by simpa using q1,q2⟩]⟩
 refine xpG Z (TL.done (TQ.then (TC.condF Z (TC.skip (TQ.then (TC.draw (od [1,3,5,7,9,13,15,17,10,18]) [1] fc_m (by kernel_rfl) (xf 3 zbi Z (xlc 1 zbv Z Z ?_))))))))
 refine xf 0 zaH Z (xL3 1 zab Z Z (xmi Z (xmi Z (TL.ncI Z Z Z (xmc Z (xd [] (zbc hl) zcq Z (kL1 Z Zt) (TL.mstore 0 hM Z Z Z (by first | exact hy | decide) Z Z Z (kL1 Z Zt) (TL.done ?_))))))))
 refine FQ.end0 (Bs:=[A _]) [0] Z Z ⟨Z,Zt⟩ ?_
 exact ⟨Z,by unfold zf1 zhh; rw [Zn (fun h=>q2 h.2)]⟩
 refine xo Z (xo Z (xo Z (xpF Z (TL.done (TQ.then (TC.condF Z (TC.skip (TQ.then ?_))))))))
 refine TC.draw (od [1,3,5,7,9,13,15,17,10,18]) [1] fc_m (by kernel_rfl) (xf 3 zbi Z (xlc 1 zbv Z Z (xf 0 zaH Z (xL3 1 zab Z Z (xmi Z (xmi Z (TL.ncI Z Z Z (xmc Z ?_))))))))
 refine xd [] (zbc hl) zcq Z (kL1 Z Zt) (TL.mstore 0 hM Z Z Z (by first | exact hy | decide) Z Z Z (kL1 Z Zt) (TL.done ?_))
 refine FQ.end0 (Bs:=[A _]) [0] Z Z ⟨Z,Zt⟩ ?_
 exact ⟨rfl,by unfold zf1 zhh; rw [Zn (fun h=>by rw [h.1] at q1; cases q1)]⟩
theorem zv8 {l:Lay} (hl:l.Ok) {a:Option Addr} {b off dn dc:Nat} {Ad:Assn} {fd:Nat->Int} (ha:0<dn->a=some ⟨b,off,none⟩) (hAd:zbj Ad encU 1 b off dn fd) (hfd:∀ i,i<dn->0<=fd i/\fd i<18446744073709551616) (hdn:dn<=256)  : Go.Eng.Fn Tryz.prog 76 [layV l,.slice a dn dc] [Ad] (fun v Bs=>∃ ab mb,v=.tuple #[.pointer (some ⟨ab,0,none⟩),.int .i64 0]/\Bs=[Ad,zal ab mb 139 29 (zf2 l dn fd (Array.replicate l.cells.toNat 0))]):=by
 obtain ⟨N,hN⟩:∃ N:Nat,l.cells=(N:Int):=⟨l.cells.toNat,by have:=zf0 hl; have:=zaB hl; have:=zct hl; have:=zb7 hl; omega⟩
 have hN2:l.cells.toNat=N:=by omega
 have hcb:=zf0 hl
 have hnb:=zaB hl
 refine Fn.enter (Tryz.func76) Z Z (fun w0 R=>?_)
 refine sA (xB 1 Z (fun bk1=>(TL.asg (.pointer none) Z Z Z (xai Z (dS (TC.block (sA (xL3 1 zab Z Z (xD [] (zsq hl) zzp Z ?_)))))))))
 refine xnt Z (xaf Z (TL.done (TQ.then (TC.condF Z (sA (xms Z (xz za6 Z (TL.gtrF Z Z (by omega) Z Z ?_))))))))
 refine xaf Z (TL.done (TQ.then (TC.condF Z (TC.skip (TQ.inBlock (TQ.then (sA (xL3 1 zab Z Z ?_))))))))
 refine xD [] (zv4 hl) zAC Z ?_
 rw [hN]
 refine TL.call [] [2] (zzH (by omega)) ⟨Z,Zt⟩ Zt zAO Z Z Z Z ?_
 rintro v Bs ⟨ab,mb,rfl,rfl⟩
 refine ⟨Z,Zt,?_⟩
 rw [<-hN2]
 refine TL.conseq 2 (B:=zal ab mb 139 29 (Array.replicate l.cells.toNat 0)) Z (fun h hh=>zfw hh) Zt (xmu Z (TL.ext (.pointer (some ⟨_,_,none⟩)) Z Z Z Z (xei Z Z (xap Z (xai Z (dB (xmi Z (TL.neqF Z Z (by omega) Z Z ?_))))))))
 refine TL.done (TQ.then (TC.condF Z (TC.skip (TQ.then (TC.seq (TC.draw (od [1,7,2,5,8]) [1] fc_m (by kernel_rfl) (xmp Z (xL3 1 zab Z Z ?_))))))))
 refine xd [] zfh zjJ Z (kL1 Z Zt) (TL.miN (v:=(.agg _)) Z zgM Z Z (xd [2] (zu4 zfz (zh4) hl) zzo Z (kL1 Z Zt) (dS (TC.drawT (.br [(0,true),(1,true),(4,true)] 2 6 (.fin [(3,true),(5,true),(6,false),(7,false)]) (.fin [(2,false),(3,true),(5,true),(7,false)])) [1] fc_m (by kernel_rfl) (TT.br (xL3 1 zab Z Z (xmp Z (TL.bld [.int .i64 0,.int .i64 0] [(.int _ _)] [_,_] zfU zjB ⟨Z,Zt⟩ ⟨Z,Z⟩ Z Z (TL.both ?_ ?_)))))))))
 refine xd [] zfh zjJ Z (kL1 Z Zt) (TL.tree (TT.fin (TL.miN (v:=(.agg _)) Z zgM Z Z (TL.bld [.int .i64 0,.int .i64 0,.int .i64 0,.nilIface,.int .i64 0,.int .i64 0] [(.agg _),(.iface _ _),(.agg _)] [_,_,_,_,_,_] zjA zob ⟨Z,Z,Z,Zt⟩ ⟨Z,Z⟩ Z Z (TL.alloc 3 (cs:=#[.int .i64 0,.int .i64 0,.int .i64 0,.nilIface,.int .i64 0,.int .i64 0]) zjA Z Z Z (fun _=>(kL1 Z Zt)) (fun bk3=>(TL.stW 3 6 [_,_,_,_,_,_] Z Z Z Z Z Z zaa Z Z (kL1 Z Zt) (dB (xai Z (dK ?_))))))))))
 refine TC.loopK (X:=Nat) [1,2,4,5,6,8] [0,1,3] (fun x=>[(9,.int .i64 ((x+1:Nat):Int))]) (fun x=>[(2,zal ab mb 139 29 (zdI l dn fd x (zio l (Array.replicate l.cells.toNat 0))))]) (fun x=>(x:Int)<=l.nodes) (fun x=>l.nodes.toNat - x) (0) (by omega) ⟨Z,Zt⟩ ⟨Z,Zt⟩ (fun x hI=>(TC.sub (env':=[(9,_),(1,_),(2,_),(4,_),(5,_),(6,_),(8,_)]) (L':=[(2,_),(0,_),(1,_),(3,_)]) ⟨Z,Z,Z,Z,Z,Z,Z,Zt⟩ ⟨Z,Z,Z,Z,Zt⟩ (sB (xmi Z (xL3 1 zab Z Z (xD [] (zdz hl) zgz Z (TL.leq Z Z Z Z (fun q1=>?_) (fun q1=>?_))))))))
 refine TL.done (TQ.then (TC.condT Z (TC.skip (TQ.then (TC.seq (TC.block (sA (xai Z ?_))))))))
 refine dB (xms Z (xz za6 Z (TL.gtr Z Z Z Z (fun q2=>?_) (fun q2=>?_))))
 refine TL.done (TQ.then (TC.condT Z (TC.region (xms Z (xmi Z (xms Z (xz za6 Z (TL.rem ((((x+1) % dn:Nat):Int)) Z Z (by omega) (by rw [Int.tmod_eq_emod_of_nonneg (by omega)]; exact (Int.natCast_emod (x+1) dn).symm) Z Z ?_))))))))
 refine TL.iaO Z ha Z za6 (Nat.mod_lt _ (by omega)) Z Z (TL.ldRS 0 (.int _ _) Z Z hAd (Nat.mod_lt _ (by omega)) (Z) zkG Z Z (xai Z (dG (xL6 3 zaa Z Z (xmi Z (xmi Z (xD [2] (ziT (p:=P1) zfz hl (by first | exact hfd _ (Nat.mod_lt _ (by omega)) | decide)) zl0 Z (dI ?_))))))))
 refine xmi Z (TL.add (((x+2:Nat):Int)) Z Z (wrN (by omega)) Z Z (xai Z (TL.done (TQ.roundK (x+1) ⟨(by omega),(by omega)⟩ ⟨Z,Zt⟩ ⟨congrArg (fun z=>some (zal ab mb 139 29 (z))) (zkU (by omega)),Zt⟩ (kE6 Z Z Z Z Z Z Zt) (kL3 Z Z Z Zt)))))
 refine TL.done (TQ.then (TC.condF Z (TC.skip (TQ.then (TC.region (xL6 3 zaa Z Z (xmi Z (xmi Z ?_))))))))
 refine xD [2] (ziT (p:=P1) zfz hl (by first | exact hfd _ (Nat.mod_lt _ (by omega)) | decide)) zl0 Z (dI (xmi Z (TL.add (((x+2:Nat):Int)) Z Z (wrN (by omega)) Z Z (xai Z (TL.done (TQ.roundK (x+1) ⟨(by omega),(by omega)⟩ ⟨Z,Zt⟩ ⟨congrArg (fun z=>some (zal ab mb 139 29 (z))) (zj1 (by omega)),Zt⟩ (kE6 Z Z Z Z Z Z Zt) (kL3 Z Z Z Zt)))))))
 refine dE Z (sA (xmp Z (xap Z (xai Z (dR ?_)))))
 refine FQ.ret2 (v:=(.pointer (some ⟨_,_,none⟩))) (x:=(.int _ _)) (Bs:=[Ad,_]) [0,2] Z Z Z Z ⟨Z,Z,Zt⟩ ?_
 obtain rfl:x=l.nodes.toNat:=by omega
 exact ⟨_,_,Z,Z⟩
 refine TL.alloc 4 (cs:=#[.int .i64 0,.int .i64 0,.int .i64 0,.nilIface,.int .i64 0,.int .i64 0]) zjA Z Z Z (fun _=>(kL1 Z Zt)) (fun bk4=>(TL.tree (TT.fin (xd [] zfh zjJ Z (kL1 Z Zt) (TL.miN (v:=(.agg _)) Z zgM Z Z (TL.bld [.int .i64 0,.int .i64 0,.int .i64 0,.nilIface,.int .i64 0,.int .i64 0] [(.agg _),(.iface _ _),(.agg _)] [_,_,_,_,_,_] zjA zob ⟨Z,Z,Z,Zt⟩ ⟨Z,Z⟩ Z Z (TL.stW 4 6 [_,_,_,_,_,_] Z Z Z Z Z Z zaa Z Z (kL1 Z Zt) (dB (xai Z (dK ?_))))))))))
 refine TC.loopK (X:=Nat) [1,2,4,5,6,8] [0,1,4] (fun x=>[(9,.int .i64 ((x+1:Nat):Int))]) (fun x=>[(2,zal ab mb 139 29 (zdI l dn fd x (zio l (Array.replicate l.cells.toNat 0))))]) (fun x=>(x:Int)<=l.nodes) (fun x=>l.nodes.toNat - x) (0) (by omega) ⟨Z,Zt⟩ ⟨Z,Zt⟩ (fun x hI=>(TC.sub (env':=[(9,_),(1,_),(2,_),(4,_),(5,_),(6,_),(8,_)]) (L':=[(2,_),(0,_),(1,_),(4,_)]) ⟨Z,Z,Z,Z,Z,Z,Z,Zt⟩ ⟨Z,Z,Z,Z,Zt⟩ (sB (xmi Z (xL3 1 zab Z Z (xD [] (zdz hl) zgz Z (TL.leq Z Z Z Z (fun q1=>?_) (fun q1=>?_))))))))
 refine TL.done (TQ.then (TC.condT Z (TC.skip (TQ.then (TC.seq (TC.block (sA (xai Z ?_))))))))
 refine dB (xms Z (xz za6 Z (TL.gtr Z Z Z Z (fun q2=>?_) (fun q2=>?_))))
 refine TL.done (TQ.then (TC.condT Z (TC.region (xms Z (xmi Z (xms Z (xz za6 Z (TL.rem ((((x+1) % dn:Nat):Int)) Z Z (by omega) (by rw [Int.tmod_eq_emod_of_nonneg (by omega)]; exact (Int.natCast_emod (x+1) dn).symm) Z Z ?_))))))))
 refine TL.iaO Z ha Z za6 (Nat.mod_lt _ (by omega)) Z Z (TL.ldRS 0 (.int _ _) Z Z hAd (Nat.mod_lt _ (by omega)) (Z) zkG Z Z (xai Z (dG (xL6 4 zaa Z Z (xmi Z (xmi Z (xD [2] (ziT (p:=P1) zfz hl (by first | exact hfd _ (Nat.mod_lt _ (by omega)) | decide)) zl0 Z (dI ?_))))))))
 refine xmi Z (TL.add (((x+2:Nat):Int)) Z Z (wrN (by omega)) Z Z (xai Z (TL.done (TQ.roundK (x+1) ⟨(by omega),(by omega)⟩ ⟨Z,Zt⟩ ⟨congrArg (fun z=>some (zal ab mb 139 29 (z))) (zkU (by omega)),Zt⟩ (kE6 Z Z Z Z Z Z Zt) (kL3 Z Z Z Zt)))))
 refine TL.done (TQ.then (TC.condF Z (TC.skip (TQ.then (TC.region (xL6 4 zaa Z Z (xmi Z (xmi Z ?_))))))))
 refine xD [2] (ziT (p:=P1) zfz hl (by first | exact hfd _ (Nat.mod_lt _ (by omega)) | decide)) zl0 Z (dI (xmi Z (TL.add (((x+2:Nat):Int)) Z Z (wrN (by omega)) Z Z (xai Z (TL.done (TQ.roundK (x+1) ⟨(by omega),(by omega)⟩ ⟨Z,Zt⟩ ⟨congrArg (fun z=>some (zal ab mb 139 29 (z))) (zj1 (by omega)),Zt⟩ (kE6 Z Z Z Z Z Z Zt) (kL3 Z Z Z Zt)))))))
 refine dE Z (sA (xmp Z (xap Z (xai Z (dR ?_)))))
 refine FQ.ret2 (v:=(.pointer (some ⟨_,_,none⟩))) (x:=(.int _ _)) (Bs:=[Ad,_]) [0,2] Z Z Z Z ⟨Z,Z,Zt⟩ ?_
 obtain rfl:x=l.nodes.toNat:=by omega
 exact ⟨_,_,Z,Z⟩
end Go.Proofs.YtabjfnfglcghfaaGreat
