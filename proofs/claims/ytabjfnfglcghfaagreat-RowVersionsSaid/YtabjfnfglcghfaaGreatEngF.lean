import Derived.Test.YtabjfnfglcghfaaGreatEngE
import Derived.Sort.Grow
set_option linter.unusedVariables false
set_option linter.unusedSimpArgs false
set_option linter.unusedSectionVars false
namespace Go.Tm
open MemLike Eng
structure GvI (l:Lay) (σ:M) (rt:Int->Int) (i:Int) (d:Array Int):Prop where
 sz:d.size<=2
 rt_:∀ k,k<d.size->∃ v:Int,(0<=v/\v<l.V)/\d[k]! =rt (l.vertex 0 v)
 lk:∀ k,k<d.size->gf l σ d[k]! 0=i
 ne:∀ k m,k<m->m<d.size->d[k]!≠d[m]!
structure AP (l:Lay) (σ:M) (par rt:Int->Int) (n:Nat) (fe:Nat->Op2) (ts:Nat->TakeS) (gos:Array (Option Nat)) (gd:Nat->Array Int) (B:Int):Prop where
 sz:σ.size=l.cells
 seen:SeenF l σ par rt
 tk:∀ i,i<n->gos[i]! =none->TInv l σ par rt (ts i)
 gv:∀ i b,i<n->gos[i]! =some b->GvI l σ rt ((i:Int)+1) (gd i)
 th:∀ i,i<n->(ts i).thread=(i:Int)+1/\(ts i).u=(fe i).u/\(ts i).v=(fe i).v
 w:∀ i,i<n->((ts i).want.size<=2/\(ts i).held.size<=2)/\(ts i).tries<=B
 gz:gos.size=n
 hn:n<=l.T
section
variable {l:Lay} (hl:l.Ok) {σ σ':M} {pr par rt:Int->Int} {t t':TakeS} {n i j k:Nat} {fe:Nat->Op2} {ts:Nat->TakeS} {gos:Array (Option Nat)} {gd:Nat->Array Int} {B:Int} {g:G} {d:Array Int} {b:Nat}
include hl
theorem zlI (h:TInv l σ par rt t):∀ k m,k<m->m<t.held.size->t.held[k]!≠t.held[m]!:=fun k m hk hm e=>by
 have hs2:(zaw (rt (l.vertex 0 t.u)) (rt (l.vertex 0 t.v))).size<=2:=zgT
 have hle:=h.held.le
 obtain ⟨rfl,rfl⟩:k=0/\m=1:=by omega
 rw [h.held.eq 0 (by omega),h.held.eq 1 hm] at e
 have:=ziv (a:=rt (l.vertex 0 t.u)) (b:=rt (l.vertex 0 t.v)) (by omega)
 omega
omit hl in
theorem zvy {qs:List (Int×Int)} {x w:Int} (h:mget qs x=some w):(x,w)∈qs:=by
 unfold mget at h
 split at h
 ·rename_i hm
  have hlt:(qs.map (·.1)).idxOf x<qs.length:=by simpa using List.idxOf_lt_length_of_mem hm
  rw [List.getElem?_eq_getElem hlt] at h
  have h1:(qs.map (·.1))[(qs.map (·.1)).idxOf x]'(by simpa using hlt)=x:=List.getElem_idxOf _
  rw [List.getElem_map] at h1
  have h2:qs[(qs.map (·.1)).idxOf x].2=w:=by simpa using h
  have:qs[(qs.map (·.1)).idxOf x]=(x,w):=Prod.ext h1 h2
  rw [<-this]; exact List.getElem_mem hlt
 ·cases h
def MH (ts:Nat->TakeS) (gos:Array (Option Nat)) (i k:Nat) (qs:List (Int×Int)):Prop:=∀ p∈qs,∃ j m,(j<i\/j=i/\m<k)/\gos[j]! =none/\m<(ts j).held.size/\p.1=(ts j).held[m]!/\p.2=(j:Int)+1
theorem MH.none {qs:List (Int×Int)} (h:MH ts gos i k qs) (hA:AP l σ par rt n fe ts gos gd B) (hi:i<n) (hg:gos[i]! =none) (hk:k<(ts i).held.size):(mget qs (ts i).held[k]!).getD 0=0:=by
 cases hm:mget qs (ts i).held[k]! with
 | none=>rfl
 | some w =>
  exfalso
  obtain ⟨j,m,h1,h2,h3,h4,h5⟩:=h _ (zvy hm)
  have hj:j<n:=by omega
  have hTj:=hA.tk j hj h2
  have hTi:=hA.tk i hi hg
  have a1:=hTj.held.lk m h3
  have a2:=hTi.held.lk k hk
  have h4:(ts i).held[k]! =(ts j).held[m]!:=h4
  rw [<-h4,(hA.th j hj).1] at a1
  rw [(hA.th i hi).1] at a2
  have hij:j=i:=by rw [a1] at a2; omega
  subst hij
  exact zlI hl hTi m k (by omega) hk h4.symm
end
section
variable {l:Lay} (hl:l.Ok) {σ:M} {pr par rt:Int->Int} {t:TakeS} {c:Cnt} {n i:Nat} {fe:Nat->Op2} {ts:Nat->TakeS} {gos:Array (Option Nat)} {gd:Nat->Array Int} {B:Int} {g:G} {b:Nat}
include hl
end
structure Acc where
 store:Bool
 cell:Int
 val:Int
instance:Inhabited Acc:=⟨⟨false,0,0⟩⟩
def zav (x:Acc):List Value:=[.bool x.store,.int .i64 x.cell,.int .u64 x.val]
theorem zcH (x:Acc):(zav x).length=3/\∀ u∈zav x,u.oneCell'=true :=
 ⟨rfl,by intro u hu; simp only [zav,List.mem_cons,List.not_mem_nil,or_false] at hu; rcases hu with rfl | rfl | rfl<;>rfl⟩
structure Tr where
 mem:Array UInt64
 row:Array Acc
instance:MemLike Tr where
 get σ i:=get σ.mem i
 ld σ i:=if 0<=i/\i<σ.mem.size then ⟨σ.mem,σ.row++#[⟨false,i,get σ.mem i⟩]⟩ else σ
 st σ i v:=if 0<=i/\i<σ.mem.size then ⟨st σ.mem i v,σ.row++#[⟨true,i,v⟩]⟩ else σ
 rng σ i:=rng σ.mem i
 sz σ:=σ.row.size
 sz_ld σ i:=by split<;>simp
 sz_st σ i v:=by split<;>simp
theorem zoT (σ:Tr) (i:Int):get σ i=get σ.mem i:=rfl
theorem zkc (σ:Tr) (i:Int):ld σ i=if 0<=i/\i<σ.mem.size then ⟨σ.mem,σ.row++#[⟨false,i,get σ.mem i⟩]⟩ else σ:=rfl
theorem zkb (σ:Tr) (i v:Int):st σ i v=if 0<=i/\i<σ.mem.size then ⟨st σ.mem i v,σ.row++#[⟨true,i,v⟩]⟩ else σ:=rfl
theorem zcR {n:Nat} {σ:Tr}:Room n σ↔σ.row.size+n<=137438953471:=Iff.rfl
def zbl (tb ab mb:Nat) (T TA TW TR:TypeId) (σ:Tr):Assn:=ex fun v:Value=>star (pt tb (.cells #[.pointer (some ⟨ab,0,none⟩),v] T)) (star (zal ab mb TA TW σ.mem) (ownA zav 3 TR v σ.row))
section
variable {P:Program} {f:FuncId} {args:List Value} {T TA TW TR:TypeId} {tb ab mb:Nat} {σ:Tr} {Cs:List Assn} {Ψ:Value->List Assn->Prop}
theorem Fn.traceX (h:∀ a g c,(0<σ.row.size->a=some ⟨g,0,none⟩)->σ.row.size<=c ->
  Eng.Fn P f args (pt tb (.cells #[.pointer (some ⟨ab,0,none⟩),.slice a σ.row.size c] T) :: zal ab mb TA TW σ.mem :: ownA zav 3 TR (.slice a σ.row.size c) σ.row :: Cs)
   (fun v Bs=>∃ v2 σ' Cs',Bs=pt tb (.cells #[.pointer (some ⟨ab,0,none⟩),v2] T) :: zal ab mb TA TW σ'.mem :: ownA zav 3 TR v2 σ'.row :: Cs'/\Ψ v (zbl tb ab mb T TA TW TR σ' :: Cs'))):Eng.Fn P f args (zbl tb ab mb T TA TW TR σ :: Cs) Ψ:=by
 intro w0 R w hs
 obtain ⟨v,hs1⟩:=Sat.head_ex hs
 have hs2:=(Sat.rot3 hs1.apart2.swap2.apart2)
 obtain ⟨X,hX,_⟩:=Sat.some hs2 (k:=2) (A:=ownA zav 3 TR v σ.row) (by rw [za5]; rfl)
 obtain ⟨a,g,c,rfl,q1,q2⟩:=zlm hX
 refine (h a g c q2 q1 w0 R w hs2).mono ?_
 rintro e w' ⟨v,Bs,he,⟨v2,σ',Cs',rfl,hp⟩,hs'⟩
 exact ⟨v,_,he,hp,((Sat.rot3 (Sat.rot3 hs')).join2.swap2.join2).head fun x hx=>⟨v2,hx⟩⟩
end
section
variable {S:Type} [MemLike S] (l:Lay) (p:Pen)
def zax:Nat->Array Int
 | 0=>#[]
 | k+1=>if zbJ l ((k+1:Nat):Int) then zax k++#[((k+1:Nat):Int)] else zax k
def ziZ (ch:List Int) (σ:S) (x:Int):S :=
 if l.field x 2∈ch then
  let w:=(zae (get σ (l.field x 2))).1
  let σ1:=ld σ (l.field x 2)
  if w.old=0\/w.new=0 then p.write (ld σ1 (l.field x 1)) (l.field x 1) (IntKind.i64.wrap (pnew σ1 (l.field x 1)+1)) else σ1
 else σ
def zb4 (ch:List Int) (d:Array Int):Nat->S->S
 | 0,σ=>σ
 | i+1,σ=>ziZ l p ch (zb4 ch d i σ) d[i]!
def zbq (d:Array Int) (but:List Int) (v:Int):Nat->S->S
 | 0,σ=>σ
 | i+1,σ=>let τ:=zbq d but v i σ; if d[i]!∈but then τ else st τ (l.field d[i]! 0) v
def cleanC (ch:List Int) (σ:S) (c:Int):S:=if c∈ch then zbs σ c else σ
def cleanW (ch:List Int) (d:Array Int):Nat->S->S
 | 0,σ=>σ
 | i+1,σ=>cleanC ch (cleanC ch (cleanW ch d i σ) (l.field d[i]! 2)) (l.field d[i]! 1)
end
def zeF (row:Array Acc) (c:Int):Nat->Int
 | 0=>0
 | i+1=>if row[i]!.store=true/\row[i]!.cell=c then (i:Int) else zeF row c i
def zbQ (row:Array Acc):Nat->Array Int
 | 0=>#[]
 | i+1=>if row[i]!.store then zbQ row i++#[row[i]!.cell] else zbQ row i
def zdO (row:Array Acc) (c:Int):Nat->List (Int×Int)×List (Int×Int)->List (Int×Int)×List (Int×Int)
 | 0,q=>q
 | i+1,q =>
  let q1:=zdO row c i q
  if row[i]!.store=true/\row[i]!.cell=c then (if (mget q1.1 c).isSome then q1.1 else mput q1.1 c (i:Int),mput q1.2 c (i:Int)) else q1
def zgJ (l:Lay) (row:Array Acc) (point:Nat) (d:Array Int):Nat->List (Int×Int)×List (Int×Int)
 | 0=>([],[])
 | j+1=>zdO row (l.field d[j]! 2) point (zgJ l row point d j)
def zgG (q:List (Int×Int)×List (Int×Int)) (c:Int) (i:Int):Bool :=
 match mget q.1 c with
 | some a=>decide (a<=i) && decide (i<(mget q.2 c).getD 0)
 | none=>false
def onceO (row:Array Acc) (point:Nat) (q:List (Int×Int)×List (Int×Int)):Nat->Array Acc×Int
 | 0=>(#[],0)
 | i+1 =>
  let r:=onceO row point q i
  (if zgG q row[i]!.cell i then r.1 else r.1++#[row[i]!],if i=point then (r.1.size:Int) else r.2)
def zgL (l:Lay) (row:Array Acc) (point:Nat):Array Acc×Int:=onceO row point (zgJ l row point (zax l l.nodes.toNat) (zax l l.nodes.toNat).size) row.size
structure PlanS where
 work:Array Acc
 point:Int
 tree:Bool
 roots:Array Int
theorem zl6 {d:Array Int} {i:Nat} {v:Int} (h:i<d.size) (e:d[i]! =v):v∈d.toList:=by
 rw [<-e,getElem!_pos d i h]; simp
theorem zp3 {d:Array Int} {n:Nat} {v:Int} (hn:d.size=n) (h:∀ j,j<n->d[j]!≠v):v∉d.toList:=fun hv=>by
 subst hn
 obtain ⟨i,hi,e⟩:=Array.getElem_of_mem (by simpa using hv:v∈d)
 exact h i hi (by rw [getElem!_pos d i hi]; exact e)
theorem zx7 {d:Array Int} {i:Nat} {v:Int} (h:∀ j,j<i->d[j]!≠v) (h2:d[i]!≠v):∀ j,j<i+1->d[j]!≠v:=fun j hj=>by
 by_cases he:j=i
 ·subst he; exact h2
 ·exact h j (by omega)
theorem ziz {α:Type} [Inhabited α] {d:Array α}:((List.range d.size).map fun i=>d[i]!).toArray=d:=by
 refine Array.ext (by simp) fun i h1 h2=>?_
 rw [List.getElem_toArray,List.getElem_map,List.getElem_range,getElem!_pos d i h2]
theorem bs_lo {d:Array Int} {n m:Nat} {v:Int} (hs:∀ k j,k<=j->j<n->d[k]!<=d[j]!) (hm:m<n) (h:d[m]!<v):∀ k,k<m+1->d[k]!<v:=fun k hk=>Int.lt_of_le_of_lt (hs k m (by omega) hm) h
theorem bs_hi {d:Array Int} {n m:Nat} {v:Int} (hs:∀ k j,k<=j->j<n->d[k]!<=d[j]!) (h:¬d[m]!<v):∀ k,m<=k->k<n->v<=d[k]!:=fun k hk hn=>Int.le_trans (Int.not_lt.1 h) (hs m k hk hn)
theorem shr1 (m:Nat):((m:Nat):Int).fdiv (2 ^ min (Int.toNat 1) IntKind.u64.bits)=((m / 2:Nat):Int):=by
 have e:(2:Int) ^ min (Int.toNat 1) IntKind.u64.bits=2:=rfl
 rw [e,Int.fdiv_eq_ediv_of_nonneg _ (by decide)]
 omega
theorem zAZ {d:Array Int} {n i:Nat} {v:Int} (hn:d.size=n) (hi:i<n) (e:d[i]! =v):v∈d.toList:=zl6 (by omega) e
theorem zA0 {d:Array Int} {n i:Nat} {v:Int} (hn:d.size=n) (h1:∀ k,k<i->d[k]!<v) (h2:∀ k,i<=k->k<n->v<=d[k]!) (hs:∀ k j,k<=j->j<n->d[k]!<=d[j]!) (h:i<n->d[i]!≠v):v∉d.toList :=
 zp3 hn fun j hj=>by
  rcases Nat.lt_or_ge j i with hji | hji
  ·exact Int.ne_of_lt (h1 j hji)
  ·have a:=h2 i (Nat.le_refl _) (by omega)
   have b:=hs i j hji hj
   have c:=h (by omega)
   omega
def srt (d:Array Int):Array Int:=(d.toList.mergeSort fun x y=>decide (x<=y)).toArray
theorem zer (d:Array Int):(srt d).size=d.size:=by simp [srt]
theorem zmw {w0:World} {R A:Assn}:∀ (os:List Obj) {w:World},Sat w0 (lab 0 [A]) R w->Sat w0 (lab 0 [A]) R { w with heap:=w.heap++os.toArray }
 | [],w,h=>by simpa using h
 | o :: os,w,h=>by
  have h1:Sat w0 (lab 0 [A]) R { w with heap:=w.heap.push o }:=(h.alloc 1 o).weaken fun k B hk=>by
   rw [zaG,if_neg]
   ·exact hk
   ·rintro rfl
    rw [za5] at hk; cases hk
  have h2:=zmw os h1
  have e:w.heap++(o :: os).toArray=w.heap.push o++os.toArray:=by
   apply Array.ext'; simp
  rw [e]; exact h2
theorem zxJ {d:Array Int} {cur:Array Value} (h:d.size<=cur.size) {i:Nat} (hi:i<d.size):(Sort.putCells (Value.int .i64) 0 d cur)[i]?=some (.int .i64 d[i]!):=by
 unfold Sort.putCells
 rw [Array.getElem?_mapIdx,Array.getElem?_eq_getElem (by omega)]
 simp only [Option.map_some,Nat.zero_add,Nat.sub_zero]
 rw [if_pos ⟨Nat.zero_le _,hi⟩]
theorem Fn.sortI {P:Program} {f:FuncId} {e:Nat} {v:Value} {d:Array Int} (hn:d.size<4611686018427387904)
  (hsome:∀ (blk off cap:Nat) (zs:List Int) (w:World),Sort.Holds (Value.int .i64) w blk off zs.toArray->blk<w.heap.size->zs.length<4611686018427387904 ->
   Calls P f #[.slice (some ⟨blk,off,none⟩) zs.length cap] w fun e w'=>e=.returned (.tuple #[])/\∃ n os,w'=Sort.grow (Sort.putRow (Value.int .i64) (Sort.ahead w n) blk off (zs.mergeSort fun x y=>decide (x<=y)).toArray) os)
  (hnone:∀ (p:Option Addr) (cap:Nat) (w:World),Calls P f #[.slice p 0 cap] w fun e w'=>e=.returned (.tuple #[])/\w'=w) :
  FnD P f [v] [ownA encI 1 e v d] (.tuple #[]) [ownA encI 1 e v (srt d)]:=by
 intro w0 R w hs
 obtain ⟨X,hX,hto⟩:=Sat.headH hs
 rcases hX with ⟨rfl,h0⟩ | ⟨g,cap,cur,rfl,hg,hc,hm,hcs,hrow⟩
 ·have hd:d=#[]:=Array.eq_empty_of_size_eq_zero h0
  subst hd
  refine (hnone none 0 w).mono ?_
  rintro e' w' ⟨rfl,rfl⟩
  have e0:srt #[]=#[]:=by simp [srt]
  exact ⟨_,_,Z,⟨Z,by rw [e0]⟩,hs⟩
 ·have hs2:=hto (pt g (.cells cur e)) hg
  have hb:=hs2.read (k:=0) (by rw [za5]; rfl)
  have hlt:g<w.heap.size:=(Array.getElem?_eq_some_iff.1 hb).1
  have hcell:∀ i,i<d.size->cur[i]?=some (.int .i64 d[i]!):=fun i hi=>by
   have h1:=(zd1 (hrow i hi)).2 0 (by decide)
   simpa [encI] using h1
  have hold:Sort.Holds (Value.int .i64) w g 0 d.toList.toArray:=by
   intro j hj
   have hj':j<d.size:=by simpa using hj
   have h1:=hcell j hj'
   refine ⟨?_,by simp [World.frozen?,hb]⟩
   simp [World.cell?,hb,h1]
  have hcall:=hsome g 0 cap d.toList w hold hlt (by simpa using hn)
  rw [Array.length_toList] at hcall
  refine hcall.mono ?_
  rintro e' w' ⟨rfl,n,os,rfl⟩
  refine ⟨_,_,Z,⟨Z,Z⟩,?_⟩
  have h3:=(hs2.put (k:=0) (by rw [za5]; rfl) (.cells (Sort.putCells (Value.int .i64) 0 (srt d) cur) e)).drawn (w.drawn+n)
  have hm2:w.heap.modify g (Sort.onCells (Sort.putCells (Value.int .i64) 0 (srt d)))=w.heap.setIfInBounds g (.cells (Sort.putCells (Value.int .i64) 0 (srt d) cur) e):=by
   apply Array.ext_getElem?
   intro i
   rw [Array.getElem?_modify,Array.getElem?_setIfInBounds]
   by_cases hi:g=i
   ·subst hi
    rw [Zp Z,Zp Z,hb]; simp [hlt,Sort.onCells]
   ·simp [hi]
  have h4:Sat w0 (lab 0 [pt g (.cells (Sort.putCells (Value.int .i64) 0 (srt d) cur) e)]) R { w with heap:=w.heap.setIfInBounds g (.cells (Sort.putCells (Value.int .i64) 0 (srt d) cur) e),drawn:=w.drawn+n }:=h3.weaken fun k B hk=>by
   rw [za5] at hk
   match k with
   | 0=>rw [zaG,Zp Z]; exact hk
   | k+1=>cases hk
  have h5:=zmw os.toList h4
  have h6:Sat w0 (lab 0 [ownA encI 1 e (.slice (some ⟨g,0,none⟩) d.size cap) (srt d)]) R { w with heap:=w.heap.setIfInBounds g (.cells (Sort.putCells (Value.int .i64) 0 (srt d) cur) e)++os.toList.toArray,drawn:=w.drawn+n } :=
   Sat.head (fun x hx=>.inr ⟨g,cap,_,by rw [zer],hx,by rw [zer]; exact hc,hm,by simp [Sort.putCells,hcs],fun i hi=>zfR Z fun j hj=>by
    obtain rfl:j=0:=by omega
    rw [Nat.mul_one,Nat.add_zero,zxJ (by rw [zer]; omega) hi]; rfl⟩) h5
  unfold srt at hm2 h6 ⊢
  simpa [Sort.grow,Sort.putRow,Sort.mapBlock,Sort.ahead,hm2] using h6
theorem znz {row:Array Acc} {i:Nat} (h:row[i]!.store=true):zbQ row i++#[row[i]!.cell]=zbQ row (i+1):=by rw [zbQ,Zp h]
theorem zqf {row:Array Acc} {i:Nat} (h:row[i]!.store=false):zbQ row i=zbQ row (i+1):=by rw [zbQ,Zn (by rw [h]; decide)]
theorem zeK (row:Array Acc):∀ i,(zbQ row i).size<=i
 | 0=>Nat.le_refl _
 | i+1=>by
  have:=zeK row i
  rw [zbQ]
  split
  ·simp; omega
  ·omega
theorem zql {l:Lay} {k:Nat} (h:(l.node ((k+1:Nat):Int)).1.level=0):zax l k++#[((k+1:Nat):Int)]=zax l (k+1):=by rw [zax,Zp (show zbJ l ((k+1:Nat):Int)=true from decide_eq_true h)]
theorem zrs {l:Lay} {k:Nat} (h:¬(l.node ((k+1:Nat):Int)).1.level=0):zax l k=zax l (k+1):=by rw [zax,Zn (fun hc:zbJ l ((k+1:Nat):Int)=true=>h (of_decide_eq_true hc))]
theorem zdD (l:Lay):∀ k,(zax l k).size<=k
 | 0=>Nat.le_refl _
 | k+1=>by
  have:=zdD l k
  rw [zax]
  split
  ·simp; omega
  ·omega
def zgo (T:TypeId) (wb tb mt:Nat) (hv:Value) (l:Lay) (p:Pen) (u v:Int):Assn:=pt wb (.cells #[.pointer (some ⟨tb,0,none⟩),.int .i64 l.V,.int .i64 l.S,.int .i64 l.T,.int .i64 p.thread,.int .i64 p.tag,
 .int .i64 l.V,.int .i64 l.S,.int .i64 l.T,.iface mt (.pointer (some ⟨tb,0,none⟩)),.int .i64 p.thread,.int .i64 p.tag,.int .i64 l.V,.int .i64 l.S,.int .i64 l.T,.iface mt (.pointer (some ⟨tb,0,none⟩)),hv,.int .i64 u,.int .i64 v] T)
def chgL (row:Array Acc):List Int:=cpt (srt (zbQ row row.size)) (zbQ row row.size).size
section
variable {S:Type} [MemLike S] {l:Lay} {p:Pen} {σ:S} {n:Nat}
theorem znP {c:Int} (h:Room (n+2) σ):Room n (zbs σ c):=by
 unfold zbs
 split
 ·split
  ·exact st_f (ld_f h)
  ·exact ld_f (h.le (by omega))
 ·exact ld_f (h.le (by omega))
theorem zfd {tag:Int} {dn:Bool} (h:Room (n+1) σ):Room n (za0 l p σ tag dn):=by
 unfold za0
 split
 ·exact st_f h
 ·exact h.le (by omega)
theorem zqb {ch:List Int} {x:Int} (h:Room (n+4) σ):Room n (ziZ l p ch σ x):=by
 unfold ziZ
 split
 ·dsimp only
  split
  ·exact znp (ld_f (ld_f h))
  ·exact ld_f (h.le (by omega))
 ·exact h.le (by omega)
theorem zcX {ch:List Int} {d:Array Int}:∀ {k n:Nat},Room (n+4 * k) σ->Room n (zb4 l p ch d k σ)
 | 0,_,h=>h
 | k+1,_,h=>zqb (zcX (h.le (by omega)))
theorem zdl {d:Array Int} {but:List Int} {v:Int}:∀ {k n:Nat},Room (n+k) σ->Room n (zbq l d but v k σ)
 | 0,_,h=>h
 | k+1,n,h=>by
  rw [zbq]
  split
  ·exact zdl (h.le (by omega))
  ·exact st_f (zdl (h.le (by omega)))
theorem zgR {ch:List Int} {c:Int} (h:Room (n+2) σ):Room n (cleanC ch σ c):=by
 unfold cleanC
 split
 ·exact znP h
 ·exact h.le (by omega)
theorem zep {ch:List Int} {d:Array Int}:∀ {k n:Nat},Room (n+4 * k) σ->Room n (cleanW l ch d k σ)
 | 0,_,h=>h
 | k+1,_,h=>zgR (zgR (zep (h.le (by omega))))
theorem zsw {d:Array Int} {but:List Int} {v:Int} {k:Nat} (h:d[k]!∈but):zbq l d but v k σ=zbq l d but v (k+1) σ:=by
 conv=>rhs; rw [zbq]
 rw [Zp h]
theorem zvA {d:Array Int} {but:List Int} {v:Int} {k:Nat} (h:¬d[k]!∈but):st (zbq l d but v k σ) (l.field d[k]! 0) v=zbq l d but v (k+1) σ:=by
 conv=>rhs; rw [zbq]
 rw [Zn h]
theorem zrb {ch:List Int} {d:Array Int} {k:Nat} (h:¬l.field d[k]! 2∈ch):zb4 l p ch d k σ=zb4 l p ch d (k+1) σ:=by
 conv=>rhs; rw [zb4]; unfold ziZ
 rw [Zn h]
theorem zk1 {ch:List Int} {d:Array Int} {k:Nat} (h:l.field d[k]! 2∈ch):zb4 l p ch d (k+1) σ =
  (if (zae (get (zb4 l p ch d k σ) (l.field d[k]! 2))).1.old=0\/(zae (get (zb4 l p ch d k σ) (l.field d[k]! 2))).1.new=0 then p.write (ld (ld (zb4 l p ch d k σ) (l.field d[k]! 2)) (l.field d[k]! 1)) (l.field d[k]! 1) (IntKind.i64.wrap (pnew (ld (zb4 l p ch d k σ) (l.field d[k]! 2)) (l.field d[k]! 1)+1)) else ld (zb4 l p ch d k σ) (l.field d[k]! 2)):=by
 conv=>lhs; rw [zb4]; unfold ziZ
 rw [Zp h]
theorem znh {ch:List Int} {c:Int} (h:c∈ch):zbs σ c=cleanC ch σ c:=by unfold cleanC; rw [Zp h]
theorem zkR {ch:List Int} {c:Int} (h:¬c∈ch):σ=cleanC ch σ c:=by unfold cleanC; rw [Zn h]
end
section
variable {S:Type} [MemLike S] {l:Lay} {σ:S} {n:Nat}
def zkQ (l:Lay) (ch:List Int) (d:Array Int) (k:Nat) (σ:S):Nat->S
 | 0=>cleanW l ch d k σ
 | 1=>cleanC ch (cleanW l ch d k σ) (l.field d[k]! 2)
 | _=>cleanW l ch d (k+1) σ
theorem zua {ch:List Int} {d:Array Int} {k j:Nat} (hj:j<2) (h:l.field d[k]! (2 - (j:Int))∈ch):zbs (zkQ l ch d k σ j) (l.field d[k]! (2 - (j:Int)))=zkQ l ch d k σ (j+1):=by
 match j,hj with
 | 0,_=>exact znh h
 | 1,_=>exact znh h
theorem zqN {ch:List Int} {d:Array Int} {k j:Nat} (hj:j<2) (h:¬l.field d[k]! (2 - (j:Int))∈ch):zkQ l ch d k σ j=zkQ l ch d k σ (j+1):=by
 match j,hj with
 | 0,_=>exact zkR h
 | 1,_=>exact zkR h
theorem zox {ch:List Int} {d:Array Int} {k j:Nat} (hj:j<2) (h:Room (n+4 * (k+1)) σ):Room (n+2) (zkQ l ch d k σ j):=by
 match j,hj with
 | 0,_=>exact zep (h.le (by omega))
 | 1,_=>exact zgR (zep (h.le (by omega)))
end
theorem zsD {d:Array Acc} {v:Int} {k:Nat} (hk:0<k) (h1:d[k - 1]!.store=true) (h2:d[k - 1]!.cell=v):((k - 1:Nat):Int)=zeF d v k:=by
 obtain ⟨m,rfl⟩:∃ m,k=m+1:=⟨k - 1,by omega⟩
 rw [zeF,if_pos ⟨h1,h2⟩]; rfl
theorem zpC {d:Array Acc} {v:Int} {n k:Nat} (h:zeF d v n=zeF d v k) (hk:0<k) (h1:d[k - 1]!.store=false\/¬d[k - 1]!.cell=v):zeF d v n=zeF d v (k - 1):=by
 obtain ⟨m,rfl⟩:∃ m,k=m+1:=⟨k - 1,by omega⟩
 have h1:d[m]!.store=false\/¬d[m]!.cell=v:=h1
 rw [h,zeF,if_neg]
 ·rfl
 ·rintro ⟨a,b⟩
  rcases h1 with h1 | h1
  ·rw [h1] at a; cases a
  ·exact h1 b
def acc1 (x:Acc) (σ:M):M:=if x.store then st σ x.cell x.val else σ
def accG (x:Acc) (σ:M):Bool:=x.store || decide (get σ x.cell=x.val)
def accJ (x:Acc) (σ:M):Nat->M
 | 0=>σ
 | _=>acc1 x σ
theorem zA4 {x:Acc} {σ:M} (h:x.store=true):st (accJ x σ 0) x.cell x.val=accJ x σ (0+1):=by show st σ _ _=acc1 x σ; unfold acc1; rw [Zp h]
theorem zxa {x:Acc} {σ:M} (h:x.store=false):accJ x σ 0=accJ x σ (0+1):=by show σ=acc1 x σ; unfold acc1; rw [Zn (by rw [h]; decide)]
theorem zuG {x:Acc} {σ:M} (h:x.store=false):σ=acc1 x σ:=zxa h
theorem zuF {x:Acc} {σ:M} (h:x.store=true):accG x σ=true:=by unfold accG; rw [h]; rfl
theorem zuE {x:Acc} {σ:M} (h:get σ x.cell=x.val):accG x σ=true:=by unfold accG; rw [decide_eq_true h,Bool.or_true]
theorem zA5 {x:Acc} {σ:M} (h:x.store=false) (h2:¬get σ x.cell=x.val):accG x σ=false:=by unfold accG; rw [h,decide_eq_false h2]; rfl
theorem zt1 {d:Array Int}:∀ n,(cpt d n).length<=n
 | 0=>Nat.le_refl _
 | n+1=>by
  have:=zt1 (d:=d) n
  rw [cpt]
  split
  ·rw [List.length_append,List.length_singleton]; omega
  ·omega
theorem zot {d:Array Int} {x:Int}:∀ {n},x∈cpt d n↔∃ i,i<n/\d[i]! =x
 | 0=>by simp [cpt]
 | n+1=>by
  have ih:=zot (d:=d) (x:=x) (n:=n)
  rw [cpt]
  split
  ·rw [List.mem_append,List.mem_singleton,ih]
   constructor
   ·rintro (⟨i,hi,e⟩ | e)
    ·exact ⟨i,by omega,e⟩
    ·exact ⟨n,by omega,e.symm⟩
   ·rintro ⟨i,hi,e⟩
    by_cases h:i=n
    ·subst h; exact .inr e.symm
    ·exact .inl ⟨i,by omega,e⟩
  ·rename_i h
   have h':n≠0/\d[n]! =d[n - 1]!:=by
    refine ⟨fun h0=>h (.inl h0),Decidable.byContradiction fun h1=>h (.inr h1)⟩
   rw [ih]
   constructor
   ·rintro ⟨i,hi,e⟩; exact ⟨i,by omega,e⟩
   ·rintro ⟨i,hi,e⟩
    by_cases h2:i=n
    ·subst h2; exact ⟨i - 1,by omega,by rw [<-h'.2]; exact e⟩
    ·exact ⟨i,by omega,e⟩
theorem zpS {d:Array Int} (hs:∀ i j,i<=j->j<d.size->d[i]!<=d[j]!):∀ {n},n<=d.size->(cpt d n).Pairwise (·<=·)
 | 0,_=>List.Pairwise.nil
 | n+1,hn=>by
  have ih:=zpS hs (n:=n) (by omega)
  rw [cpt]
  split
  ·rw [List.pairwise_append]
   refine ⟨ih,List.pairwise_singleton _ _,fun a ha b hb=>?_⟩
   obtain ⟨i,hi,rfl⟩:=zot.1 ha
   rw [List.mem_singleton] at hb; subst hb
   exact hs i n (by omega) (by omega)
  ·exact ih
theorem zph {d:Array Int} (h:d.toList.Pairwise (·<=·)):∀ i j,i<=j->j<d.size->d[i]!<=d[j]!:=fun i j hij hj=>by
 rcases Nat.lt_or_eq_of_le hij with h1 | h1
 ·have:=(List.pairwise_iff_getElem.1 h) i j (by simpa using (by omega:i<d.size)) (by simpa using hj) h1
  rw [getElem!_pos d i (by omega),getElem!_pos d j hj]
  simpa using this
 ·subst h1; exact Int.le_refl _
theorem zu1 (d:Array Int):(srt d).toList.Pairwise (·<=·):=by
 have h:=List.pairwise_mergeSort (le:=fun x y:Int=>decide (x<=y)) (fun a b c h1 h2=>by simp only [decide_eq_true_eq] at *; omega) (fun a b=>by simp only [Bool.or_eq_true,decide_eq_true_eq]; omega) d.toList
 unfold srt
 refine h.imp fun h2=>by simpa using h2
theorem zxy {d:Array Int} {x:Int}:x∈(srt d).toList↔x∈d.toList:=by unfold srt; simp
theorem zuc (row:Array Acc):(chgL row).Pairwise (·<=·):=zpS (zph (zu1 _)) (by rw [zer]; exact Nat.le_refl _)
theorem zkS {row:Array Acc} {ch:Array Int} (h:ch.toList=chgL row):∀ i j,i<=j->j<ch.size->ch[i]!<=ch[j]!:=zph (by rw [h]; exact zuc row)
theorem zpZ {row:Array Acc} {ch:Array Int} (h:ch.toList=chgL row):ch.size<=row.size:=by
 have h1:ch.size=(chgL row).length:=by rw [<-h]; simp
 have h2:=zt1 (d:=srt (zbQ row row.size)) (zbQ row row.size).size
 have h3:=zeK row row.size
 unfold chgL at h1
 omega
theorem zi7 {row:Array Acc} {x:Int}:∀ {n},x∈(zbQ row n).toList↔∃ i,i<n/\row[i]!.store=true/\row[i]!.cell=x
 | 0=>by simp [zbQ]
 | n+1=>by
  have ih:=zi7 (row:=row) (x:=x) (n:=n)
  rw [zbQ]
  split
  ·rename_i hst
   rw [Array.toList_append,List.mem_append,ih]
   constructor
   ·rintro (⟨i,hi,e⟩ | e)
    ·exact ⟨i,by omega,e⟩
    ·exact ⟨n,by omega,hst,(show x=row[n]!.cell by simpa using e).symm⟩
   ·rintro ⟨i,hi,e1,e2⟩
    by_cases h:i=n
    ·subst h; exact .inr (by simp [e2])
    ·exact .inl ⟨i,by omega,e1,e2⟩
  ·rename_i hst
   rw [ih]
   constructor
   ·rintro ⟨i,hi,e⟩; exact ⟨i,by omega,e⟩
   ·rintro ⟨i,hi,e1,e2⟩
    by_cases h:i=n
    ·subst h; exact absurd e1 hst
    ·exact ⟨i,by omega,e1,e2⟩
theorem zp0 {row:Array Acc} {x:Int}:x∈chgL row↔∃ i,i<row.size/\row[i]!.store=true/\row[i]!.cell=x:=by
 refine Iff.trans ?_ (Iff.trans (zxy (d:=zbQ row row.size)) zi7)
 unfold chgL
 rw [zot]
 constructor
 ·rintro ⟨i,hi,e⟩; exact zl6 (by rw [zer]; exact hi) e
 ·intro h
  obtain ⟨i,hi,e⟩:=Array.getElem_of_mem (by simpa using h:x∈srt (zbQ row row.size))
  exact ⟨i,by rw [zer] at hi; exact hi,by rw [getElem!_pos _ i hi]; exact e⟩
def runM (m:M):List Acc->M
 | []=>m
 | a :: r=>runM (acc1 a m) r
def okM (m:M):List Acc->Prop
 | []=>True
 | a :: r=>accG a m=true/\okM (acc1 a m) r
theorem zcP:∀ {a:List Acc} {m:M} {b:List Acc},runM m (a++b)=runM (runM m a) b
 | [],_,_=>rfl
 | x :: r,m,b=>zcP (a:=r)
theorem zfg:∀ {a:List Acc} {m:M} {b:List Acc},okM m (a++b)↔okM m a/\okM (runM m a) b
 | [],_,_=>⟨fun h=>⟨Zt,h⟩,fun h=>h.2⟩
 | x :: r,m,b=>by
  have ih:=zfg (a:=r) (m:=acc1 x m) (b:=b)
  exact ⟨fun h=>⟨⟨h.1,(ih.1 h.2).1⟩,(ih.1 h.2).2⟩,fun h=>⟨h.1.1,ih.2 ⟨h.1.2,h.2⟩⟩⟩
theorem zsk (σ:Tr) (i:Int):(ld σ i:Tr).mem=σ.mem:=by rw [zkc]; split<;>rfl
theorem zwJ (σ:Tr) (i v:Int):(st σ i v:Tr).mem=st σ.mem i v:=by
 rw [zkb]
 split
 ·rfl
 ·next h=>rw [zj6,Zn h]
structure Rp (m:M) (σ:Tr):Prop where
 run:runM m σ.row.toList=σ.mem
 ok:okM m σ.row.toList
theorem Rp.start (m:M):Rp m ⟨m,#[]⟩:=⟨Z,Zt⟩
theorem Rp.ld {m:M} {σ:Tr} (h:Rp m σ) (i:Int):Rp m (ld σ i):=by
 rw [zkc]
 split
 ·refine ⟨?_,?_⟩
  ·show runM m (σ.row++#[_]).toList=σ.mem
   rw [Array.toList_append,zcP,h.run]; rfl
  ·show okM m (σ.row++#[_]).toList
   rw [Array.toList_append,zfg,h.run]
   exact ⟨h.ok,zuE Z,Zt⟩
 ·exact h
theorem Rp.st {m:M} {σ:Tr} (h:Rp m σ) (i v:Int):Rp m (st σ i v):=by
 rw [zkb]
 split
 ·refine ⟨?_,?_⟩
  ·show runM m (σ.row++#[_]).toList=MemLike.st σ.mem i v
   rw [Array.toList_append,zcP,h.run]; rfl
  ·show okM m (σ.row++#[_]).toList
   rw [Array.toList_append,zfg,h.run]
   exact ⟨h.ok,zuF Z,Zt⟩
 ·exact h
def Opt2 {α β:Type _} (R:α->β->Prop):Option α->Option β->Prop
 | none,none=>True
 | some a,some b=>R a b
 | _,_=>False
theorem Opt2.bind {α β γ δ:Type _} {R:α->β->Prop} {Q:γ->δ->Prop} {a:Option α} {b:Option β} {f:α->Option γ} {g:β->Option δ} (h:Opt2 R a b) (hf:∀ x y,R x y->Opt2 Q (f x) (g y)):Opt2 Q (a.bind f) (b.bind g):=by
 cases a<;>cases b
 ·trivial
 ·exact h.elim
 ·exact h.elim
 ·exact hf _ _ h
theorem Opt2.ite {α β:Type _} {R:α->β->Prop} {c d:Prop} [Decidable c] [Decidable d] {a a':Option α} {b b':Option β} (e:c↔d) (h1:c->Opt2 R a b) (h2:¬c->Opt2 R a' b'):Opt2 R (if c then a else a') (if d then b else b'):=by
 by_cases h:c
 ·rw [Zp h,Zp (e.1 h)]; exact h1 h
 ·rw [Zn h,Zn fun k=>h (e.2 k)]; exact h2 h
theorem Opt2.ex {α β:Type _} {R:α->β->Prop} {a:Option α} {y:β} (h:Opt2 R a (some y)):∃ x,a=some x/\R x y:=by
 cases a
 ·exact h.elim
 ·exact ⟨_,Z,h⟩
structure Pt where
 l:Lay
 p:Pen
 par0:Int->Int
 m0:M
 m1:M
 C:Int->Prop
 E:Int->Prop
structure Pt.Ok (W:Pt):Prop where
 hl:W.l.Ok
 hp:PenOk W.p
 hc:∀ v,W.C v->0<=v/\v<W.l.V
 he:∀ s,W.E s->0<=s/\s<W.l.S
def Pt.N (W:Pt) (x:Int):Prop:=W.l.nd x/\((W.l.node x).1.arc=false->W.C (W.l.node x).1.vertex)/\((W.l.node x).1.arc=true->W.E (W.l.node x).1.slot)
def Pt.N0 (W:Pt) (x:Int):Prop:=x=0\/W.N x
def Pt.Low (W:Pt) (j:Int):Prop:=(∃ s,W.E s/\(j=W.l.ends s\/j=W.l.level s\/∃ d,j=W.l.next s d\/j=W.l.prev s d))\/(∃ a b,W.C a/\W.C b/\j=W.l.edge a b)\/∃ v i,W.C v/\j=W.l.head v i
def Pt.Adr (W:Pt) (j:Int):Prop:=W.Low j\/∃ x f,W.N x/\(2<=f/\f<=6)/\j=W.l.field x f
def Pt.Sto (W:Pt) (j v:Int):Prop:=W.Low j\/(∃ x f,W.N x/\(f=3\/f=4\/f=6)/\j=W.l.field x f)\/(∃ x,W.N x/\zbJ W.l x=false/\j=W.l.field x 2) \/
 ∃ x q,W.N x/\zbJ W.l x=true/\j=W.l.field x 2/\zae v=(⟨W.par0 x,q,W.p.thread,W.p.tag⟩,true)/\0<=v/\v<18446744073709551616
def Pt.okA (W:Pt) (a:Acc):Prop:=if a.store=true then W.Sto a.cell a.val else W.Adr a.cell
def S0 (Lv:Int->Prop) (y:Int):Prop:=y=0\/Lv y
structure Clo (W:Pt) (En Lv:Int->Prop) (m:M):Prop where
 size:m.size=W.l.cells
 ch:∀ x f,W.N x->f=3\/f=4->W.N0 (tget W.l m x f)
 pa:∀ x,W.N x->W.N0 (parent W.l m x)
 sn:Snap W.l W.p W.par0 m
 hd:∀ v i,W.C v->S0 Lv (aget m (W.l.head v i))
 nx:∀ y,Lv y->S0 Lv (aget m (za7 W.l y))/\S0 Lv (aget m (zaR W.l y))
 en:∀ s,En s->W.C (endsU W.l m s)/\W.C (endsV W.l m s)
 ene:∀ s,En s->W.E s
 lve:∀ y,Lv y->∃ s d:Int,En s/\(d=0\/d=1)/\y=2 * s+d+1
structure Twin (W:Pt) (En Lv:Int->Prop) (σ:Tr) (m:M):Prop where
 clo:Clo W En Lv m
 acc:∀ a∈σ.row.toList,W.okA a
 rp:Rp W.m0 σ
 eq:∀ j,W.Adr j->get σ.mem j=get m j
 sz:σ.mem.size=m.size
 fr:∀ j,¬W.Adr j->get m j=get W.m1 j
 fr0:∀ j,¬W.Adr j->get σ.mem j=get W.m0 j
theorem zhQ {m:M} {i v j:Int}:get (st m i v:M) j=if j=i/\0<=i/\i<m.size then ((UInt64.ofNat v.toNat).toNat:Int) else get m j:=by
 by_cases h:0<=i/\i<m.size
 ·have hv:0<=((UInt64.ofNat v.toNat).toNat:Int)/\((UInt64.ofNat v.toNat).toNat:Int)<18446744073709551616:=⟨by omega,by have:=UInt64.toNat_lt (UInt64.ofNat v.toNat); omega⟩
  have e:(st m i v:M)=st m i ((UInt64.ofNat v.toNat).toNat:Int):=by
   rw [zj6,zj6,Zp h,Zp h,Int.toNat_natCast,UInt64.ofNat_toNat]
  rw [e,zcJ hv]
 ·rw [zj6,Zn h,Zn fun c=>h c.2]
section
variable {W:Pt} {En Lv En' Lv':Int->Prop} {σ:Tr} {m:M}
theorem Pt.Sto.adr {j v:Int} (h:W.Sto j v):W.Adr j:=by
 rcases h with h | ⟨x,f,h1,h2,h3⟩ | ⟨x,h1,_,h3⟩ | ⟨x,q,h1,_,h3,_⟩
 ·exact .inl h
 ·exact .inr ⟨x,f,h1,by omega,h3⟩
 ·exact .inr ⟨x,2,h1,by omega,h3⟩
 ·exact .inr ⟨x,2,h1,by omega,h3⟩
theorem Twin.get (h:Twin W En Lv σ m) {i:Int} (hi:0<=i->W.Adr i):get σ i=get m i:=by
 by_cases h0:0<=i
 ·exact h.eq i (hi h0)
 ·rw [zoT,zfS (by omega),zfS (by omega)]
theorem Twin.ld (h:Twin W En Lv σ m) {i:Int} (hi:0<=i->W.Adr i):Twin W En Lv (MemLike.ld σ i) m:=by
 have e:=zsk σ i
 refine ⟨h.clo,?_,h.rp.ld i,by rw [e]; exact h.eq,by rw [e]; exact h.sz,h.fr,by rw [e]; exact h.fr0⟩
 rw [zkc]
 split
 ·next hi' =>
  intro a ha
  replace ha:a∈(σ.row++#[(⟨false,i,MemLike.get σ.mem i⟩:Acc)]).toList:=ha
  rw [Array.toList_append,List.mem_append] at ha
  rcases ha with ha | ha
  ·exact h.acc a ha
  ·rw [List.mem_singleton] at ha; subst ha; exact hi hi'.1
 ·exact h.acc
theorem Twin.st (h:Twin W En Lv σ m) {i v:Int} (hs:0<=i->W.Sto i v) (hc:Clo W En' Lv' (MemLike.st m i v)):Twin W En' Lv' (MemLike.st σ i v) (MemLike.st m i v):=by
 have e:=zwJ σ i v
 have ne:∀ j,¬W.Adr j->∀ q:M,MemLike.get (MemLike.st q i v:M) j=MemLike.get q j:=fun j hj q=>by
  by_cases h0:0<=i
  ·exact zap fun c=>hj (by rw [c]; exact (hs h0).adr)
  ·rw [zkl (by omega)]
 refine ⟨hc,?_,h.rp.st i v,fun j hj=>by rw [e,zhQ,zhQ,h.sz,h.eq j hj],by rw [e,zaz,zaz]; exact h.sz,fun j hj=>by rw [ne j hj]; exact h.fr j hj,fun j hj=>by rw [e,ne j hj]; exact h.fr0 j hj⟩
 rw [zkb]
 split
 ·next hi' =>
  intro a ha
  replace ha:a∈(σ.row++#[(⟨true,i,v⟩:Acc)]).toList:=ha
  rw [Array.toList_append,List.mem_append] at ha
  rcases ha with ha | ha
  ·exact h.acc a ha
  ·rw [List.mem_singleton] at ha; subst ha; exact hs hi'.1
 ·exact h.acc
theorem Twin.conv (h:Twin W En Lv σ m) (hc:Clo W En' Lv' m):Twin W En' Lv' σ m:=⟨hc,h.acc,h.rp,h.eq,h.sz,h.fr,h.fr0⟩
variable (hW:W.Ok)
include hW
theorem zkF {f:Int}:W.l.field 0 f=-1:=by
 unfold Lay.field
 rw [if_neg]
 rintro ⟨h,_⟩
 have:IntKind.i64.wrap (0 - 1)=-1:=by decide
 rw [this] at h
 exact absurd h.1 (by decide)
theorem ziu {x f:Int} (hx:W.N0 x) (hf:2<=f/\f<=6):0<=W.l.field x f->W.Adr (W.l.field x f):=fun h=>by
 rcases hx with rfl | hx
 ·rw [zkF hW] at h; omega
 ·exact .inr ⟨x,f,hx,hf,Z⟩
theorem Pt.Low.lowc {j:Int} (h:W.Low j):lowc W.l j:=by
 rcases h with ⟨s,_,h | h | ⟨d,h⟩⟩ | ⟨a,b,_,_,h⟩ | ⟨v,i,_,h⟩
 ·exact .inl ⟨s,.inl h⟩
 ·exact .inl ⟨s,.inr h⟩
 ·exact .inr (.inr (.inl ⟨s,d,h⟩))
 ·exact .inr (.inl ⟨a,b,h⟩)
 ·exact .inr (.inr (.inr ⟨v,i,h⟩))
theorem Clo.fld (h:Clo W En Lv m) {x f v:Int} (hx:W.N x) (hf:2<=f/\f<=6) (hv:0<=v/\v<18446744073709551616) (h3:f=3\/f=4->W.N0 (IntKind.i64.wrap v))
  (h2:f=2->(zbJ W.l x=true->∃ q,W.N0 q/\zae v=(⟨W.par0 x,q,W.p.thread,W.p.tag⟩,true))/\(zbJ W.l x=false->W.N0 (IntKind.i64.wrap v))):Clo W En Lv (MemLike.st m (W.l.field x f) v):=by
 have hl:=hW.hl
 have g:=za4 hl h.size hx.1 (f:=f) (by omega) hv
 have lw:∀ {j:Int},Go.Tm.lowc W.l j->MemLike.get (MemLike.st m (W.l.field x f) v:M) j=MemLike.get m j:=fun {j} hj=>by
  rw [g,Zn (zaO hl hj hx.1 (by omega))]
 have inj:∀ {y k:Int},W.l.nd y->(0<=k/\k<7)->(W.l.field y k=W.l.field x f↔y=x/\k=f):=fun {y k} hy hk=>zac hl hy hk hx.1 (by omega)
 refine ⟨by rw [zaz]; exact h.size,fun y k hy hk=>?_,fun y hy=>?_,fun y hy hs=>?_,fun w i hw=>?_,fun y hy=>?_,fun s hs=>?_,h.ene,h.lve⟩
 ·unfold tget
  rw [g]
  by_cases e:W.l.field y k=W.l.field x f
  ·rw [Zp e]; have:=(inj hy.1 (by omega)).1 e; exact h3 (by omega)
  ·rw [Zn e]; exact h.ch y k hy hk
 ·have:=h.pa y hy
  unfold parent pnew tget at *
  rw [g]
  by_cases e:W.l.field y 2=W.l.field x f
  ·rw [Zp e]
   obtain ⟨rfl,e2⟩:=(inj hy.1 (by omega)).1 e
   by_cases hs:zbJ W.l y=true
   ·obtain ⟨q,hq,e3⟩:=(h2 e2.symm).1 hs
    rw [Zp hs,e3]; exact hq
   ·rw [Zn hs]; exact (h2 e2.symm).2 (by simpa using hs)
  ·rw [Zn e]; exact this
 ·have:=h.sn y hy hs
  unfold gf at *
  rw [g]
  by_cases e:W.l.field y 2=W.l.field x f
  ·rw [Zp e]
   obtain ⟨rfl,e2⟩:=(inj hy (by omega)).1 e
   obtain ⟨q,hq,e3⟩:=(h2 e2.symm).1 hs
   rw [e3]; exact ⟨Z,.inr ⟨Z,Z,Z⟩⟩
  ·rw [Zn e]; exact this
 ·unfold aget; rw [lw zek]; exact h.hd w i hw
 ·unfold aget; rw [lw zdG,lw zcM]; exact h.nx y hy
 ·unfold endsU endsV; rw [lw (.inl ⟨s,.inl Z⟩)]; exact h.en s hs
theorem Clo.low (h:Clo W En Lv m) {j v:Int} (hj:W.Low j) (hv:0<=v/\v<18446744073709551616) (h1:0<=j->∀ w i,W.C w->j=W.l.head w i->S0 Lv (IntKind.i64.wrap v))
  (h2:0<=j->∀ y,Lv y->j=za7 W.l y\/j=zaR W.l y->S0 Lv (IntKind.i64.wrap v)) (h3:0<=j->∀ s,En s->j≠W.l.ends s):Clo W En Lv (MemLike.st m j v):=by
 have hl:=hW.hl
 by_cases h0:0<=j
 ·have fl:∀ {y k:Int},W.l.nd y->(0<=k/\k<7)->MemLike.get (MemLike.st m j v:M) (W.l.field y k)=MemLike.get m (W.l.field y k):=fun {y k} hy hk=>zap fun e=>zaO hl (hj.lowc hW) hy hk e.symm
  have ag:∀ q,aget (MemLike.st m j v:M) q=aget m q\/q=j/\aget (MemLike.st m j v:M) q=IntKind.i64.wrap v:=fun q=>by
   unfold aget
   rw [zcJ hv]
   by_cases e:q=j/\0<=j/\j<m.size
   ·rw [Zp e]; exact .inr ⟨e.1,Z⟩
   ·rw [Zn e]; exact .inl Z
  refine ⟨by rw [zaz]; exact h.size,fun y k hy hk=>?_,fun y hy=>?_,fun y hy hs=>?_,fun w i hw=>?_,fun y hy=>⟨?_,?_⟩,fun s hs=>?_,h.ene,h.lve⟩
  ·unfold tget; rw [fl hy.1 (by omega)]; exact h.ch y k hy hk
  ·unfold parent pnew tget; rw [fl hy.1 (by omega)]; exact h.pa y hy
  ·unfold gf; rw [fl hy (by omega)]; exact h.sn y hy hs
  ·rcases ag (W.l.head w i) with e | ⟨e,e2⟩
   ·rw [e]; exact h.hd w i hw
   ·rw [e2]; exact h1 h0 w i hw e.symm
  ·rcases ag (za7 W.l y) with e | ⟨e,e2⟩
   ·rw [e]; exact (h.nx y hy).1
   ·rw [e2]; exact h2 h0 y hy (.inl e.symm)
  ·rcases ag (zaR W.l y) with e | ⟨e,e2⟩
   ·rw [e]; exact (h.nx y hy).2
   ·rw [e2]; exact h2 h0 y hy (.inr e.symm)
  ·unfold endsU endsV; rw [zap fun e=>h3 h0 s hs e.symm]; exact h.en s hs
 ·rw [zkl (by omega)]; exact h
end
abbrev RV {α:Type} (W:Pt) (En Lv:Int->Prop) (Q:α->Prop) (r:α×Tr) (r':α×M):Prop:=r.1=r'.1/\Q r.1/\Twin W En Lv r.2 r'.2
section
variable {W:Pt} {En Lv:Int->Prop} {σ:Tr} {m:M}
theorem Twin.tget (h:Twin W En Lv σ m) (hW:W.Ok) {x f:Int} (hx:W.N0 x) (hf:2<=f/\f<=6):tget W.l σ x f=tget W.l m x f:=by unfold Go.Tm.tget; rw [h.get (ziu hW hx hf)]
theorem Twin.par (h:Twin W En Lv σ m) (hW:W.Ok) {x:Int} (hx:W.N0 x):parent W.l σ x=parent W.l m x:=by unfold Go.Tm.parent pnew Go.Tm.tget; rw [h.get (ziu hW hx (by omega))]
theorem Twin.tsum (h:Twin W En Lv σ m) (hW:W.Ok) {x:Int} (hx:W.N0 x):tsum W.l σ x=tsum W.l m x:=by unfold Go.Tm.tsum; rw [h.get (ziu hW hx (by omega))]
theorem Twin.size (h:Twin W En Lv σ m) (hW:W.Ok) {x:Int} (hx:W.N0 x):size W.l σ x=size W.l m x:=by unfold Go.Tm.size; rw [h.tsum hW hx]
theorem Twin.verts (h:Twin W En Lv σ m) (hW:W.Ok) {x:Int} (hx:W.N0 x):verts W.l σ x=verts W.l m x:=by unfold Go.Tm.verts; rw [h.tsum hW hx]
theorem Twin.marks (h:Twin W En Lv σ m) (hW:W.Ok) {x:Int} (hx:W.N0 x):marks W.l σ x=marks W.l m x:=by unfold Go.Tm.marks; rw [h.tsum hW hx]
theorem Twin.marked (h:Twin W En Lv σ m) (hW:W.Ok) {x j:Int} (hx:W.N0 x):marked W.l σ x j=marked W.l m x j:=by unfold Go.Tm.marked; rw [h.marks hW hx]
theorem Twin.has (h:Twin W En Lv σ m) (hW:W.Ok) {x j:Int} (hx:W.N0 x):has W.l σ x j=has W.l m x j:=by unfold Go.Tm.has; rw [h.tsum hW hx]
theorem Twin.above (h:Twin W En Lv σ m) (hW:W.Ok) {x y:Int} (hx:W.N0 x) (hy:W.N0 y):above W.l σ x y=above W.l m x y:=by
 unfold Go.Tm.above
 have e:MemLike.get (MemLike.ld σ (W.l.field x 5)) (W.l.field y 5)=MemLike.get (MemLike.ld m (W.l.field x 5)) (W.l.field y 5):=(h.ld (ziu hW hx (by omega))).get (ziu hW hy (by omega))
 rw [e,h.get (ziu hW hx (by omega))]
variable (hW:W.Ok)
include hW
theorem Pt.N0.lk {x:Int} (h:W.N0 x):0<=x/\x<=560:=by
 have hn:=zaB hW.hl
 rcases h with rfl | h
 ·omega
 ·have:=h.1; unfold Lay.nd at this; omega
theorem zdN (h:Twin W En Lv σ m) {x f:Int} (hx:W.N0 x) (hf:2<=f/\f<=6):Twin W En Lv (zdY W.l σ x f) m:=h.ld (ziu hW hx hf)
theorem zeQ (h:Twin W En Lv σ m) {x:Int} (hx:W.N0 x):Twin W En Lv (zcL W.l σ x) m:=h.ld (ziu hW hx (by omega))
theorem zcQ (h:Twin W En Lv σ m) {x:Int} (hx:W.N0 x):Twin W En Lv (zb5 W.l σ x) m:=by
 unfold zb5
 split
 ·exact h
 ·exact h.ld (ziu hW hx (by omega))
theorem zlt (h:Twin W En Lv σ m) {x:Int} (hx:W.N0 x):Twin W En Lv (zfQ W.l σ x) m:=zcQ hW h hx
theorem zwg (h:Twin W En Lv σ m) {x y:Int} (hx:W.N0 x) (hy:W.N0 y):Twin W En Lv (zkZ W.l σ x y) m:=(h.ld (ziu hW hx (by omega))).ld (ziu hW hy (by omega))
theorem zwr (h:Twin W En Lv σ m) {x f v:Int} (hx:W.N x) (hf:f=3\/f=4) (hv:W.N0 v):Twin W En Lv (tput W.l σ x f v) (tput W.l m x f v):=by
 have hb:=hv.lk hW
 unfold tput
 rw [zdK (by omega)]
 exact h.st (fun _=>.inr (.inl ⟨x,f,hx,by omega,Z⟩)) (h.clo.fld hW hx (by omega) (by omega) (fun _=>by rw [zaU (by omega)]; exact hv) fun e=>by omega)
theorem zm0 (h:Twin W En Lv σ m) {x q:Int} (hx:W.N0 x) (hq:W.N0 q):Twin W En Lv (hang W.l W.p σ x q) (hang W.l W.p m x q):=by
 unfold hang
 split
 ·exact h
 next h0 =>
 rcases hx with hx | hx
 ·exact absurd hx h0
 have hb:=hq.lk hW
 split
 ·next hs =>
  have ha:0<=W.l.field x 2->W.Adr (W.l.field x 2):=ziu hW (.inr hx) (by omega)
  unfold Pen.write
  rw [h.get ha]
  split
  ·next hu =>
   split
   ·next hr =>
    have hto:=zcc.1 hr
    have hsn:=(h.clo.sn x hx.1 hs).2
    have e:(if (zae (MemLike.get m (W.l.field x 2))).1.thread≠W.p.thread\/(zae (MemLike.get m (W.l.field x 2))).1.tag≠W.p.tag then (zae (MemLike.get m (W.l.field x 2))).1.new else (zae (MemLike.get m (W.l.field x 2))).1.old)=W.par0 x:=by
     rcases hsn with ⟨a,b⟩ | ⟨a,b,c⟩
     ·rw [Zp (.inl (by have:=hW.hp.1; unfold gf at a; omega))]; exact b
     ·rw [Zn (by unfold gf at a b; rintro (k | k)<;>omega)]; exact c
    have hp':zae (W.p.to q (zae (MemLike.get m (W.l.field x 2))).1).pack=(⟨W.par0 x,q,W.p.thread,W.p.tag⟩,true):=by
     rw [zcT hto,za1 hto]
     unfold Pen.to
     rw [e]
    have hrn:0<=(W.p.to q (zae (MemLike.get m (W.l.field x 2))).1).pack/\(W.p.to q (zae (MemLike.get m (W.l.field x 2))).1).pack<18446744073709551616:=by rw [zcT hto]; exact zbS hto
    exact (h.ld ha).st (fun _=>.inr (.inr (.inr ⟨x,q,hx,hs,rfl,hp',hrn⟩))) (h.clo.fld hW hx (by omega) hrn (fun e=>by omega) fun _=>⟨fun _=>⟨q,hq,hp'⟩,fun k=>by rw [hs] at k; cases k⟩)
   ·exact h.ld ha
  ·exact h.ld ha
 ·next hs =>
  have hs:zbJ W.l x=false:=by simpa using hs
  unfold tput
  rw [zdK (by omega)]
  exact h.st (fun _=>.inr (.inr (.inl ⟨x,hx,hs,rfl⟩))) (h.clo.fld hW hx (by omega) (by omega) (fun e=>by omega) fun _=>⟨fun k=>(by rw [hs] at k; cases k),fun _=>by rw [zaU (by omega)]; exact hq⟩)
theorem zo8 (h:Twin W En Lv σ m) {x k:Int} (hx:W.N x):∀ n,n<=2->(zcd W.l σ x k n).1=(zcd W.l m x k n).1/\Twin W En Lv (zcd W.l σ x k n).2 m/\(zcd W.l m x k n).2=m
 | 0,_=>⟨Z,h,Z⟩
 | n+1,hn=>by
  obtain ⟨h1,h2,h3⟩:=zo8 h hx n (by omega)
  unfold zcd
  dsimp only
  have hc:=h.clo.ch x (3+(n:Int)) hx (by omega)
  have e1:=h2.tget hW (f:=3+(n:Int)) (.inr hx:W.N0 x) (by omega)
  have h4:=zdN hW h2 (.inr hx:W.N0 x) (f:=3+(n:Int)) (by omega)
  rw [h3,e1,h1,h4.tsum hW hc]
  refine ⟨Z,zcQ hW h4 hc,?_⟩
  rw [zbd,zbt]
theorem zzV (h:Twin W En Lv σ m) {x v:Int} (hx:W.N x) (hv:0<=v/\v<18446744073709551616):Twin W En Lv (MemLike.st σ (W.l.field x 6) v) (MemLike.st m (W.l.field x 6) v) :=
 h.st (fun _=>.inr (.inl ⟨x,6,hx,by omega,Z⟩)) (h.clo.fld hW hx (by omega) hv (fun e=>by omega) fun e=>by omega)
theorem zrK (h:Twin W En Lv σ m) {x k:Int} (hx:W.N x):Twin W En Lv (zfc W.l σ x k) (zfc W.l m x k):=by
 obtain ⟨h1,h2,h3⟩:=zo8 hW h (k:=k) hx 2 (by omega)
 unfold zfc
 rw [h1,h3]
 exact zzV hW h2 hx (zby _ _)
theorem zo2 (h:Twin W En Lv σ m) {x f c:Int} (hx:W.N x) (hf:f=3\/f=4) (hc:W.N0 c):Twin W En Lv (setC W.l W.p σ x f c) (setC W.l W.p m x f c):=by
 unfold setC
 dsimp only
 have h1:=zm0 hW (zwr hW h hx hf hc) hc (.inr hx)
 rw [zej,h1.marks hW (.inr hx)]
 exact zrK hW (zlt hW h1 (.inr hx)) hx
theorem znB:∀ (k:Nat) {σ:Tr} {m:M} {x:Int} (n:Int),Twin W En Lv σ m->W.N0 x->Opt2 (RV W En Lv fun r:Int×Int=>W.N0 r.1/\W.N0 r.2) (split W.l W.p k σ x n) (split W.l W.p k m x n)
 | 0,_,_,_,_,_,_=>trivial
 | k+1,σ,m,x,n,h,hx=>by
  rw [split,split]
  refine Opt2.ite Iff.rfl (fun _=>⟨Z,⟨.inl Z,.inl Z⟩,h⟩) fun h0=>?_
  have hx':W.N x:=hx.resolve_left h0
  dsimp only
  simp only [zbt,zbd]
  have hc:=h.clo.ch x 3 hx' (.inl Z)
  have h1:=zdN hW h hx (f:=3) (by omega)
  rw [h.tget hW hx (by omega),h1.size hW hc]
  have h2:=zcQ hW h1 hc
  refine Opt2.ite Iff.rfl (fun _=>Opt2.bind (znB k n h2 hc) ?_) fun _=>?_
  ·rintro ⟨⟨a,b⟩,σ'⟩ ⟨⟨a',b'⟩,m'⟩ ⟨e,⟨q1,q2⟩,s⟩
   cases e
   exact ⟨Z,⟨q1,hx⟩,zo2 hW s hx' (.inl Z) q2⟩
  ·rw [h2.tget hW hx (by omega)]
   refine Opt2.bind (znB k _ (zdN hW h2 hx (by omega)) (h.clo.ch x 4 hx' (.inr Z))) ?_
   rintro ⟨⟨a,b⟩,σ'⟩ ⟨⟨a',b'⟩,m'⟩ ⟨e,⟨q1,q2⟩,s⟩
   cases e
   exact ⟨Z,⟨hx,q2⟩,zo2 hW s hx' (.inr Z) q1⟩
theorem zgV (k:Nat) (h:Twin W En Lv σ m) {x:Int} (hx:W.N0 x) (n:Int):Opt2 (RV W En Lv fun r:Int×Int=>W.N0 r.1/\W.N0 r.2) (zeb W.l W.p k σ x n) (zeb W.l W.p k m x n):=by
 unfold zeb
 rw [zbd,h.size hW hx]
 refine Opt2.bind (znB hW k _ (zcQ hW h hx) hx) ?_
 rintro ⟨⟨a,b⟩,σ'⟩ ⟨⟨a',b'⟩,m'⟩ ⟨e,⟨q1,q2⟩,s⟩
 cases e
 exact ⟨Z,⟨q1,q2⟩,zm0 hW (zm0 hW s q1 (.inl Z)) q2 (.inl Z)⟩
theorem znQ:∀ (k:Nat) {σ:Tr} {m:M} {a b:Int},Twin W En Lv σ m->W.N0 a->W.N0 b->Opt2 (RV W En Lv W.N0) (merge W.l W.p k σ a b) (merge W.l W.p k m a b)
 | 0,_,_,_,_,_,_,_=>trivial
 | k+1,σ,m,a,b,h,ha,hb=>by
  rw [merge,merge]
  refine Opt2.ite Iff.rfl (fun _=>⟨Z,hb,h⟩) fun h0=>Opt2.ite Iff.rfl (fun _=>⟨Z,ha,h⟩) fun h1=>?_
  have ha':W.N a:=ha.resolve_left h0
  have hb':W.N b:=hb.resolve_left h1
  dsimp only
  simp only [zbt,znn]
  rw [h.above hW ha hb]
  have h2:=zwg hW h ha hb
  refine Opt2.ite Iff.rfl (fun _=>?_) fun _=>?_
  ·rw [h2.tget hW ha (by omega)]
   refine Opt2.bind (znQ k (zdN hW h2 ha (by omega)) (h.clo.ch a 4 ha' (.inr Z)) hb) ?_
   rintro ⟨c,σ'⟩ ⟨c',m'⟩ ⟨e,q,s⟩
   cases e
   exact ⟨Z,ha,zo2 hW s ha' (.inr Z) q⟩
  ·rw [h2.tget hW hb (by omega)]
   refine Opt2.bind (znQ k (zdN hW h2 hb (by omega)) ha (h.clo.ch b 3 hb' (.inl Z))) ?_
   rintro ⟨c,σ'⟩ ⟨c',m'⟩ ⟨e,q,s⟩
   cases e
   exact ⟨Z,hb,zo2 hW s hb' (.inl Z) q⟩
theorem zhc (k:Nat) (h:Twin W En Lv σ m) {a b:Int} (ha:W.N0 a) (hb:W.N0 b):Opt2 (RV W En Lv W.N0) (zei W.l W.p k σ a b) (zei W.l W.p k m a b):=by
 unfold zei
 refine Opt2.bind (znQ hW k h ha hb) ?_
 rintro ⟨c,σ'⟩ ⟨c',m'⟩ ⟨e,q,s⟩
 cases e
 exact ⟨Z,q,zm0 hW s q (.inl Z)⟩
theorem zpt:∀ (k:Nat) {σ:Tr} {m:M} {q:Int},Twin W En Lv σ m->W.N0 q->Opt2 (Twin W En Lv) (zbO W.l k σ q) (zbO W.l k m q)
 | 0,_,_,_,_,_=>trivial
 | k+1,σ,m,q,h,hq=>by
  rw [zbO,zbO]
  refine Opt2.ite Iff.rfl (fun h0=>?_) fun _=>h
  have hq':W.N q:=hq.resolve_left h0
  dsimp only
  simp only [zej,zbB]
  rw [h.marks hW hq]
  have h1:=zrK hW (zlt hW h hq) (k:=marks W.l m q) hq'
  rw [h1.par hW hq]
  exact zpt k (zeQ hW h1 hq) (h1.clo.pa q hq')
theorem zia:∀ (k:Nat) {σ:Tr} {m:M} {x:Int},Twin W En Lv σ m->W.N0 x->Opt2 (RV W En Lv W.N0) (root W.l k σ x) (root W.l k m x)
 | 0,_,_,_,_,_=>trivial
 | k+1,σ,m,x,h,hx=>by
  rw [root,root]
  refine Opt2.ite Iff.rfl (fun h0=>?_) fun h0=>⟨Z,hx,h⟩
  rw [h.par hW hx]
  simp only [zbB]
  exact Opt2.ite Iff.rfl (fun _=>⟨Z,hx,zeQ hW h hx⟩) fun _=>zia k (zeQ hW h hx) (h.clo.pa x (hx.resolve_left h0))
theorem zlG:∀ (k:Nat) {σ:Tr} {m:M} {x:Int} (n:Int),Twin W En Lv σ m->W.N x->Opt2 (RV W En Lv fun _=>True) (zb0 W.l k σ x n) (zb0 W.l k m x n)
 | 0,_,_,_,_,_,_=>trivial
 | k+1,σ,m,x,n,h,hx=>by
  rw [zb0,zb0]
  rw [h.par hW (.inr hx)]
  have hp:=h.clo.pa x hx
  have h1:=zeQ hW h (.inr hx:W.N0 x)
  refine Opt2.ite Iff.rfl (fun _=>⟨Z,Zt,h1⟩) fun h0=>?_
  have hp':=hp.resolve_left h0
  dsimp only
  simp only [zbt,zbd,zbB]
  have h2:=zdN hW h1 hp (f:=4) (by omega)
  rw [h1.tget hW hp (by omega),h2.tget hW hp (by omega)]
  have h3:=zdN hW h2 hp (f:=3) (by omega)
  rw [h3.size hW (h.clo.ch _ 3 hp' (.inl Z))]
  exact Opt2.ite Iff.rfl (fun _=>zlG k _ (zcQ hW h3 (h.clo.ch _ 3 hp' (.inl Z))) hp') fun _=>zlG k _ h2 hp'
theorem zyh (k:Nat) (h:Twin W En Lv σ m) {x:Int} (hx:W.N x):Opt2 (RV W En Lv fun _=>True) (index W.l k σ x) (index W.l k m x):=by
 unfold index
 dsimp only
 simp only [zbt,zbd]
 have h1:=zdN hW h (.inr hx:W.N0 x) (f:=3) (by omega)
 rw [h.tget hW (.inr hx) (by omega),h1.size hW (h.clo.ch x 3 hx (.inl Z))]
 exact zlG hW k _ (zcQ hW h1 (h.clo.ch x 3 hx (.inl Z))) hx
theorem zlO (j:Int):∀ (k:Nat) {σ:Tr} {m:M} {x:Int},Twin W En Lv σ m->W.N0 x->Opt2 (RV W En Lv W.N0) (zcO W.l j k σ x) (zcO W.l j k m x)
 | 0,_,_,_,_,_=>trivial
 | k+1,σ,m,x,h,hx=>by
  rw [zcO,zcO]
  dsimp only
  simp only [zbt,zbd]
  have h1:=zdN hW h hx (f:=3) (by omega)
  have ch:∀ f,f=3\/f=4->W.N0 (tget W.l m x f):=fun f hf=>by
   rcases hx with rfl | hx
   ·unfold tget
    rw [zkF hW,zfS (by decide)]; exact .inl Z
   ·exact h.clo.ch x f hx hf
  rw [h.tget hW hx (by omega),h1.has hW (ch 3 (.inl Z))]
  have h2:=zcQ hW h1 (ch 3 (.inl Z))
  rw [h2.marked hW hx]
  have h3:=zcQ hW h2 hx
  rw [h3.tget hW hx (by omega)]
  exact Opt2.ite Iff.rfl (fun _=>zlO j k h2 (ch 3 (.inl Z))) fun _=>Opt2.ite Iff.rfl (fun _=>⟨Z,hx,h3⟩) fun _=>zlO j k (zdN hW h3 hx (by omega)) (ch 4 (.inr Z))
theorem zym (k:Nat) (h:Twin W En Lv σ m) {x:Int} (j:Int) (hx:W.N0 x):Opt2 (RV W En Lv W.N0) (first W.l k σ x j) (first W.l k m x j):=by
 unfold first
 rw [h.has hW hx,zbd]
 exact Opt2.ite Iff.rfl (fun _=>zlO hW j k (zcQ hW h hx) hx) fun _=>⟨Z,.inl Z,zcQ hW h hx⟩
theorem vx {v:Int} (i:Int) (hv:W.C v):W.N0 (W.l.vertex i v):=by
 by_cases h:W.l.okV i v
 ·have:=zaf hW.hl h
  exact .inr ⟨this.1,fun _=>by rw [this.2.1]; exact hv,fun e=>by rw [this.2.1] at e; cases e⟩
 ·refine .inl ?_
  unfold Lay.vertex
  rw [if_neg]; exact h
theorem ax {s:Int} (i d:Int) (hs:W.E s):W.N0 (W.l.arc s i d):=by
 by_cases h:W.l.okA s i d
 ·have:=zay hW.hl h
  exact .inr ⟨this.1,fun e=>(by rw [this.2] at e; cases e),fun _=>by rw [this.2]; exact hs⟩
 ·refine .inl ?_
  unfold Lay.arc
  rw [if_neg]
  rintro ⟨h1,h2,h3⟩
  exact h ⟨h1,h2,by unfold below at h3; omega⟩
end
section
variable {P:Program} {w0:World} {R:Assn} {n:Nat} {Q:Exit->Act->World->Prop} {env:List (Nat×Value)} {L:List (Nat×Assn)}
variable {ks:List Nat} {L0:List (Nat×Assn)} {ops:Array Oper} {rest:List (Bool×Oper)}
variable {d:Option Tmp} {x y:Operand} {ty T K E:TypeId} {ps:String} {af:Array Edge} {g:Option (Nat×Bool)}
variable {κ β:Type} [DecidableEq κ] {enc:κ->Value} {venc:β->Value}
theorem TL.lkD2 (k:Nat) {r:Nat} {qs:List (κ×β)} {q:κ} (z0:β) (hx:evO env x=some (.map (some r))) (hy:evO env y=some (enc q)) (hL:lk L k=some (mapA r enc venc qs)) (hM:zmO P T K E=true) (hK:KeyOk P K enc) (hz:zbI P E=some (venc z0)) (hg:zag ops env g=some true) (hd:okD n d=true) (hk:Keep L0 L ks)
  (h:TL P w0 R n ks L0 ops Q rest (setE env d (.tuple #[venc ((mget qs q).getD z0),.bool (mget qs q).isSome])) L):TL P w0 R n ks L0 ops Q ((false,⟨d,.lookup T x y true,ty,ps,af,g⟩) :: rest) env L :=
 TL.lkA k hx hy hL hM hK hz hg hd hk (by cases hq:mget qs q<;>(rw [hq] at h; exact h))
end
section
variable {row:Array Acc} {c:Int} {i pt:Nat} {q:List (Int×Int)×List (Int×Int)}
theorem ziD (h:¬(row[i]!.store=true/\row[i]!.cell=c)):zdO row c i q=zdO row c (i+1) q:=by
 conv=>rhs; rw [zdO]
 rw [Zn h]
theorem zmI (h1:row[i]!.store=true) (h2:row[i]!.cell=c) (h3:(mget (zdO row c i q).1 c).isSome=true):(zdO row c i q).1=(zdO row c (i+1) q).1/\mput (zdO row c i q).2 c (i:Int)=(zdO row c (i+1) q).2:=by
 conv=>congr<;>(rhs; rw [zdO])
 rw [Zp (And.intro h1 h2),Zp h3]
 exact ⟨Z,Z⟩
theorem zmJ (h1:row[i]!.store=true) (h2:row[i]!.cell=c) (h3:(mget (zdO row c i q).1 c).isSome=false):mput (zdO row c i q).1 c (i:Int)=(zdO row c (i+1) q).1/\mput (zdO row c i q).2 c (i:Int)=(zdO row c (i+1) q).2:=by
 conv=>congr<;>(rhs; rw [zdO])
 rw [Zp (And.intro h1 h2),Zn (by rw [h3]; decide)]
 exact ⟨Z,Z⟩
theorem zmr {i:Int} (h1:(mget q.1 c).isSome=true) (h2:i>=(mget q.1 c).getD 0) (h3:i<(mget q.2 c).getD 0):zgG q c i=true:=by
 unfold zgG
 cases hq:mget q.1 c with
 | none=>rw [hq] at h1; cases h1
 | some a =>
  rw [hq] at h2
  dsimp only
  rw [decide_eq_true (show a<=i from h2),decide_eq_true h3]; rfl
theorem zoZ {i:Int} (h1:(mget q.1 c).isSome=false):zgG q c i=false:=by
 unfold zgG
 cases hq:mget q.1 c with
 | none=>rfl
 | some a=>rw [hq] at h1; cases h1
theorem zoY {i:Int} (h2:¬i>=(mget q.1 c).getD 0):zgG q c i=false:=by
 unfold zgG
 cases hq:mget q.1 c with
 | none=>rfl
 | some a =>
  rw [hq] at h2
  dsimp only
  rw [decide_eq_false (show ¬a<=i from h2)]; rfl
theorem zoX {i:Int} (h3:¬i<(mget q.2 c).getD 0):zgG q c i=false:=by
 unfold zgG
 cases hq:mget q.1 c with
 | none=>rfl
 | some a =>
  dsimp only
  rw [decide_eq_false h3,Bool.and_false]
theorem zlp (h:(i:Int)=(pt:Int)):((onceO row pt q i).1.size:Int)=(onceO row pt q (i+1)).2:=by
 conv=>rhs; rw [onceO]
 dsimp only
 rw [Zp (by omega)]
theorem zlq (h:¬(i:Int)=(pt:Int)):(onceO row pt q i).2=(onceO row pt q (i+1)).2:=by
 conv=>rhs; rw [onceO]
 dsimp only
 rw [Zn (by omega)]
theorem zsd (h:zgG q row[i]!.cell i=true):(onceO row pt q i).1=(onceO row pt q (i+1)).1:=by
 conv=>rhs; rw [onceO]
 dsimp only
 rw [Zp h]
theorem zhH (h:zgG q row[i]!.cell i=false):(onceO row pt q i).1++#[row[i]!]=(onceO row pt q (i+1)).1:=by
 conv=>rhs; rw [onceO]
 dsimp only
 rw [Zn (by rw [h]; decide)]
theorem zff:∀ i,(onceO row pt q i).1.size<=i
 | 0=>Nat.le_refl _
 | i+1=>by
  have ih:=zff i
  rw [onceO]
  dsimp only
  split
  ·omega
  ·simp; omega
end
def planT (l:Lay) (p:Pen) (held:Array Int) (rs:Array Int) (σ:Tr):PlanS :=
 let SA:=zax l l.nodes.toNat
 let σ1:=zb4 l p (chgL σ.row) SA SA.size σ
 let σ2:=zbq l rs held.toList (IntKind.u64.wrap p.thread) rs.size σ1
 let σ3:=za0 l p σ2 p.tag true
 let σ4:=cleanW l (chgL σ3.row) SA SA.size σ3
 let σ5:=za0 l p σ4 (IntKind.i64.wrap (p.tag+1)) false
 let σ6:=zbq l held rs.toList 65535 held.size σ5
 ⟨(zgL l σ6.row (σ3.row.size - 1)).1,(zgL l σ6.row (σ3.row.size - 1)).2,true,rs⟩
def planF (l:Lay) (p:Pen) (k:Nat) (held:Array Int) (tree:Bool) (u v:Int) (σ:Tr):Option PlanS :=
 (root l k σ (l.vertex 0 u)).bind fun a=>(root l k a.2 (l.vertex 0 v)).bind fun b =>
  some (if tree then planT l p held (zaw a.1 b.1) b.2 else ⟨b.2.row,zeF b.2.row (l.edge u v) b.2.row.size,false,zaw a.1 b.1⟩)
def insF (l:Lay) (p:Pen) (k:Nat) (held:Array Int) (σ:M) (s u v:Int):Option PlanS:=(zbf l p k (⟨σ,#[]⟩:Tr) s u v).bind fun r=>planF l p k held r.1 u v r.2
def delF (l:Lay) (p:Pen) (k:Nat) (held:Array Int) (σ:M) (s:Int):Option PlanS:=(zbk l p k (⟨σ,#[]⟩:Tr) s).bind fun r=>planF l p k held r.1.1 (eget l σ s).u (eget l σ s).v r.2
theorem zdW {x y:Int}:(zaw x y).size<=2:=by unfold zaw; split<;>simp
def Pre (σ τ:Tr):Prop:=∃ r,τ.row=σ.row++r
theorem Pre.refl (σ:Tr):Pre σ σ:=⟨#[],by simp⟩
theorem Pre.trans {σ τ υ:Tr} (h:Pre σ τ) (h':Pre τ υ):Pre σ υ:=by
 obtain ⟨r,h⟩:=h
 obtain ⟨r',h'⟩:=h'
 exact ⟨r++r',by rw [h',h,Array.append_assoc]⟩
theorem Pre.ld (σ:Tr) (i:Int):Pre σ (MemLike.ld σ i):=by
 rw [zkc]
 split
 ·exact ⟨_,Z⟩
 ·exact .refl σ
theorem Pre.st (σ:Tr) (i v:Int):Pre σ (MemLike.st σ i v):=by
 rw [zkb]
 split
 ·exact ⟨_,Z⟩
 ·exact .refl σ
theorem Pre.size {σ τ:Tr} (h:Pre σ τ):σ.row.size<=τ.row.size:=by
 obtain ⟨r,h⟩:=h
 rw [h]; simp
section
variable {l:Lay} {p:Pen}
theorem Pre.write (σ:Tr) (c x:Int):Pre σ (p.write σ c x):=by
 unfold Pen.write
 split
 ·split
  ·exact (Pre.ld σ c).trans (.st _ _ _)
  ·exact .ld σ c
 ·exact .ld σ c
theorem Pre.root:∀ {k:Nat} {σ τ:Tr} {x r:Int},Go.Tm.root l k σ x=some (r,τ)->Pre σ τ
 | 0,_,_,_,_,e=>by simp [Go.Tm.root] at e
 | k+1,σ,τ,x,r,e=>by
  rw [Go.Tm.root] at e
  split at e
  ·split at e
   ·cases e; exact .ld _ _
   ·exact (Pre.ld _ _).trans (Pre.root e)
  ·cases e; exact .refl _
theorem Pre.clean (σ:Tr) (c:Int):Pre σ (zbs σ c):=by
 unfold zbs
 split
 ·split
  ·exact (Pre.ld σ c).trans (.st _ _ _)
  ·exact .ld σ c
 ·exact .ld σ c
theorem Pre.state (σ:Tr) (tag:Int) (dn:Bool):Pre σ (za0 l p σ tag dn):=by
 unfold za0
 split
 ·exact .st _ _ _
 ·exact .refl σ
theorem Pre.vers {ch:List Int} {d:Array Int} {σ:Tr}:∀ k,Pre σ (zb4 l p ch d k σ)
 | 0=>.refl σ
 | k+1=>(Pre.vers k).trans (by
  rw [zb4]
  unfold ziZ
  split
  ·dsimp only
   split
   ·exact ((Pre.ld _ _).trans (.ld _ _)).trans (.write _ _ _)
   ·exact .ld _ _
  ·exact .refl _)
theorem Pre.lock {d:Array Int} {but:List Int} {v:Int} {σ:Tr}:∀ k,Pre σ (zbq l d but v k σ)
 | 0=>.refl σ
 | k+1=>(Pre.lock k).trans (by
  rw [zbq]
  split
  ·exact .refl _
  ·exact .st _ _ _)
theorem Pre.cleanC {ch:List Int} {c:Int} (σ:Tr):Pre σ (cleanC ch σ c):=by
 unfold Go.Tm.cleanC
 split
 ·exact .clean _ _
 ·exact .refl _
theorem Pre.cleanW {ch:List Int} {d:Array Int} {σ:Tr}:∀ k,Pre σ (cleanW l ch d k σ)
 | 0=>.refl σ
 | k+1=>(Pre.cleanW k).trans (by
  rw [Go.Tm.cleanW]
  exact (Pre.cleanC _).trans (.cleanC _))
end
def refM (v s:Int):Int:=if v / 65536 / 65536 % 256=0\/s / 2 > v / 65536 / 65536 / 256\/(s / 2=v / 65536 / 65536 / 256/\s % 2=1) then v % 65536 else v / 65536 % 65536
def zaK (l:Lay) (σ:M) (x f:Int):Int :=
 if get σ (l.field x f) / 65536 / 65536 % 256<1\/get σ (l.field x f) / 65536 / 65536 % 256 > l.T then get σ (l.field x f) % 65536
 else refM (get σ (l.field x f)) (get σ (l.state (get σ (l.field x f) / 65536 / 65536 % 256)))
def zeS (l:Lay) (σ:M):Nat->Int->Int
 | 0,_=>0
 | k+1,x=>if zaK l σ x 2=0 then x else zeS l σ k (zaK l σ x 2)
def zaS (l:Lay) (σ:M) (v:Int):Int:=zeS l σ (l.nodes.toNat+1) (l.vertex 0 v)
theorem znU {l:Lay} {σ:M} {N k:Nat} {x r:Int} (hk:k<=N) (h:zaK l σ x 2≠0) (hr:zeS l σ (N+1 - k) x=r):zeS l σ (N+1 - (k+1)) (zaK l σ x 2)=r:=by
 rw [show N+1 - k=(N+1 - (k+1))+1 by omega,zeS,Zn h] at hr
 exact hr
theorem zqA {l:Lay} {σ:M} {N k:Nat} {x r:Int} (hk:k<=N) (h:zaK l σ x 2=0) (hr:zeS l σ (N+1 - k) x=r):x=r:=by
 rw [show N+1 - k=(N+1 - (k+1))+1 by omega,zeS,Zp h] at hr
 exact hr
theorem zkz {l:Lay} {σ:M} {d:Array Int} {k:Nat}:st (zbq l d [] 1 k σ) (l.field d[k]! 0) 1=zbq l d [] 1 (k+1) σ:=by
 conv=>rhs; rw [zbq]
 rw [Zn (by simp)]
theorem zoK {x y:Int} (h:x≠y):zaw x y=#[min x y]++#[max x y]:=by unfold zaw; rw [Zn h]; rfl
theorem zoL {x y:Int} (h:¬x≠y):zaw x y=#[min x y]:=by
 obtain rfl:x=y:=Decidable.not_not.1 h
 unfold zaw
 rw [Zp Z,Int.min_self]
def runA (σ:M) (d:Array Acc):Nat->M
 | 0=>σ
 | k+1=>acc1 d[k]! (runA σ d k)
def badA (σ:M) (d:Array Acc):Nat->Bool
 | 0=>false
 | k+1=>badA σ d k || !accG d[k]! (runA σ d k)
def okMB (m:M):List Acc->Bool
 | []=>true
 | a :: r=>accG a m && okMB (acc1 a m) r
theorem zpo:∀ {r:List Acc} {m:M},okMB m r=true↔okM m r
 | [],_=>⟨fun _=>Zt,fun _=>Z⟩
 | a :: r,m=>by
  have ih:=zpo (r:=r) (m:=acc1 a m)
  unfold okMB okM
  rw [Bool.and_eq_true,ih]
theorem zmp {d:Array Acc} {k:Nat} (h:k<d.size):d.toList.take (k+1)=d.toList.take k++[d[k]!]:=by
 rw [List.take_add_one,List.getElem?_eq_getElem (by simpa using h),getElem!_pos d k h]
 simp
theorem zeO {σ:M} {d:Array Acc}:∀ {k:Nat},k<=d.size->runA σ d k=runM σ (d.toList.take k)
 | 0,_=>rfl
 | k+1,h=>by
  rw [runA,zmp (by omega),zcP,zeO (by omega)]; rfl
theorem ziy {σ:M} {d:Array Acc}:runA σ d d.size=runM σ d.toList:=by
 rw [zeO (Nat.le_refl _),List.take_of_length_le (by simp)]
theorem znj {σ:M} {d:Array Acc}:∀ {k:Nat},k<=d.size->(badA σ d k=false↔okM σ (d.toList.take k))
 | 0,_=>⟨fun _=>Zt,fun _=>Z⟩
 | k+1,h=>by
  have ih:=znj (σ:=σ) (d:=d) (k:=k) (by omega)
  rw [badA,zmp (by omega),zfg,<-ih,<-zeO (by omega)]
  simp [okM]
theorem zz7 {σ:M} {r:List Acc} {k:Nat} (h:okM σ r):okM σ (r.take k):=by
 rw [<-List.take_append_drop k r,zfg] at h
 exact h.1
theorem zoA {σ:M} {d:Array Acc} (h:okM σ d.toList) {k:Nat} (hk:k<=d.size):badA σ d k=false:=(znj hk).2 (zz7 h)
section
variable {S:Type} [MemLike S] {l:Lay} {p:Pen} {ch ch':List Int} (h:∀ x,x∈ch↔x∈ch')
include h
theorem zi0 {d:Array Int} {σ:S}:∀ k,zb4 l p ch d k σ=zb4 l p ch' d k σ
 | 0=>rfl
 | k+1=>by
  rw [zb4,zb4,zi0 k]
  unfold ziZ
  simp only [h]
theorem zim {d:Array Int} {σ:S}:∀ k,cleanW l ch d k σ=cleanW l ch' d k σ
 | 0=>rfl
 | k+1=>by
  rw [cleanW,cleanW,zim k]
  unfold cleanC
  simp only [h]
end
def strL (row:Array Acc):List Int:=(row.toList.filter (·.store)).map (·.cell)
theorem zro {row:Array Acc} (x:Int):x∈chgL row↔x∈strL row:=by
 rw [zp0]
 unfold strL
 simp only [List.mem_map,List.mem_filter]
 constructor
 ·rintro ⟨i,hi,h1,h2⟩
  exact ⟨row[i]!,⟨by rw [getElem!_pos _ i hi]; simp,h1⟩,h2⟩
 ·rintro ⟨a,⟨ha,h1⟩,h2⟩
  obtain ⟨i,hi,e⟩:=Array.getElem_of_mem (by simpa using ha:a∈row)
  exact ⟨i,hi,by rw [getElem!_pos _ i hi,e]; exact h1,by rw [getElem!_pos _ i hi,e]; exact h2⟩
def zxQ (l:Lay) (p:Pen) (held:Array Int) (rs:Array Int) (σ:Tr):PlanS :=
 let SA:=zax l l.nodes.toNat
 let σ1:=zb4 l p (strL σ.row) SA SA.size σ
 let σ2:=zbq l rs held.toList (IntKind.u64.wrap p.thread) rs.size σ1
 let σ3:=za0 l p σ2 p.tag true
 let σ4:=cleanW l (strL σ3.row) SA SA.size σ3
 let σ5:=za0 l p σ4 (IntKind.i64.wrap (p.tag+1)) false
 let σ6:=zbq l held rs.toList 65535 held.size σ5
 ⟨(zgL l σ6.row (σ3.row.size - 1)).1,(zgL l σ6.row (σ3.row.size - 1)).2,true,rs⟩
theorem zvn {l:Lay} {p:Pen} {held rs:Array Int} {σ:Tr}:planT l p held rs σ=zxQ l p held rs σ:=by
 unfold planT zxQ
 dsimp only
 rw [zi0 zro,zim zro]
def zr6 (l:Lay) (p:Pen) (k:Nat) (held:Array Int) (tree:Bool) (u v:Int) (σ:Tr):Option PlanS :=
 (root l k σ (l.vertex 0 u)).bind fun a=>(root l k a.2 (l.vertex 0 v)).bind fun b =>
  some (if tree then zxQ l p held (zaw a.1 b.1) b.2 else ⟨b.2.row,zeF b.2.row (l.edge u v) b.2.row.size,false,zaw a.1 b.1⟩)
theorem zvo {l:Lay} {p:Pen} {k:Nat} {held:Array Int} {tree:Bool} {u v:Int} {σ:Tr}:planF l p k held tree u v σ=zr6 l p k held tree u v σ:=by
 unfold planF zr6
 simp only [zvn]
def l19:Lay:=⟨2,1,1⟩
theorem zgx:l19.Ok:=by unfold Lay.Ok; decide
abbrev s19:M:=zf2 l19 0 (fun _=>0) (Array.replicate l19.cells.toNat 0)
def h19:Array Int:=zaw (zaS l19 s19 0) (zaS l19 s19 1)
def t19:M:=zbq l19 h19 [] 1 h19.size s19
def zA1:Bool :=
 match zbf l19 ⟨1,0⟩ 561 (⟨t19,#[]⟩:Tr) 0 0 1 with
 | none=>false
 | some (b,τ)=>decide (0<τ.row.size) && match zr6 l19 ⟨1,0⟩ 561 h19 b 0 1 τ with
  | none=>false
  | some P=>P.tree && decide (P.roots.size=1) && decide (1<=P.point/\P.point<P.work.size) && P.work[P.point.toNat]!.store && decide (P.work[P.point.toNat]!.cell=0) &&
   P.work.toList.all (fun a=>decide (0<=a.val/\a.val<18446744073709551616)) && decide (P.work.size<=2000) && okMB t19 P.work.toList &&
   decide (zaS l19 (runM t19 P.work.toList) 0=P.roots[0]!/\zaS l19 (runM t19 P.work.toList) 1=P.roots[0]!)
theorem zzE:zA1=true:=by decide +kernel
theorem zv9:∃ (b:Bool) (τ:Tr) (P:PlanS),zbf l19 ⟨1,0⟩ 561 (⟨t19,#[]⟩:Tr) 0 0 1=some (b,τ)/\planF l19 ⟨1,0⟩ 561 h19 b 0 1 τ=some P/\0<τ.row.size/\P.tree=true/\P.roots.size=1/\(∃ n:Nat,P.point=(n:Int)/\1<=n/\n<P.work.size/\P.work[n]!.store=true/\P.work[n]!.cell=0) /\
  (∀ i,i<P.work.size->0<=P.work[i]!.val/\P.work[i]!.val<18446744073709551616)/\P.work.size<=2000/\okM t19 P.work.toList/\zaS l19 (runA t19 P.work P.work.size) 0=P.roots[0]!/\zaS l19 (runA t19 P.work P.work.size) 1=P.roots[0]!:=by
 have h:=zzE
 unfold zA1 at h
 split at h
 ·cases h
 ·next b τ hg =>
  rw [Bool.and_eq_true] at h
  obtain ⟨h0,h⟩:=h
  split at h
  ·cases h
  ·next P hP =>
   simp only [Bool.and_eq_true,decide_eq_true_eq,List.all_eq_true] at h h0
   obtain ⟨⟨⟨⟨⟨⟨⟨⟨h1,h2⟩,h3⟩,h4⟩,h5⟩,h6⟩,h7⟩,h8⟩,h9⟩:=h
   refine ⟨b,τ,P,hg,zvo.trans hP,h0,h1,h2,⟨P.point.toNat,by omega,by omega,by omega,h4,h5⟩,fun i hi=>h6 _ ?_,h7,zpo.1 h8,?_,?_⟩
   ·rw [getElem!_pos _ i hi]; simp
   ·rw [ziy]; exact h9.1
   ·rw [ziy]; exact h9.2
section
variable {σ:M} {W:Array Acc} {i:Nat} {x:Acc} (hx:W[i]! =x)
include hx
end
theorem Opt2.bindE {α β γ δ:Type _} {R:α->β->Prop} {Q:γ->δ->Prop} {a:Option α} {b:Option β} {f:α->Option γ} {g:β->Option δ} (h:Opt2 R a b) (hf:∀ x y,b=some y->R x y->Opt2 Q (f x) (g y)):Opt2 Q (a.bind f) (b.bind g):=by
 cases a<;>cases b
 ·trivial
 ·exact h.elim
 ·exact h.elim
 ·exact hf _ _ Z h
section
variable {W:Pt} {En Lv En' Lv':Int->Prop} {σ:Tr} {m:M}
theorem Twin.iff (h:Twin W En Lv σ m) (hE:∀ s,En s↔En' s) (hL:∀ y,Lv y↔Lv' y):Twin W En' Lv' σ m:=by
 obtain rfl:En=En':=funext fun s=>propext (hE s)
 obtain rfl:Lv=Lv':=funext fun s=>propext (hL s)
 exact h
theorem Twin.aget (h:Twin W En Lv σ m) {c:Int} (hc:W.Low c):aget σ c=aget m c:=by unfold Go.Tm.aget; rw [h.get fun _=>.inl hc]
theorem Twin.endsU (h:Twin W En Lv σ m) {s:Int} (hs:W.E s):endsU W.l σ s=endsU W.l m s:=by unfold Go.Tm.endsU; rw [h.get fun _=>.inl (.inl ⟨s,hs,.inl Z⟩)]
theorem Twin.endsV (h:Twin W En Lv σ m) {s:Int} (hs:W.E s):endsV W.l σ s=endsV W.l m s:=by unfold Go.Tm.endsV; rw [h.get fun _=>.inl (.inl ⟨s,hs,.inl Z⟩)]
theorem Twin.eget (h:Twin W En Lv σ m) {s:Int} (hs:En s):eget W.l σ s=eget W.l m s:=by
 have hE:=h.clo.ene s hs
 have hc:=h.clo.en s hs
 have h1:=h.ld (i:=W.l.ends s) fun _=>.inl (.inl ⟨s,hE,.inl Z⟩)
 have h2:=h1.ld (i:=W.l.edge (Go.Tm.endsU W.l m s) (Go.Tm.endsV W.l m s)) fun _=>.inl (.inr (.inl ⟨_,_,hc.1,hc.2,Z⟩))
 have g1:=h1.get (i:=W.l.edge (Go.Tm.endsU W.l m s) (Go.Tm.endsV W.l m s)) fun _=>.inl (.inr (.inl ⟨_,_,hc.1,hc.2,Z⟩))
 have g2:=h2.get (i:=W.l.level s) fun _=>.inl (.inl ⟨s,hE,.inr (.inl Z)⟩)
 unfold Go.Tm.eget Go.Tm.find zm4 zhr
 simp only [h.endsU hE,h.endsV hE,g1,g2]
 rfl
theorem Twin.afirst (h:Twin W En Lv σ m) {v i:Int} (hv:W.C v):afirst W.l σ v i=afirst W.l m v i:=by unfold Go.Tm.afirst; rw [h.aget (.inr (.inr ⟨v,i,hv,Z⟩))]
variable (hW:W.Ok)
include hW
theorem Clo.ch0 (h:Clo W En Lv m) {x f:Int} (hx:W.N0 x) (hf:f=3\/f=4):W.N0 (tget W.l m x f):=by
 rcases hx with rfl | hx
 ·unfold tget
  rw [zkF hW,zfS (by decide)]; exact .inl Z
 ·exact h.ch x f hx hf
theorem Twin.stneg (h:Twin W En Lv σ m) {i v:Int} (hi:i<0):Twin W En Lv (MemLike.st σ i v) (MemLike.st m i v):=h.st (fun k=>by omega) (by rw [zkl hi]; exact h.clo)
theorem zz6:parent W.l m 0=0:=by
 unfold parent pnew tget
 rw [zkF hW,zfS (by decide)]
 split<;>rfl
theorem zrh (h:Twin W En Lv σ m) {x f v:Int} (hx:W.N0 x) (hf:f=3\/f=4) (hv:W.N0 v):Twin W En Lv (tput W.l σ x f v) (tput W.l m x f v):=by
 rcases hx with rfl | hx
 ·unfold tput; rw [zkF hW]; exact h.stneg hW (by decide)
 ·exact zwr hW h hx hf hv
theorem zws (h:Twin W En Lv σ m) {x v:Int} (hx:W.N0 x) (hv:0<=v/\v<18446744073709551616):Twin W En Lv (MemLike.st σ (W.l.field x 6) v) (MemLike.st m (W.l.field x 6) v):=by
 rcases hx with rfl | hx
 ·rw [zkF hW]; exact h.stneg hW (by decide)
 ·exact zzV hW h hx hv
theorem zmB (h:Twin W En Lv σ m) {x k:Int} (hx:W.N0 x):∀ n,n<=2->(zcd W.l σ x k n).1=(zcd W.l m x k n).1/\Twin W En Lv (zcd W.l σ x k n).2 m/\(zcd W.l m x k n).2=m
 | 0,_=>⟨Z,h,Z⟩
 | n+1,hn=>by
  obtain ⟨h1,h2,h3⟩:=zmB h hx n (by omega)
  unfold zcd
  dsimp only
  have hc:=h.clo.ch0 hW hx (f:=3+(n:Int)) (by omega)
  have e1:=h2.tget hW (f:=3+(n:Int)) hx (by omega)
  have h4:=zdN hW h2 hx (f:=3+(n:Int)) (by omega)
  rw [h3,e1,h1,h4.tsum hW hc]
  refine ⟨Z,zcQ hW h4 hc,?_⟩
  rw [zbd,zbt]
theorem zu9 (h:Twin W En Lv σ m) {x k:Int} (hx:W.N0 x):Twin W En Lv (zfc W.l σ x k) (zfc W.l m x k):=by
 obtain ⟨h1,h2,h3⟩:=zmB hW h (k:=k) hx 2 (by omega)
 unfold zfc
 rw [h1,h3]
 exact zws hW h2 hx (zby _ _)
theorem zp5 (h:Twin W En Lv σ m) {x:Int} (hx:W.N0 x):Twin W En Lv (alone W.l W.p σ x) (alone W.l W.p m x):=by
 unfold alone
 refine zws hW (zm0 hW (zrh hW (zrh hW h hx (.inl Z) (.inl Z)) hx (.inr Z) (.inl Z)) hx (.inl Z)) hx ?_
 unfold zfD
 split<;>exact zby _ _
theorem pa0 (h:Clo W En Lv m) {x:Int} (hx:W.N0 x):W.N0 (parent W.l m x):=by
 rcases hx with rfl | hx
 ·rw [zz6 hW]; exact .inl Z
 ·exact h.pa x hx
theorem ziH (k:Nat) (h:Twin W En Lv σ m) {x:Int} (j:Int) (on:Bool) (hx:W.N0 x):Opt2 (Twin W En Lv) (zgq W.l k σ x j on) (zgq W.l k m x j on):=by
 unfold zgq
 dsimp only
 simp only [zej,zbB]
 rw [h.marks hW hx]
 have h1:=zu9 hW (zlt hW h hx) (k:=zkd (marks W.l m x) j on) hx
 rw [h1.par hW hx]
 exact zpt hW k (zeQ hW h1 hx) (pa0 hW h1.clo hx)
theorem zlD (k:Nat) (h:Twin W En Lv σ m) {x:Int} (hx:W.N0 x):Opt2 (RV W En Lv fun _=>True) (index W.l k σ x) (index W.l k m x):=by
 rcases hx with rfl | hx
 ·unfold index
  dsimp only
  simp only [zbt,zbd]
  have h1:=zdN hW h (.inl Z:W.N0 0) (f:=3) (by omega)
  have hc:=h.clo.ch0 hW (.inl Z:W.N0 0) (f:=3) (.inl Z)
  rw [h.tget hW (.inl Z) (by omega),h1.size hW hc]
  have h2:=zcQ hW h1 hc
  cases k with
  | zero=>trivial
  | succ k =>
   rw [zb0,zb0,h2.par hW (.inl Z),zz6 hW,Zp Z,Zp Z]
   exact ⟨Z,Zt,zeQ hW h2 (.inl Z)⟩
 ·exact zyh hW k h hx
theorem zuq (k:Nat) (h:Twin W En Lv σ m) {i u:Int} (hu:W.C u):Opt2 (RV W En Lv W.N0) (ze5 W.l W.p k σ i u) (ze5 W.l W.p k m i u):=by
 unfold ze5
 dsimp only
 refine Opt2.bind (zia hW k h (vx hW i hu)) ?_
 rintro ⟨r,σ1⟩ ⟨r',m1⟩ ⟨e,hr,h1⟩
 cases e
 refine Opt2.bind (zlD hW k h1 (vx hW i hu)) ?_
 rintro ⟨j,σ2⟩ ⟨j',m2⟩ ⟨e,_,h2⟩
 cases e
 refine Opt2.bind (zgV hW k h2 hr _) ?_
 rintro ⟨⟨a,b⟩,σ3⟩ ⟨⟨a',b'⟩,m3⟩ ⟨e,⟨qa,qb⟩,h3⟩
 cases e
 exact zhc hW k h3 qb qa
theorem zwu (k:Nat) (h:Twin W En Lv σ m) {i u v:Int} (hu:W.C u) (hv:W.C v):Opt2 (RV W En Lv fun _=>True) (same W.l k σ i u v) (same W.l k m i u v):=by
 unfold same
 refine Opt2.bind (zia hW k h (vx hW i hu)) ?_
 rintro ⟨r,σ1⟩ ⟨r',m1⟩ ⟨e,hr,h1⟩
 cases e
 refine Opt2.bind (zia hW k h1 (vx hW i hv)) ?_
 rintro ⟨q,σ2⟩ ⟨q',m2⟩ ⟨e,_,h2⟩
 cases e
 exact ⟨Z,Zt,h2⟩
theorem zt3 (k:Nat) (h:Twin W En Lv σ m) {i u:Int} (hu:W.C u):Opt2 (RV W En Lv fun _=>True) (count W.l k σ i u) (count W.l k m i u):=by
 unfold count
 refine Opt2.bind (zia hW k h (vx hW i hu)) ?_
 rintro ⟨r,σ1⟩ ⟨r',m1⟩ ⟨e,hr,h1⟩
 cases e
 dsimp only
 rw [zbd]
 exact ⟨h1.verts hW hr,Zt,zcQ hW h1 hr⟩
theorem zwK (k:Nat) (h:Twin W En Lv σ m) {i s u v:Int} (hu:W.C u) (hv:W.C v) (hs:W.E s):Opt2 (RV W En Lv fun _=>True) (link W.l W.p k σ i s u v) (link W.l W.p k m i s u v):=by
 unfold link
 refine Opt2.bind (zuq hW k h hu) ?_
 rintro ⟨a,σ1⟩ ⟨_,m1⟩ ⟨e,qa,h1⟩
 cases e
 refine Opt2.bind (zhc hW k h1 qa (ax hW i 0 hs)) ?_
 rintro ⟨x,σ2⟩ ⟨_,m2⟩ ⟨e,qx,h2⟩
 cases e
 refine Opt2.bind (zuq hW k h2 hv) ?_
 rintro ⟨b,σ3⟩ ⟨_,m3⟩ ⟨e,qb,h3⟩
 cases e
 refine Opt2.bind (zhc hW k h3 qx qb) ?_
 rintro ⟨y,σ4⟩ ⟨_,m4⟩ ⟨e,qy,h4⟩
 cases e
 refine Opt2.bind (R:=RV W En Lv W.N0) (zhc hW k h4 qy (ax hW i 1 hs)) (f:=some) (g:=some) ?_ |> fun z=>by simpa using z
 rintro ⟨z,σ5⟩ ⟨_,m5⟩ ⟨e,_,h5⟩
 exact ⟨e,Zt,h5⟩
theorem cut_t (k:Nat) (h:Twin W En Lv σ m) {i s:Int} (hs:W.E s):Opt2 (RV W En Lv fun _=>True) (cut W.l W.p k σ i s) (cut W.l W.p k m i s):=by
 unfold cut
 dsimp only
 have q0:=ax hW i 0 hs
 have q1:=ax hW i 1 hs
 refine Opt2.bind (zlD hW k h q0) ?_
 rintro ⟨a,σ1⟩ ⟨_,m1⟩ ⟨e,_,h1⟩
 cases e
 refine Opt2.bind (zlD hW k h1 q1) ?_
 rintro ⟨b,σ2⟩ ⟨_,m2⟩ ⟨e,_,h2⟩
 cases e
 dsimp only
 refine Opt2.bind (zia hW k h2 q0) ?_
 rintro ⟨r,σ3⟩ ⟨_,m3⟩ ⟨e,qr,h3⟩
 cases e
 refine Opt2.bind (zgV hW k h3 qr _) ?_
 rintro ⟨⟨a1,b1⟩,σ4⟩ ⟨⟨_,_⟩,m4⟩ ⟨e,⟨qa1,qb1⟩,h4⟩
 cases e
 refine Opt2.bind (zgV hW k h4 qb1 _) ?_
 rintro ⟨⟨a2,b2⟩,σ5⟩ ⟨⟨_,_⟩,m5⟩ ⟨e,⟨qa2,qb2⟩,h5⟩
 cases e
 refine Opt2.bind (zgV hW k h5 qa1 _) ?_
 rintro ⟨⟨a3,b3⟩,σ6⟩ ⟨⟨_,_⟩,m6⟩ ⟨e,⟨qa3,qb3⟩,h6⟩
 cases e
 refine Opt2.bind (zgV hW k h6 qb3 _) ?_
 rintro ⟨⟨a4,b4⟩,σ7⟩ ⟨⟨_,_⟩,m7⟩ ⟨e,⟨qa4,qb4⟩,h7⟩
 cases e
 refine Opt2.bind (zhc hW k (zp5 hW (zp5 hW h7 q0) q1) qa3 qb2) ?_
 rintro ⟨x,σ8⟩ ⟨_,m8⟩ ⟨e,_,h8⟩
 cases e
 exact ⟨Z,Zt,h8⟩
theorem ziL (k:Nat) (h:Twin W En Lv σ m) {i v:Int} (j:Int) (hv:W.C v):Opt2 (RV W En Lv W.N0) (lfirst W.l k σ i v j) (lfirst W.l k m i v j):=by
 unfold lfirst
 refine Opt2.bind (zia hW k h (vx hW i hv)) ?_
 rintro ⟨r,σ1⟩ ⟨_,m1⟩ ⟨e,hr,h1⟩
 cases e
 exact zym hW k h1 j hr
theorem zrq (k:Nat) (h:Twin W En Lv σ m) {i u v:Int} (hu:W.C u) (hv:W.C v):Opt2 (RV W En Lv W.C) (smaller W.l k σ i u v) (smaller W.l k m i u v):=by
 unfold smaller
 refine Opt2.bind (zt3 hW k h hv) ?_
 rintro ⟨a,σ1⟩ ⟨_,m1⟩ ⟨e,_,h1⟩
 cases e
 refine Opt2.bind (zt3 hW k h1 hu) ?_
 rintro ⟨b,σ2⟩ ⟨_,m2⟩ ⟨e,_,h2⟩
 cases e
 exact ⟨Z,by dsimp only; split<;>assumption,h2⟩
end
section
variable {W:Pt} {En Lv En' Lv':Int->Prop} {σ:Tr} {m:M} (hW:W.Ok)
include hW
theorem zwE {s f:Int} (hf:0<=f/\f<7) (h:0<=W.l.of s f):(0<=s/\s<W.l.S)/\W.l.of s f=W.l.T+1+s * 7+f/\W.l.of s f<W.l.heads:=by
 have hh:W.l.heads=W.l.T+1+W.l.S * 7:=rfl
 unfold Lay.of at *
 split at h
 ·next hs=>rw [Zp hs]; unfold below at hs; exact ⟨hs,rfl,by omega⟩
 ·omega
theorem zvw {s d:Int} (h:0<=W.l.next s d):(d=0\/d=1)/\(0<=s/\s<W.l.S)/\W.l.next s d=W.l.T+1+s * 7+(3+d)/\W.l.next s d<W.l.heads:=by
 unfold Lay.next at *
 split at h
 ·next hd =>
  unfold below at hd
  have:=zwE hW (s:=s) (f:=3+d) (by omega) h
  rw [Zp hd]
  exact ⟨by omega,this⟩
 ·omega
theorem zvg {s d:Int} (h:0<=W.l.prev s d):(d=0\/d=1)/\(0<=s/\s<W.l.S)/\W.l.prev s d=W.l.T+1+s * 7+(5+d)/\W.l.prev s d<W.l.heads:=by
 unfold Lay.prev at *
 split at h
 ·next hd =>
  unfold below at hd
  have:=zwE hW (s:=s) (f:=5+d) (by omega) h
  rw [Zp hd]
  exact ⟨by omega,this⟩
 ·omega
theorem ziO {v i:Int} (h:0<=W.l.head v i):W.l.heads<=W.l.head v i/\W.l.head v i<W.l.edges:=by
 by_cases hv:(0<=v/\v<W.l.V)/\(0<=i/\i<W.l.lev)
 ·exact zez hW.hl hv.1 hv.2
 ·unfold Lay.head at h; rw [Zn hv] at h; omega
theorem zvY {a b:Int} (h:0<=W.l.edge a b):W.l.edges<=W.l.edge a b/\W.l.edge a b<W.l.base:=by
 have hq:¬(min a b=max a b\/¬below (min a b) W.l.V\/¬below (max a b) W.l.V):=fun hc=>by
  unfold Lay.edge at h
  dsimp only at h
  rw [Zp hc] at h; omega
 have h1:below (min a b) W.l.V:=Classical.byContradiction fun k=>hq (.inr (.inl k))
 have h2:below (max a b) W.l.V:=Classical.byContradiction fun k=>hq (.inr (.inr k))
 unfold below at h1 h2
 rcases Int.lt_trichotomy a b with k | k | k
 ·exact zdf hW.hl ⟨by omega,k⟩ (by omega)
 ·exact absurd (.inl (by omega)) hq
 ·rw [znc hW.hl]; exact zdf hW.hl ⟨by omega,k⟩ (by omega)
theorem Clo.lv (h:Clo W En Lv m) {y:Int} (hy:Lv y):∃ s d:Int,En s/\W.E s/\(0<=s/\s<W.l.S)/\(d=0\/d=1)/\y=2 * s+d+1/\za7 W.l y=W.l.next s d/\zaR W.l y=W.l.prev s d/\za7 W.l y=W.l.T+1+s * 7+(3+d)/\zaR W.l y=W.l.T+1+s * 7+(5+d):=by
 obtain ⟨s,d,h1,hd,rfl⟩:=h.lve y hy
 have h2:=h.ene s h1
 have h3:=hW.he s h2
 have hS:=(zct hW.hl).s
 have e1:(IntKind.i64.wrap (2 * s+d+1 - 1)).tdiv 2=s:=by rw [zaU (by omega)]; rw [Int.tdiv_eq_ediv_of_nonneg (by omega)]; omega
 have e2:(IntKind.i64.wrap (2 * s+d+1 - 1)).tmod 2=d:=by rw [zaU (by omega)]; rw [Int.tmod_eq_emod_of_nonneg (by omega)]; omega
 have n1:za7 W.l (2 * s+d+1)=W.l.next s d:=by unfold za7; rw [e1,e2]
 have n2:zaR W.l (2 * s+d+1)=W.l.prev s d:=by unfold zaR; rw [e1,e2]
 exact ⟨s,d,h1,h2,h3,hd,Z,n1,n2,by rw [n1,zhK hW.hl h3 (by omega)],by rw [n2,zhG hW.hl h3 (by omega)]⟩
theorem zzY {s d:Int} (hs:W.E s) (hd:d=0\/d=1):side s d=2 * s+d+1/\za7 W.l (2 * s+d+1)=W.l.next s d/\zaR W.l (2 * s+d+1)=W.l.prev s d:=by
 have h3:=hW.he s hs
 have hS:=(zct hW.hl).s
 have e1:(IntKind.i64.wrap (2 * s+d+1 - 1)).tdiv 2=s:=by rw [zaU (by omega)]; rw [Int.tdiv_eq_ediv_of_nonneg (by omega)]; omega
 have e2:(IntKind.i64.wrap (2 * s+d+1 - 1)).tmod 2=d:=by rw [zaU (by omega)]; rw [Int.tmod_eq_emod_of_nonneg (by omega)]; omega
 exact ⟨(zi9 hW.hl h3 hd).1,by unfold za7; rw [e1,e2],by unfold zaR; rw [e1,e2]⟩
theorem Clo.s0b (h:Clo W En Lv m) {y:Int} (hy:S0 Lv y):0<=y/\y<=96:=by
 rcases hy with rfl | hy
 ·omega
 ·obtain ⟨s,d,_,_,hs,hd,rfl,_⟩:=h.lv hW hy
  have hS:=(zct hW.hl).s
  omega
omit hW in
theorem Clo.addE (h:Clo W En Lv m) {s:Int} (hs:W.E s) (he:W.C (endsU W.l m s)/\W.C (endsV W.l m s)):Clo W (fun q=>En q\/q=s) Lv m :=
 ⟨h.size,h.ch,h.pa,h.sn,h.hd,h.nx,fun q hq=>by rcases hq with hq | rfl; exact h.en q hq; exact he,fun q hq=>by rcases hq with hq | rfl; exact h.ene q hq; exact hs,fun y hy=>by
  obtain ⟨s',d,h1,h2⟩:=h.lve y hy; exact ⟨s',d,.inl h1,h2⟩⟩
omit hW in
theorem Clo.addL (h:Clo W En Lv m) {x:Int} (hx:∃ s d:Int,En s/\(d=0\/d=1)/\x=2 * s+d+1) (h1:S0 Lv (aget m (za7 W.l x))) (h2:S0 Lv (aget m (zaR W.l x))):Clo W En (fun y=>Lv y\/y=x) m:=by
 have up:∀ {y},S0 Lv y->S0 (fun y=>Lv y\/y=x) y:=fun {y} hy=>hy.imp id .inl
 exact ⟨h.size,h.ch,h.pa,h.sn,fun v i hv=>up (h.hd v i hv),fun y hy=>by
  rcases hy with hy | rfl
  ·exact ⟨up (h.nx y hy).1,up (h.nx y hy).2⟩
  ·exact ⟨up h1,up h2⟩,h.en,h.ene,fun y hy=>by
  rcases hy with hy | rfl
  ·exact h.lve y hy
  ·exact hx⟩
theorem Clo.lowO (h:Clo W En Lv m) {j v:Int} (hj:W.Low j) (hv:0<=v/\v<18446744073709551616) (h0:0<=j->(∃ s:Int,(0<=s/\s<W.l.S)/\j=W.l.T+1+s * 7+2)\/W.l.edges<=j):Clo W En Lv (MemLike.st m j v):=by
 have ho:=zb7 hW.hl
 have hh:W.l.heads=W.l.T+1+W.l.S * 7:=rfl
 refine h.low hW hj hv (fun hj0 w i hw e=>?_) (fun hj0 y hy e=>?_) (fun hj0 s hs e=>?_)
 ·have:=ziO hW (v:=w) (i:=i) (by omega)
  rcases h0 hj0 with ⟨s,h1,h2⟩ | h1<;>omega
 ·obtain ⟨s,d,_,_,hs,hd,_,_,_,e1,e2⟩:=h.lv hW hy
  rcases h0 hj0 with ⟨q,h1,h2⟩ | h1<;>omega
 ·have hs':=hW.he s (h.ene s hs)
  have:=zdQ hW.hl hs'
  rcases h0 hj0 with ⟨q,h1,h2⟩ | h1<;>omega
theorem zvT {a b:Int} (ha:0<=a/\a<256) (hb:0<=b/\b<256):shrS (IntKind.i64.wrap (IntKind.u64.wrap (orS (shlS a 8) b))) 8=a/\andS (IntKind.i64.wrap (IntKind.u64.wrap (orS (shlS a 8) b))) 255=b:=by
 rw [zAS ha hb,zdK (by omega),zaU (by omega),shr8,zw9 (by omega)]
 omega
theorem ziK {s:Int} (hs:W.E s):W.Low (W.l.ends s):=.inl ⟨s,hs,.inl Z⟩
theorem zjo {s:Int} (hs:W.E s):W.Low (W.l.level s):=.inl ⟨s,hs,.inr (.inl Z)⟩
theorem zlx {a b:Int} (ha:W.C a) (hb:W.C b):W.Low (W.l.edge a b):=.inr (.inl ⟨a,b,ha,hb,Z⟩)
theorem zfi {v i:Int} (hv:W.C v):W.Low (W.l.head v i):=.inr (.inr ⟨v,i,hv,Z⟩)
theorem ziJ {s d:Int} (hs:W.E s):W.Low (W.l.next s d):=.inl ⟨s,hs,.inr (.inr ⟨d,.inl rfl⟩)⟩
theorem zhf {s d:Int} (hs:W.E s):W.Low (W.l.prev s d):=.inl ⟨s,hs,.inr (.inr ⟨d,.inr Z⟩)⟩
theorem znA (h:Twin W En Lv σ m) {a b v:Int} (ha:W.C a) (hb:W.C b) (hv:0<=v/\v<18446744073709551616):Twin W En Lv (MemLike.st σ (W.l.edge a b) v) (MemLike.st m (W.l.edge a b) v) :=
 h.st (fun _=>.inl (zlx hW ha hb)) (h.clo.lowO hW (zlx hW ha hb) hv fun h0=>.inr (zvY hW h0).1)
theorem zoV (h:Twin W En Lv σ m) {s v:Int} (hs:W.E s) (hv:0<=v/\v<18446744073709551616):Twin W En Lv (MemLike.st σ (W.l.level s) v) (MemLike.st m (W.l.level s) v) :=
 h.st (fun _=>.inl (zjo hW hs)) (h.clo.lowO hW (zjo hW hs) hv fun h0=>.inl ⟨s,hW.he s hs,zc7 hW.hl (hW.he s hs)⟩)
theorem zhk (h:Twin W En Lv σ m) {j:Int} (hj:W.Low j):Twin W En Lv (MemLike.ld σ j) m:=h.ld fun _=>.inl hj
theorem zAQ (h:Twin W En Lv σ m) {s u v i:Int} (t:Bool) (hs:W.E s) (hn:¬En s) (hu:W.C u) (hv:W.C v):Twin W (fun q=>En q\/q=s) Lv (eput W.l σ s u v i t) (eput W.l m s u v i t):=by
 have hsr:=hW.he s hs
 have ho:=zb7 hW.hl
 have hh:W.l.heads=W.l.T+1+W.l.S * 7:=rfl
 have hee:=zdQ hW.hl hsr
 have hcu:=hW.hc u hu
 have hcv:=hW.hc v hv
 have hV:=(zct hW.hl).v
 have hval:=zvT hW (a:=min u v) (b:=max u v) (by omega) (by omega)
 have hmn:W.C (min u v):=by rcases Int.le_total u v with k | k<;>(simp only [Int.min_eq_left,Int.min_eq_right,k]; assumption)
 have hmx:W.C (max u v):=by rcases Int.le_total u v with k | k<;>(simp only [Int.max_eq_left,Int.max_eq_right,k]; assumption)
 have hr:=zcV (orS (shlS (min u v) 8) (max u v))
 have h1:Twin W En Lv (MemLike.st σ (W.l.ends s) (IntKind.u64.wrap (orS (shlS (min u v) 8) (max u v)))) (MemLike.st m (W.l.ends s) (IntKind.u64.wrap (orS (shlS (min u v) 8) (max u v)))) :=
  h.st (fun _=>.inl (ziK hW hs)) (h.clo.low hW (ziK hW hs) hr (fun h0 w q hw e=>by have:=ziO hW (v:=w) (i:=q) (by omega); omega)
   (fun h0 y hy e=>by obtain ⟨s',d,_,_,hs',hd,_,_,_,e1,e2⟩:=h.clo.lv hW hy; omega)
   (fun h0 s' hs' e=>hn (by
    have:=zdQ hW.hl (hW.he s' (h.clo.ene s' hs'))
    have:s=s':=by omega
    rw [this]; exact hs')))
 have hg:MemLike.get (MemLike.st m (W.l.ends s) (IntKind.u64.wrap (orS (shlS (min u v) 8) (max u v))):M) (W.l.ends s)=IntKind.u64.wrap (orS (shlS (min u v) 8) (max u v)):=by
  rw [zcJ hr,if_pos ⟨Z,by omega,by rw [h.clo.size]; omega⟩]
 have h2:Twin W (fun q=>En q\/q=s) Lv _ _:=h1.conv (h1.clo.addE hs (by unfold endsU endsV; rw [hg,hval.1,hval.2]; exact ⟨hmn,hmx⟩))
 exact znA hW (zoV hW h2 hs (zcV _)) hu hv (zby _ _)
theorem zna (h:Twin W En Lv σ m) {u v:Int} (hu:W.C u) (hv:W.C v):Twin W En Lv (zbW W.l σ u v) (zbW W.l m u v):=znA hW h hu hv (by decide)
theorem ztZ (h:Twin W En Lv σ m) {s i:Int} (hs:W.E s):Twin W En Lv (zgt W.l σ s i) (zgt W.l m s i):=zoV hW h hs (zcV _)
theorem zil (h:Twin W En Lv σ m) {s:Int} (hs:En s):Twin W En Lv (zeH W.l σ s) m/\W.C (eget W.l m s).u/\W.C (eget W.l m s).v:=by
 have hE:=h.clo.ene s hs
 have hc:=h.clo.en s hs
 refine ⟨?_,hc.1,hc.2⟩
 unfold zeH zm4 zhr
 rw [h.endsU hE,h.endsV hE]
 exact zhk hW (zhk hW (zhk hW h (ziK hW hE)) (zlx hW hc.1 hc.2)) (zjo hW hE)
theorem zzt (h:Twin W En Lv σ m) {s:Int} (t:Bool) (hs:En s):Twin W En Lv (zgs W.l σ s t) (zgs W.l m s t):=by
 have hE:=h.clo.ene s hs
 have hc:=h.clo.en s hs
 unfold zgs zhr
 rw [h.endsU hE,h.endsV hE]
 exact znA hW (zhk hW h (ziK hW hE)) hc.1 hc.2 (zby _ _)
theorem zux (k:Nat) (h:Twin W En Lv σ m) {v i:Int} (hv:W.C v):Opt2 (Twin W En Lv) (ze7 W.l k σ v i) (ze7 W.l k m v i):=by
 unfold ze7
 dsimp only
 have h1:=zhk hW h (zfi hW hv (i:=i))
 rw [h.aget (zfi hW hv),h1.marked hW (vx hW i hv)]
 simp only [zbd]
 exact Opt2.ite Iff.rfl (fun _=>ziH hW k (zcQ hW h1 (vx hW i hv)) 0 _ (vx hW i hv)) fun _=>zcQ hW h1 (vx hW i hv)
theorem zgE (h:Twin W En Lv σ m) {j v:Int} (hj:W.Low j) (hk:0<=j->(∃ s:Int,(0<=s/\s<W.l.S)/\(W.l.T+1+s * 7+3<=j/\j<=W.l.T+1+s * 7+6))\/W.l.heads<=j) (hv:S0 Lv v):Twin W En Lv (MemLike.st σ j (IntKind.u64.wrap v)) (MemLike.st m j (IntKind.u64.wrap v)):=by
 have hb:=h.clo.s0b hW hv
 have hh:W.l.heads=W.l.T+1+W.l.S * 7:=rfl
 have e:IntKind.i64.wrap (IntKind.u64.wrap v)=v:=by rw [zdK (by omega),zaU (by omega)]
 refine h.st (fun _=>.inl hj) (h.clo.low hW hj (zcV _) (fun _ _ _ _ _=>by rw [e]; exact hv) (fun _ _ _ _=>by rw [e]; exact hv) fun h0 s hs e2=>?_)
 have hs':=hW.he s (h.clo.ene s hs)
 have:=zdQ hW.hl hs'
 rcases hk h0 with ⟨q,h1,h2⟩ | h1<;>omega
theorem zwG {s d:Int}:0<=W.l.next s d->(∃ s':Int,(0<=s'/\s'<W.l.S)/\(W.l.T+1+s' * 7+3<=W.l.next s d/\W.l.next s d<=W.l.T+1+s' * 7+6))\/W.l.heads<=W.l.next s d:=fun h=>by
 obtain ⟨hd,hs,e,_⟩:=zvw hW h; exact .inl ⟨s,hs,by omega,by omega⟩
theorem zrZ {s d:Int}:0<=W.l.prev s d->(∃ s':Int,(0<=s'/\s'<W.l.S)/\(W.l.T+1+s' * 7+3<=W.l.prev s d/\W.l.prev s d<=W.l.T+1+s' * 7+6))\/W.l.heads<=W.l.prev s d:=fun h=>by
 obtain ⟨hd,hs,e,_⟩:=zvg hW h; exact .inl ⟨s,hs,by omega,by omega⟩
omit hW in
theorem zA2 {a b f:Int} (hf:0<=f/\f<=96) (hab:a≠b) (ha:0<=a/\a<m.size) (hb:0<=b/\b<m.size):aget (MemLike.st (MemLike.st m a (IntKind.u64.wrap f)) b 0:M) a=f/\aget (MemLike.st (MemLike.st m a (IntKind.u64.wrap f)) b 0:M) b=0:=by
 unfold aget
 rw [zap hab,zcJ (zcV _),if_pos ⟨Z,ha⟩,zcJ (by decide),if_pos ⟨Z,by rw [zaz]; exact hb⟩,zdK (by omega),zaU (by omega)]
 exact ⟨Z,Z⟩
theorem zwy (k:Nat) (h:Twin W En Lv σ m) {s d v i:Int} (hs:En s) (hd:d=0\/d=1) (hv:W.C v):Opt2 (Twin W En (fun y=>Lv y\/y=2 * s+d+1)) (push W.l k σ (side s d) v i) (push W.l k m (side s d) v i):=by
 have hE:=h.clo.ene s hs
 obtain ⟨e0,e1,e2⟩:=zzY hW hE hd
 have hsr:=hW.he s hE
 have hf:=h.clo.hd v i hv
 have hfb:=h.clo.s0b hW hf
 have hS:=(zct hW.hl).s
 have ho:=zb7 hW.hl
 have hh:W.l.heads=W.l.T+1+W.l.S * 7:=rfl
 unfold push
 dsimp only
 rw [e0,e1,e2,h.aget (zfi hW hv)]
 have h0:=zhk hW h (zfi hW hv (i:=i))
 have h1:=zgE hW h0 (ziJ hW hE (d:=d)) (zwG hW) hf
 have h2:=zgE hW h1 (zhf hW hE (d:=d)) (zrZ hW) (.inl Z:S0 Lv 0)
 rw [show IntKind.u64.wrap 0=0 from Z] at h2
 have n1:=zhK hW.hl hsr (d:=d) (by omega)
 have n2:=zhG hW.hl hsr (d:=d) (by omega)
 obtain ⟨g1,g2⟩:=zA2 (m:=m) (a:=W.l.next s d) (b:=W.l.prev s d) hfb (by omega) ⟨by omega,by rw [h.clo.size]; omega⟩ ⟨by omega,by rw [h.clo.size]; omega⟩
 have h3:Twin W En (fun y=>Lv y\/y=2 * s+d+1) _ _:=h2.conv (h2.clo.addL ⟨s,d,hs,hd,Z⟩ (by rw [e1,g1]; exact hf) (by rw [e2,g2]; exact .inl Z))
 have hx:S0 (fun y=>Lv y\/y=2 * s+d+1) (2 * s+d+1):=.inr (.inr Z)
 have fin:∀ {σ':Tr} {m':M},Twin W En (fun y=>Lv y\/y=2 * s+d+1) σ' m'->Opt2 (Twin W En (fun y=>Lv y\/y=2 * s+d+1)) (ze7 W.l k (MemLike.st σ' (W.l.head v i) (IntKind.u64.wrap (2 * s+d+1))) v i) (ze7 W.l k (MemLike.st m' (W.l.head v i) (IntKind.u64.wrap (2 * s+d+1))) v i):=fun h4 =>
  zux hW k (zgE hW h4 (zfi hW hv) (fun q=>.inr (ziO hW q).1) hx) hv
 by_cases hf0:aget m (W.l.head v i)≠0
 ·rw [Zp hf0,Zp hf0]
  obtain ⟨s',d',_,hE',_,_,_,_,p2,_⟩:=h.clo.lv hW (hf.resolve_left hf0)
  rw [p2]
  exact fin (zgE hW h3 (zhf hW hE') (zrZ hW) hx)
 ·rw [Zn hf0,Zn hf0]
  exact fin h3
theorem zwB (k:Nat) (h:Twin W En Lv σ m) {s d v i:Int} (hs:En s) (hd:d=0\/d=1) (hy:Lv (2 * s+d+1)) (hv:W.C v):Opt2 (Twin W En Lv) (pull W.l k σ (side s d) v i) (pull W.l k m (side s d) v i):=by
 have hE:=h.clo.ene s hs
 obtain ⟨e0,e1,e2⟩:=zzY hW hE hd
 have hnx:=h.clo.nx _ hy
 rw [e1,e2] at hnx
 unfold pull
 dsimp only
 simp only [am_ld]
 rw [e0,e1,e2,h.aget (zhf hW hE)]
 have h1:=zhk hW h (zhf hW hE (d:=d))
 rw [h1.aget (ziJ hW hE)]
 have h2:=zhk hW h1 (ziJ hW hE (d:=d))
 have h3:Twin W En Lv (if aget m (W.l.prev s d)=0 then MemLike.st (MemLike.ld (MemLike.ld σ (W.l.prev s d)) (W.l.next s d)) (W.l.head v i) (IntKind.u64.wrap (aget m (W.l.next s d))) else MemLike.st (MemLike.ld (MemLike.ld σ (W.l.prev s d)) (W.l.next s d)) (za7 W.l (aget m (W.l.prev s d))) (IntKind.u64.wrap (aget m (W.l.next s d))))
   (if aget m (W.l.prev s d)=0 then MemLike.st m (W.l.head v i) (IntKind.u64.wrap (aget m (W.l.next s d))) else MemLike.st m (za7 W.l (aget m (W.l.prev s d))) (IntKind.u64.wrap (aget m (W.l.next s d)))):=by
  by_cases ha:aget m (W.l.prev s d)=0
  ·rw [Zp ha,Zp ha]; exact zgE hW h2 (zfi hW hv) (fun q=>.inr (ziO hW q).1) hnx.1
  ·rw [Zn ha,Zn ha]
   obtain ⟨s',d',_,hE',_,_,_,p1,_⟩:=h.clo.lv hW (hnx.2.resolve_left ha)
   rw [p1]; exact zgE hW h2 (ziJ hW hE') (zwG hW) hnx.1
 refine zux hW k (σ:=ite _ _ _) (m:=ite _ _ _) ?_ hv
 by_cases hb:aget m (W.l.next s d)≠0
 ·rw [Zp hb,Zp hb]
  obtain ⟨s',d',_,hE',_,_,_,_,p2,_⟩:=h.clo.lv hW (hnx.1.resolve_left hb)
  rw [p2]; exact zgE hW h3 (zhf hW hE') (zrZ hW) hnx.2
 ·rw [Zn hb,Zn hb]; exact h3
end
theorem Opt2.mono {α β:Type _} {R Q:α->β->Prop} {a:Option α} {b:Option β} (h:Opt2 R a b) (hq:∀ x y,R x y->Q x y):Opt2 Q a b:=by
 cases a<;>cases b
 ·trivial
 ·exact h.elim
 ·exact h.elim
 ·exact hq _ _ h
def zdJ (Ls:Int->Prop) (y:Int):Prop:=∃ s d:Int,Ls s/\(d=0\/d=1)/\y=2 * s+d+1
structure PtG (W:Pt) (En Ls:Int->Prop) (g:G):Prop where
 uv:∀ s,g.has s=true->(W.C (g.u s)↔W.C (g.v s))
 en:∀ s,g.has s=true->W.C (g.u s)->En s
 ls:∀ s,g.has s=true->W.C (g.u s)->g.tr s=false->Ls s
section
variable {W:Pt} {En Lv Ls:Int->Prop} {σ:Tr} {m:M} {g g':G} {pr:Int->Int}
theorem PtG.jn (h:PtG W En Ls g) {i x y:Int} (c:Jn g i x y) (hx:W.C x):W.C y:=by
 unfold Jn at c
 induction c with
 | refl=>exact hx
 | step _ s hs he ih =>
  have:=h.uv s hs.1
  rcases he with ⟨e1,e2⟩ | ⟨e1,e2⟩
  ·rw [<-e2]; exact this.1 (by rw [e1]; exact ih)
  ·rw [<-e2]; exact this.2 (by rw [e1]; exact ih)
theorem PtG.same (h:PtG W En Ls g) (e1:g'.has=g.has) (e2:g'.u=g.u) (e3:g'.v=g.v) (e4:∀ s,g'.tr s=false->g.tr s=false):PtG W En Ls g' :=
 ⟨fun s hs=>by rw [e2,e3]; exact h.uv s (by rw [<-e1]; exact hs),fun s hs=>by rw [e2]; exact h.en s (by rw [<-e1]; exact hs),fun s hs hu ht=>h.ls s (by rw [<-e1]; exact hs) (by rw [<-e2]; exact hu) (e4 s ht)⟩
variable (hW:W.Ok)
include hW
theorem zA3 (k:Nat) (h:Twin W En (zdJ Ls) σ m) {s:Int} (hs:En s):Opt2 (Twin W En (zdJ fun q=>Ls q\/q=s)) (add W.l k σ s) (add W.l k m s):=by
 unfold add
 dsimp only
 obtain ⟨h1,hu,hv⟩:=zil hW h hs
 rw [h.eget hs]
 refine Opt2.bind (zwy hW k h1 hs (.inl Z) hu) ?_
 intro σ2 m2 h2
 refine (zwy hW k h2 hs (.inr Z) hv).mono fun x y hxy=>hxy.iff (fun _=>Iff.rfl) fun z=>?_
 constructor
 ·rintro ((⟨q,d,h1,h2,h3⟩ | h) | h)
  ·exact ⟨q,d,.inl h1,h2,h3⟩
  ·exact ⟨s,0,.inr Z,.inl Z,h⟩
  ·exact ⟨s,1,.inr Z,.inr Z,h⟩
 ·rintro ⟨q,d,h1 | rfl,h2,h3⟩
  ·exact .inl (.inl ⟨q,d,h1,h2,h3⟩)
  ·rcases h2 with rfl | rfl
   ·exact .inl (.inr h3)
   ·exact .inr h3
theorem zli (k:Nat) (h:Twin W En (zdJ Ls) σ m) {s:Int} (hs:En s) (hl:Ls s):Opt2 (Twin W En (zdJ Ls)) (remove W.l k σ s) (remove W.l k m s):=by
 unfold remove
 dsimp only
 obtain ⟨h1,hu,hv⟩:=zil hW h hs
 rw [h.eget hs]
 refine Opt2.bind (zwB hW k h1 hs (.inl Z) ⟨s,0,hl,.inl Z,Z⟩ hu) ?_
 intro σ2 m2 h2
 exact zwB hW k h2 hs (.inr Z) ⟨s,1,hl,.inr Z,Z⟩ hv
theorem zpe {s u v:Int} (hs:W.E s) (hu:W.C u) (hv:W.C v) {q:Nat}:∀ (k:Nat) {σ:Tr} {m:M} {i n:Int},Twin W En Lv σ m->Opt2 (Twin W En Lv) (zco W.l W.p s u v k q σ i n) (zco W.l W.p s u v k q m i n)
 | 0,_,_,_,_,_=>trivial
 | k+1,σ,m,i,n,h=>by
  rw [zco,zco]
  refine Opt2.ite Iff.rfl (fun _=>Opt2.bind (zwK hW q h hu hv hs) ?_) fun _=>h
  rintro ⟨a,σ1⟩ ⟨_,m1⟩ ⟨e,_,h1⟩
  exact zpe hs hu hv k h1
theorem zr1 (k:Nat) (h:Twin W En Lv σ m) {s:Int} (hs:En s):Opt2 (Twin W En Lv) (plant W.l W.p k σ s) (plant W.l W.p k m s):=by
 have hE:=h.clo.ene s hs
 unfold plant
 dsimp only
 obtain ⟨h1,hu,hv⟩:=zil hW h hs
 rw [h.eget hs]
 refine Opt2.bind (zpe hW hE hu hv k (zzt hW h1 true hs)) ?_
 intro σ2 m2 h2
 exact ziH hW k h2 1 true (ax hW _ 0 hE)
theorem zsY {s:Int} (hs:W.E s) {q:Nat}:∀ (k:Nat) {σ:Tr} {m:M} {i n:Int},Twin W En Lv σ m->Opt2 (Twin W En Lv) (zeq W.l W.p s k q σ i n) (zeq W.l W.p s k q m i n)
 | 0,_,_,_,_,_=>trivial
 | k+1,σ,m,i,n,h=>by
  rw [zeq,zeq]
  refine Opt2.ite Iff.rfl (fun _=>Opt2.bind (cut_t hW q h hs) ?_) fun _=>h
  rintro ⟨a,σ1⟩ ⟨_,m1⟩ ⟨e,_,h1⟩
  exact zsY hs k h1
theorem zAk (k:Nat) (h:Twin W En Lv σ m) {s:Int} (hs:En s):Opt2 (Twin W En Lv) (fell W.l W.p k σ s) (fell W.l W.p k m s):=by
 unfold fell
 obtain ⟨h1,hu,hv⟩:=zil hW h hs
 rw [h.eget hs]
 exact zsY hW (h.clo.ene s hs) k h1
theorem zuX (k:Nat) (h:Twin W En Lv σ m) {s:Int} (hs:En s):Opt2 (Twin W En Lv) (treeUp W.l W.p k σ s) (treeUp W.l W.p k m s):=by
 have hE:=h.clo.ene s hs
 unfold treeUp lmark
 dsimp only
 obtain ⟨h1,hu,hv⟩:=zil hW h hs
 rw [h.eget hs]
 refine Opt2.bind (ziH hW k h1 1 false (ax hW _ 0 hE)) ?_
 intro σ2 m2 h2
 refine Opt2.bind (zwK hW k (ztZ hW h2 hE) hu hv hE) ?_
 rintro ⟨a,σ3⟩ ⟨_,m3⟩ ⟨e,_,h3⟩
 exact ziH hW k h3 1 true (ax hW _ 0 hE)
theorem zxR (k:Nat) (h:Twin W En (zdJ Ls) σ m) {s:Int} (hs:En s) (hl:Ls s):Opt2 (Twin W En (zdJ Ls)) (plain W.l k σ s) (plain W.l k m s):=by
 have hE:=h.clo.ene s hs
 unfold plain
 dsimp only
 obtain ⟨h1,hu,hv⟩:=zil hW h hs
 rw [h.eget hs]
 refine Opt2.bind (zli hW k h1 hs hl) ?_
 intro σ2 m2 h2
 refine (zA3 hW k (ztZ hW h2 hE) hs).mono fun x y hxy=>hxy.iff (fun _=>Iff.rfl) fun z=>?_
 have:(fun q=>Ls q\/q=s)=Ls:=funext fun q=>propext ⟨fun h=>h.elim id fun e=>by rw [e]; exact hl,.inl⟩
 rw [this]
theorem zoP {i v:Int} (hv:W.l.okV i v) (hi:i+1<W.l.lev) (hC:W.C v) {q:Nat} (hq:560<q):∀ (k:Nat) {σ:Tr} {m:M} {g:G} {x:Int},Twin W En Lv σ m->zau W.l pr m g->PtG W En Ls g->lfirst W.l q m i v 1=some (x,m) ->
  Opt2 (Twin W En Lv) (zcn W.l W.p i v k q σ x) (zcn W.l W.p i v k q m x)
 | 0,_,_,_,_,_,_,_,_=>trivial
 | k+1,σ,m,g,x,h,hR,hg,hx=>by
  rw [zcn,zcn]
  refine Opt2.ite Iff.rfl (fun h0=>?_) fun _=>h
  obtain ⟨y,hy,hcase⟩:=hR.first1 hW.hl hv hq
  obtain rfl:x=y:=by rw [hx] at hy; simp at hy; exact hy
  obtain ⟨_,s,hsl,hh,ht,hls,hj⟩:=hcase.resolve_left fun c=>h0 c.1
  have hs:En s:=hg.en s hh (hg.jn hj hC)
  rw [hsl]
  obtain ⟨m1,e1,hR1⟩:=hR.treeUp hW.hl hW.hp hh ht (by omega) hq
  refine Opt2.bindE (zuX hW q h hs) ?_
  intro σ2 m2 e2 h2
  obtain rfl:m1=m2:=by rw [e1] at e2; exact Option.some.inj e2
  obtain ⟨x1,hx1,_⟩:=hR1.first1 hW.hl hv hq
  refine Opt2.bindE (ziL hW q h2 1 hC) ?_
  rintro ⟨x2,σ3⟩ ⟨x3,m3⟩ e3 ⟨e,_,h3⟩
  rw [hx1] at e3
  cases e3
  cases e
  exact zoP hv hi hC hq k h3 hR1 (hg.same Z Z Z fun s hs=>hs) hx1
theorem zxo {i v:Int} (hv:W.l.okV i v) (hi:i+1<W.l.lev) (hC:W.C v) {k:Nat} (hk:560<k) (h:Twin W En Lv σ m) (hR:zau W.l pr m g) (hg:PtG W En Ls g):Opt2 (Twin W En Lv) (trees W.l W.p k σ i v) (trees W.l W.p k m i v):=by
 unfold trees
 obtain ⟨x1,hx1,_⟩:=hR.first1 hW.hl hv hk
 refine Opt2.bindE (ziL hW k h 1 hC) ?_
 rintro ⟨x2,σ3⟩ ⟨x3,m3⟩ e3 ⟨e,_,h3⟩
 rw [hx1] at e3
 cases e3
 cases e
 exact zoP hW hv hi hC hk k h3 hR hg hx1
theorem zrw {i v:Int} (hv:W.l.okV i v) (hi:i+1<W.l.lev) (hC:W.C v) {q:Nat} (hq:560<q):∀ (k:Nat) {σ:Tr} {m:M} {g:G} {x:Int},Twin W En (zdJ Ls) σ m->zau W.l pr m g->PtG W En Ls g->lfirst W.l q m i v 0=some (x,m) ->
  Opt2 (RV W En (zdJ Ls) fun r:Int×Bool=>r.2=true->En r.1/\Ls r.1) (zde W.l i v k q σ x) (zde W.l i v k q m x)
 | 0,_,_,_,_,_,_,_,_=>trivial
 | k+1,σ,m,g,x,h,hR,hg,hx=>by
  rw [zde,zde]
  refine Opt2.ite Iff.rfl (fun h0=>?_) fun _=>⟨rfl,fun hc=>(by cases hc),h⟩
  obtain ⟨y,hy,hcase⟩:=hR.first0 hW.hl hv hq
  obtain rfl:x=y:=by rw [hx] at hy; simp at hy; exact hy
  obtain ⟨_,w,s,hw,hs,hh,ht,hls,huv,hj⟩:=hcase.resolve_left fun c=>h0 c.1
  have hCw:=hg.jn hj hC
  have hCu:W.C (g.u s):=by
   rcases huv with e | e
   ·rw [e]; exact hCw
   ·exact (hg.uv s hh).2 (by rw [e]; exact hCw)
  have hE:=hg.en s hh hCu
  have hL:=hg.ls s hh hCu ht
  dsimp only
  rw [hw,h.afirst hCw,hs]
  dsimp only
  have h1:Twin W En (zdJ Ls) (zf5 W.l σ w i) (zf5 W.l m w i):=zhk hW h (zfi hW hCw)
  rw [h1.eget hE]
  obtain ⟨h2,cu,cv⟩:=zil hW h1 hE
  have hge:eget W.l (zf5 W.l m w i) s=⟨g.u s,g.v s,g.lv s,g.tr s⟩:=hR.eget hW.hl hh
  have hr:=hR.rng hW.hl hh
  obtain ⟨b0,eb0,_⟩:=hR.same hW.hl (i:=i) (u:=g.u s) (v:=g.v s) ⟨hv.1,by omega⟩ ⟨hv.1,by omega⟩ hq
  refine Opt2.bindE (zwu hW q h2 cu cv) ?_
  rintro ⟨b,σ3⟩ ⟨b',m3⟩ e3 ⟨e,_,h3⟩
  rw [hge] at e3
  have e4:same W.l q m i (g.u s) (g.v s)=some (b',m3):=e3
  rw [eb0] at e4
  cases e4
  cases e
  refine Opt2.ite Iff.rfl (fun _=>?_) fun _=>⟨Z,fun _=>⟨hE,hL⟩,h3⟩
  obtain ⟨m4,e4,hR1⟩:=hR.plain hW.hl hh ht (by omega) hq
  refine Opt2.bindE (zxR hW q h3 hE hL) ?_
  intro σ5 m5 e5 h5
  obtain rfl:m4=m5:=by
   have e6:plain W.l q m s=some m5:=e5
   rw [e4] at e6; exact Option.some.inj e6
  obtain ⟨x1,hx1,_⟩:=hR1.first0 hW.hl hv hq
  refine Opt2.bindE (ziL hW q h5 0 hC) ?_
  rintro ⟨x2,σ6⟩ ⟨x3,m6⟩ e6 ⟨e,_,h6⟩
  rw [hx1] at e6
  cases e6
  cases e
  exact zrw hv hi hC hq k h6 hR1 (hg.same Z Z Z fun s hs=>hs) hx1
theorem zzW {i v:Int} (hv:W.l.okV i v) (hi:i+1<W.l.lev) (hC:W.C v) {k:Nat} (hk:560<k) (h:Twin W En (zdJ Ls) σ m) (hR:zau W.l pr m g) (hg:PtG W En Ls g) :
  Opt2 (RV W En (zdJ Ls) fun r:Int×Bool=>r.2=true->En r.1/\Ls r.1) (seek W.l k σ i v) (seek W.l k m i v):=by
 unfold seek
 obtain ⟨x1,hx1,_⟩:=hR.first0 hW.hl hv hk
 refine Opt2.bindE (ziL hW k h 0 hC) ?_
 rintro ⟨x2,σ3⟩ ⟨x3,m3⟩ e3 ⟨e,_,h3⟩
 rw [hx1] at e3
 cases e3
 cases e
 exact zrw hW hv hi hC hk k h3 hR hg hx1
theorem zjt (k:Nat) (h:Twin W En (zdJ Ls) σ m) {s u v:Int} (hs:W.E s) (hn:¬En s) (hu:W.C u) (hv:W.C v):Opt2 (RV W (fun q=>En q\/q=s) (zdJ fun q=>Ls q\/q=s) fun _=>True) (zbf W.l W.p k σ s u v) (zbf W.l W.p k m s u v) \/
  Opt2 (RV W (fun q=>En q\/q=s) (zdJ Ls) fun _=>True) (zbf W.l W.p k σ s u v) (zbf W.l W.p k m s u v):=by
 unfold zbf
 have h0:=zwu hW k h (i:=0) hu hv
 cases ea:same W.l k σ 0 u v with
 | none =>
  cases eb:same W.l k m 0 u v with
  | none=>exact .inl Zt
  | some y=>rw [ea,eb] at h0; exact h0.elim
 | some x =>
  cases eb:same W.l k m 0 u v with
  | none=>rw [ea,eb] at h0; exact h0.elim
  | some y =>
   rw [ea,eb] at h0
   obtain ⟨j,σ1⟩:=x
   obtain ⟨j',m1⟩:=y
   obtain ⟨e,_,h1⟩:=h0
   cases e
   have h2:=zAQ hW h1 (i:=0) false hs hn hu hv
   simp only [Option.bind_some]
   cases j
   ·simp only [Bool.false_eq_true,↓reduceIte]
    refine .inr (Opt2.bind (zr1 hW k h2 (.inr Z)) ?_)
    intro σ3 m3 h3
    exact ⟨Z,Zt,h3⟩
   ·simp only [↓reduceIte]
    refine .inl (Opt2.bind (zA3 hW k h2 (.inr Z)) ?_)
    intro σ3 m3 h3
    exact ⟨Z,Zt,h3⟩
theorem zrH {i u v:Int} (hi:0<=i) (hi2:i+1<W.l.lev) (hu:W.C u) (hv:W.C v) {k:Nat} (hk:560<k) (h:Twin W En (zdJ Ls) σ m) (hR:zau W.l pr m g) (hg:PtG W En Ls g) :
  Opt2 (RV W En (zdJ Ls) fun _:Int×Bool=>True) (replace W.l W.p k σ i u v) (replace W.l W.p k m i u v):=by
 have lb:=zbz hW.hl
 have ou:W.l.okV i u:=⟨⟨hi,by omega⟩,hW.hc u hu⟩
 have ov:W.l.okV i v:=⟨⟨hi,by omega⟩,hW.hc v hv⟩
 unfold replace
 have hn:¬(IntKind.i64.wrap (i+1)>=W.l.lev):=by rw [zaU (by omega)]; omega
 rw [Zn hn,Zn hn]
 have e1:=hR.smaller hW.hl ou ov hk
 obtain ⟨w,hwe⟩:∃ w,(if nv W.l g i v<nv W.l g i u then v else u)=w:=⟨_,rfl⟩
 rw [hwe] at e1
 refine Opt2.bindE (zrq hW k h hu hv) ?_
 rintro ⟨w1,σ1⟩ ⟨w',m1⟩ ew ⟨e,hw,h1⟩
 rw [e1] at ew
 cases ew
 cases e
 have ow:W.l.okV i w:=⟨ou.1,hW.hc w hw⟩
 dsimp only
 obtain ⟨m2,g2,e2,hR2,hA⟩:=hR.trees hW.hl hW.hp ow hi2 hk
 refine Opt2.bindE (zxo hW ow hi2 hw hk h1 hR hg) ?_
 intro σ3 m3 e3 h3
 obtain rfl:m2=m3:=by rw [e2] at e3; exact Option.some.inj e3
 refine Opt2.bind (zzW hW ow hi2 hw hk h3 hR2 (hg.same hA.has hA.u hA.v fun s hs=>by rw [<-hA.tr]; exact hs)) ?_
 rintro ⟨⟨b,ok⟩,σ4⟩ ⟨⟨_,_⟩,m4⟩ ⟨e,hq,h4⟩
 cases e
 cases ok
 ·exact ⟨Z,Zt,h4⟩
 ·obtain ⟨q1,q2⟩:=hq rfl
  refine Opt2.bind (zli hW k h4 q1 q2) ?_
  intro σ5 m5 h5
  refine Opt2.bind (zr1 hW k h5 q1) ?_
  intro σ6 m6 h6
  exact ⟨Z,Zt,h6⟩
theorem zkq {u v:Int} (hu:W.C u) (hv:W.C v) {q:Nat} (hq:560<q):∀ (n k:Nat) {σ:Tr} {m:M} {g:G} {i:Int} {b:Int×Bool},i=(n:Int) - 1->i+1<W.l.lev->Twin W En (zdJ Ls) σ m->zau W.l pr m g->DelI W.l g u v i->PtG W En Ls g ->
  Opt2 (RV W En (zdJ Ls) fun _:Int×Bool=>True) (zbb W.l W.p u v k q σ i b) (zbb W.l W.p u v k q m i b)
 | _,0,_,_,_,_,_,_,_,_,_,_,_=>trivial
 | 0,k+1,σ,m,g,i,b,hi,_,h,_,_,_=>by
  rw [zbb,zbb,Zn (by omega),Zn (by omega)]
  exact ⟨Z,Zt,h⟩
 | n+1,k+1,σ,m,g,i,b,hi,hi2,h,hR,hD,hg=>by
  rw [zbb,zbb,Zp (by omega),Zp (by omega)]
  obtain ⟨r,m1,g1,e,hR1,hE,hc⟩:=zfL hW.hl hW.hp hR hD (by omega) hi2 (hW.hc u hu) (hW.hc v hv) hq
  refine Opt2.bindE (zrH hW (by omega) hi2 hu hv hq h hR hg) ?_
  rintro ⟨r2,σ3⟩ ⟨r3,m3⟩ e3 ⟨e4,_,h3⟩
  rw [e] at e3
  cases e3
  cases e4
  dsimp only
  refine Opt2.ite Iff.rfl (fun _=>⟨Z,Zt,h3⟩) fun hno=>?_
  rcases hc with ⟨hr,ht,hD1⟩ | ⟨hr,_⟩
  ·rw [zaU (by have:=zbz hW.hl; omega)]
   exact zkq hu hv hq n k (by omega) (by omega) h3 hR1 hD1 (hg.same hE.has hE.u hE.v fun s hs=>by rw [<-ht]; exact hs)
  ·exact absurd hr hno
theorem zjw {k:Nat} (hk:560<k) (h:Twin W En (zdJ Ls) σ m) (hR:zau W.l pr m g) (hH:Hdt W.l g) (hg:PtG W En Ls g) {s:Int} (hh:g.has s=true) (hC:W.C (g.u s)) :
  Opt2 (RV W En (zdJ Ls) fun _:Bool×Int×Bool=>True) (zbk W.l W.p k σ s) (zbk W.l W.p k m s):=by
 have hr:=hR.rng hW.hl hh
 have e:=hR.eget hW.hl hh
 have hs:=hg.en s hh hC
 have hCv:=(hg.uv s hh).1 hC
 have hg2:PtG W En Ls (g.del s):=by
  have hq:∀ q,(g.del s).has q=true->g.has q=true:=fun q hq=>by
   unfold G.del updB at hq; dsimp only at hq
   split at hq
   ·cases hq
   ·exact hq
  exact ⟨fun q h1=>hg.uv q (hq q h1),fun q h1=>hg.en q (hq q h1),fun q h1=>hg.ls q (hq q h1)⟩
 unfold zbk
 dsimp only
 rw [h.eget hs,e]
 dsimp only
 obtain ⟨h1,_,_⟩:=zil hW h hs
 cases ht:g.tr s with
 | false =>
  rw [Zn (by decide),Zn (by decide)]
  refine Opt2.bind (zli hW k h1 hs (hg.ls s hh hC ht)) ?_
  intro σ2 m2 h2
  exact ⟨Z,Zt,zna hW h2 hC hCv⟩
 | true =>
  rw [Zp Z,Zp Z]
  obtain ⟨m1,e1,hR1⟩:=hR.fell_del hW.hl hW.hp hh ht hk
  have htop:=(hH.top hW.hl (fun q hq=>by have:=hR.rng hW.hl hq; exact ⟨this.2.1,this.2.2.1⟩) hh).1
  have hb:¬Conn (fun q=>Pg g 0 q/\q≠s) g.u g.v (g.u s) (g.v s):=by
   obtain ⟨F,mk,L,hI⟩:=hR
   exact (hI.tours 0 (by have:=zbz hW.hl; omega)).bridge hW.hl (by have:=zbz hW.hl; omega) hI.lm.forest ⟨hh,ht,hr.2.2.1⟩
  have hD:=DelI.start hH hh ht ⟨⟨hr.2.1.1,by omega⟩,by omega,hr.2.1.2.2⟩ hr.2.2.1 hb
  refine Opt2.bindE (zAk hW k h1 hs) ?_
  intro σ2 m2 e2 h2
  obtain rfl:m1=m2:=by
   have e3:fell W.l W.p k m s=some m2:=e2
   rw [e1] at e3; exact Option.some.inj e3
  refine Opt2.bind (zkq hW hC hCv hk ((g.lv s).toNat+1) k (i:=g.lv s) (by omega) htop (zna hW h2 hC hCv) hR1 hD hg2) ?_
  rintro ⟨r,σ3⟩ ⟨_,m3⟩ ⟨e4,_,h3⟩
  cases e4
  exact ⟨Z,Zt,h3⟩
end
theorem zwt {nx pv:Int->Int}:∀ {r:List Int} {a b y:Int},seg nx pv a r b->y∈r->(nx y∈r\/nx y=b)/\(pv y∈r\/pv y=a)
 | [],_,_,_,_,h=>by cases h
 | z :: r,a,b,y,⟨h1,h2,h3⟩,hy=>by
  rcases List.mem_cons.1 hy with rfl | hy
  ·refine ⟨?_,.inr h1⟩
   rw [h2]
   cases r with
   | nil=>exact .inr Z
   | cons q r=>exact .inl (by simp [fst])
  ·obtain ⟨k1,k2⟩:=zwt h3 hy
   refine ⟨k1.imp (fun h=>List.mem_cons_of_mem _ h) id,?_⟩
   rcases k2 with k | k
   ·exact .inl (List.mem_cons_of_mem _ k)
   ·exact .inl (by rw [k]; exact List.mem_cons_self)
section
variable {l:Lay} (hl:l.Ok) {mk pr:Int->Int} {m:M} {F:Int->T}
include hl
theorem zrJ:∀ {t:T} {x:Int},repU l mk m t->x∈t.list->(gf l m x 3=0\/gf l m x 3∈t.list)/\(gf l m x 4=0\/gf l m x 4∈t.list)/\(x=t.root\/parent l m x∈t.list)
 | .nil,_,_,h=>by cases h
 | .node a y b,x,hr,hx=>by
  obtain ⟨h1,h2,h3,h4,h5,h6,h7,h8,h9⟩:=hr
  have inA:∀ {z},z∈a.list->z∈(T.node a y b).list:=fun {z} h=>T.mem_node.2 (.inl h)
  have inB:∀ {z},z∈b.list->z∈(T.node a y b).list:=fun {z} h=>T.mem_node.2 (.inr (.inr h))
  have inY:y∈(T.node a y b).list:=T.mem_node.2 (.inr (.inl Z))
  have nz:∀ {t:T} {z},repU l mk m t->z∈t.list->z≠0:=fun {t z} h hz=>by have:=h.nd z hz; unfold Lay.nd at this; omega
  rcases T.mem_node.1 hx with hx | rfl | hx
  ·obtain ⟨k1,k2,k3⟩:=zrJ h6 hx
   refine ⟨k1.imp id inA,k2.imp id inA,?_⟩
   rcases k3 with k | k
   ·exact .inr (by rw [k,h8 (by rw [<-k]; exact nz h6 hx)]; exact inY)
   ·exact .inr (inA k)
  ·refine ⟨?_,?_,.inl Z⟩
   ·rw [h2]
    by_cases h0:a.root=0
    ·exact .inl h0
    ·exact .inr (inA (h6.root_mem h0))
   ·rw [h3]
    by_cases h0:b.root=0
    ·exact .inl h0
    ·exact .inr (inB (h7.root_mem h0))
  ·obtain ⟨k1,k2,k3⟩:=zrJ h7 hx
   refine ⟨k1.imp id inB,k2.imp id inB,?_⟩
   rcases k3 with k | k
   ·exact .inr (by rw [k,h9 (by rw [<-k]; exact nz h7 hx)]; exact inY)
   ·exact .inr (inB k)
end
structure PtOk (W:Pt) (g:G):Prop where
 uv:∀ s,g.has s=true->(W.C (g.u s)↔W.C (g.v s))
 ce:∀ s,g.has s=true->W.C (g.u s)->W.E s
 ec:∀ s,W.E s->g.has s=true->W.C (g.u s)
def En0 (W:Pt) (g:G) (s:Int):Prop:=g.has s=true/\W.C (g.u s)
def Ls0 (W:Pt) (g:G) (s:Int):Prop:=g.has s=true/\W.C (g.u s)/\g.tr s=false
section
variable {W:Pt} {g:G} {m:M} {pr:Int->Int} (hW:W.Ok) (hP:PtOk W g)
include hP
theorem PtOk.ptg:PtG W (En0 W g) (Ls0 W g) g:=⟨hP.uv,fun s h1 h2=>⟨h1,h2⟩,fun s h1 h2 h3=>⟨h1,h2,h3⟩⟩
include hW
theorem nV {i v:Int} (h:W.l.okV i v):W.N (W.l.vertex i v)↔W.C v:=by
 have:=zaf hW.hl h
 unfold Pt.N
 rw [this.2.1]
 exact ⟨fun h=>h.2.1 rfl,fun h=>⟨this.1,fun _=>h,fun e=>by cases e⟩⟩
theorem nA {s i d:Int} (h:W.l.okA s i d):W.N (W.l.arc s i d)↔W.E s:=by
 have:=zay hW.hl h
 unfold Pt.N
 rw [this.2]
 exact ⟨fun h=>h.2.2 rfl,fun h=>⟨this.1,fun e=>(by cases e),fun _=>h⟩⟩
theorem zfM {mk:Int->Int} {F:Int->T} {L:Int->Int->List Int} (hI:Inv W.l pr m F mk g L (Pg g) (Bg g) (Kg g)) {x y:Int} (hx:W.N x) (hy:y∈(F x).list):W.N y:=by
 have hl:=hW.hl
 have hF:=hI.lm.forest
 have hFy:F y=F x:=hF.cls x hx.1 y hy
 have hnd:W.l.nd y:=(hF.rep x hx.1).nd y hy
 have key:∀ {i u:Int} {y:Int},W.l.okV i u->W.C u->W.l.nd y->F y=F (W.l.vertex i u)->W.N y:=fun {i u y} hu hC hnd hFy=>by
  have hT:=hI.tours i hu.1
  have nu:=(zaf hl hu).1
  have hym:y∈(F (W.l.vertex i u)).list:=by rw [<-hFy]; exact hF.mem y hnd
  have hlv:=hT.lev _ nu (by rw [(zaf hl hu).2.1]) y hym
  rcases zex hl hnd with ⟨j,w,hw,rfl⟩ | ⟨s,j,d,hs,rfl⟩
  ·rw [(zaf hl hw).2.1] at hlv
   obtain rfl:j=i:=hlv
   exact (nV hW hP hw).2 (hP.ptg.jn (i:=j) (hT.conn u w hu hw hFy.symm) hC)
  ·rw [(zay hl hs).2] at hlv
   obtain rfl:j=i:=hlv
   by_cases hPs:Pg g j s
   ·obtain ⟨a1,a2,a3⟩:=hT.arcs s hPs
    have hd:F (W.l.arc s j d)=F (W.l.arc s j 0):=by
     have hdd:=hs.2.2
     rcases (show d=0\/d=1 by omega) with rfl | rfl
     ·rfl
     ·exact a1
    have hok:=(hT.rng s hPs).2.1
    have hCu:W.C (g.u s):=hP.ptg.jn (i:=j) (hT.conn u (g.u s) hu hok (by rw [a2,<-hd,hFy])) hC
    exact (nA hW hP hs).2 (hP.ce s hPs.1 hCu)
   ·have h1:=hT.single s d hs hPs
    have:W.l.vertex j u∈(F (W.l.arc s j d)).list:=by rw [hFy]; exact hF.mem _ nu
    rw [h1,List.mem_singleton] at this
    exact absurd this (zaN hl hu hs)
 rcases zex hl hx.1 with ⟨i,u,hu,rfl⟩ | ⟨s,i,d,hs,rfl⟩
 ·exact key hu ((nV hW hP hu).1 hx) hnd hFy
 ·have hE:=(nA hW hP hs).1 hx
  have hT:=hI.tours i hs.2.1
  by_cases hPs:Pg g i s
  ·obtain ⟨a1,a2,a3⟩:=hT.arcs s hPs
   have hd:F (W.l.arc s i d)=F (W.l.arc s i 0):=by
    have hdd:=hs.2.2
    rcases (show d=0\/d=1 by omega) with rfl | rfl
    ·rfl
    ·exact a1
   exact key (hT.rng s hPs).2.1 (hP.ec s hE hPs.1) hnd (by rw [hFy,hd,a2])
  ·rw [hT.single s d hs hPs,List.mem_singleton] at hy
   rw [hy]; exact hx
theorem zau.clo (hR:zau W.l pr m g) (hsn:Snap W.l W.p W.par0 m):Clo W (En0 W g) (zdJ (Ls0 W g)) m:=by
 have hl:=hW.hl
 obtain ⟨F,mk,L,hI⟩:=hR
 have hF:=hI.lm.forest
 have recs:∀ x,W.N x->(gf W.l m x 3=0\/W.N (gf W.l m x 3))/\(gf W.l m x 4=0\/W.N (gf W.l m x 4))/\(parent W.l m x=0\/W.N (parent W.l m x)):=fun x hx=>by
  obtain ⟨k1,k2,k3⟩:=zrJ hl (hF.rep x hx.1) (hF.mem x hx.1)
  refine ⟨k1.imp id (zfM hW hP hI hx),k2.imp id (zfM hW hP hI hx),?_⟩
  rcases k3 with k | k
  ·have:=hF.top x hx.1; rw [<-k] at this; exact .inl this
  ·exact .inr (zfM hW hP hI hx k)
 have lkN:∀ {q:Int},q=0\/W.N q->W.l.lk q:=fun {q} h=>by
  have hn:=zaB hl
  rcases h with rfl | h
  ·unfold Lay.lk; omega
  ·have:=h.1; unfold Lay.nd at this; unfold Lay.lk; omega
 have hE:=hI.edges
 have endOk:∀ s,En0 W g s->W.C (endsU W.l m s)/\W.C (endsV W.l m s):=fun s hs=>by
  have e:=(zdR hl hE hs.1).1
  have e1:endsU W.l m s=g.u s:=congrArg Edg.u e
  have e2:endsV W.l m s=g.v s:=congrArg Edg.v e
  rw [e1,e2]; exact ⟨hs.2,(hP.uv s hs.1).1 hs.2⟩
 have sides:∀ {i v y:Int},W.l.okV i v->W.C v->y∈L v i->zdJ (Ls0 W g) y:=fun {i v y} hok hv hy=>by
  obtain ⟨s,d,rfl,hd,hB,_,he⟩:=(hI.mem i v hok y).1 hy
  refine ⟨s,d,⟨hB.1,?_,hB.2⟩,hd,Z⟩
  rcases hd with rfl | rfl
  ·rw [Zp Z] at he; rw [he]; exact hv
  ·rw [Zn (by decide)] at he; exact (hP.uv s hB.1).2 (by rw [he]; exact hv)
 have ag:∀ {j q:Int},get m j=q->0<=q/\q<=96->aget m j=q:=fun {j q} h hq=>by unfold aget; rw [h,zaU (by omega)]
 have sb:∀ {y:Int},zdJ (Ls0 W g) y->0<=y/\y<=96:=fun {y} h=>by
  obtain ⟨s,d,hs,hd,rfl⟩:=h
  have:=hW.he s (hP.ce s hs.1 hs.2.1)
  have:=(zct hl).s
  omega
 refine ⟨hF.size,fun x f hx hf=>?_,fun x hx=>(recs x hx).2.2,hsn,fun v i hv=>?_,fun y hy=>?_,endOk,fun s hs=>hP.ce s hs.1 hs.2,fun y hy=>?_⟩
 ·have:=recs x hx
  rcases hf with rfl | rfl
  ·rw [zc2 hl (lkN this.1) Z]; exact this.1
  ·rw [zc2 hl (lkN this.2.1) Z]; exact this.2.1
 ·by_cases hok:W.l.okV i v
  ·have h1:=hI.lm.lists.head i v hok
   by_cases h0:L v i=[]
   ·rw [h0] at h1
    exact .inl (ag h1 (by decide))
   ·have h2:=zn7 (b:=0) h0
    have h3:=sides hok hv h2
    rw [ag h1 (sb h3)]; exact .inr h3
  ·refine .inl ?_
   have:W.l.head v i=-1:=by unfold Lay.head; rw [Zn fun c=>hok ⟨c.2,c.1⟩]
   rw [this]; unfold aget; rw [zfS (by decide)]; rfl
 ·obtain ⟨s,d,hs,hd,rfl⟩:=hy
  have hrg:=hE.rng s hs.1
  obtain ⟨v,hv⟩:∃ v,(if d=0 then g.u s else g.v s)=v:=⟨_,rfl⟩
  have hvr:0<=v/\v<W.l.V:=by rw [<-hv]; split<;>omega
  have hok:W.l.okV (g.lv s) v:=⟨hrg.2.2,hvr⟩
  have hCv:W.C v:=by
   rw [<-hv]; split
   ·exact hs.2.1
   ·exact (hP.uv s hs.1).1 hs.2.1
  have hm:2 * s+d+1∈L v (g.lv s):=(hI.mem _ _ hok _).2 ⟨s,d,Z,hd,⟨hs.1,hs.2.2⟩,Z,hv⟩
  obtain ⟨k1,k2⟩:=zwt (hI.lm.lists.seg _ _ hok) hm
  have fin:∀ {j q:Int},get m j=q->(q∈L v (g.lv s)\/q=0)->S0 (zdJ (Ls0 W g)) (aget m j):=fun {j q} h hq=>by
   rcases hq with hq | rfl
   ·have h3:=sides hok hCv hq
    rw [ag h (sb h3)]; exact .inr h3
   ·exact .inl (ag h (by decide))
  exact ⟨fin Z k1,fin Z k2⟩
 ·obtain ⟨s,d,hs,hd,rfl⟩:=hy
  exact ⟨s,d,⟨hs.1,hs.2.1⟩,hd,Z⟩
theorem Twin.start (hR:zau W.l pr W.m1 g) (hsn:Snap W.l W.p W.par0 W.m1) (heq:∀ j,W.Adr j->MemLike.get W.m0 j=MemLike.get W.m1 j) (hz:W.m0.size=W.m1.size):Twin W (En0 W g) (zdJ (Ls0 W g)) ⟨W.m0,#[]⟩ W.m1 :=
 ⟨hR.clo hW hP hsn,fun a ha=>(by cases ha),Rp.start _,heq,hz,fun _ _=>rfl,fun _ _=>rfl⟩
end
def Pt.A2 (W:Pt) (j:Int):Prop:=W.Adr j\/(∃ x,W.N x/\(j=W.l.field x 0\/j=W.l.field x 1))\/j=W.l.state W.p.thread
structure Ag (W:Pt) (σ:Tr) (m:M):Prop where
 rp:Rp W.m0 σ
 eq:∀ j,W.A2 j->get σ.mem j=get m j
 sz:σ.mem.size=m.size
 fr:∀ j,¬W.A2 j->get m j=get W.m1 j
 fr0:∀ j,¬W.A2 j->get σ.mem j=get W.m0 j
def Gr (K:Acc->Prop) (σ τ:Tr):Prop:=∃ r,τ.row=σ.row++r/\∀ a∈r.toList,K a
section
variable {W:Pt} {σ τ υ:Tr} {m:M} {K K':Acc->Prop}
theorem Gr.refl:Gr K σ σ:=⟨#[],by simp,fun a ha=>by cases ha⟩
theorem Gr.trans (h:Gr K σ τ) (h':Gr K τ υ):Gr K σ υ:=by
 obtain ⟨r,e,hr⟩:=h
 obtain ⟨r',e',hr'⟩:=h'
 exact ⟨r++r',by rw [e',e,Array.append_assoc],fun a ha=>by
  rw [Array.toList_append,List.mem_append] at ha
  exact ha.elim (hr a) (hr' a)⟩
theorem Gr.ld (i:Int) (h:0<=i->K ⟨false,i,get σ i⟩):Gr K σ (MemLike.ld σ i):=by
 rw [zkc]
 split
 ·next hi=>exact ⟨#[⟨false,i,get σ.mem i⟩],rfl,fun a ha=>by rw [List.mem_singleton] at ha; subst ha; exact h hi.1⟩
 ·exact .refl
theorem Gr.st (i v:Int) (h:0<=i->K ⟨true,i,v⟩):Gr K σ (MemLike.st σ i v):=by
 rw [zkb]
 split
 ·next hi=>exact ⟨#[⟨true,i,v⟩],rfl,fun a ha=>by rw [List.mem_singleton] at ha; subst ha; exact h hi.1⟩
 ·exact .refl
theorem Ag.get (h:Ag W σ m) {i:Int} (hi:0<=i->W.A2 i):get σ i=get m i:=by
 by_cases h0:0<=i
 ·exact h.eq i (hi h0)
 ·rw [zoT,zfS (by omega),zfS (by omega)]
theorem Ag.ld (h:Ag W σ m) (i:Int):Ag W (MemLike.ld σ i) m:=by
 have e:=zsk σ i
 exact ⟨h.rp.ld i,by rw [e]; exact h.eq,by rw [e]; exact h.sz,h.fr,by rw [e]; exact h.fr0⟩
theorem Ag.st (h:Ag W σ m) {i v:Int} (hi:0<=i->W.A2 i):Ag W (MemLike.st σ i v) (MemLike.st m i v):=by
 have e:=zwJ σ i v
 have ne:∀ j,¬W.A2 j->∀ q:M,MemLike.get (MemLike.st q i v:M) j=MemLike.get q j:=fun j hj q=>by
  by_cases h0:0<=i
  ·exact zap fun c=>hj (by rw [c]; exact hi h0)
  ·rw [zkl (by omega)]
 exact ⟨h.rp.st i v,fun j hj=>by rw [e,zhQ,zhQ,h.sz,h.eq j hj],by rw [e,zaz,zaz]; exact h.sz,fun j hj=>by rw [ne j hj]; exact h.fr j hj,fun j hj=>by rw [e,ne j hj]; exact h.fr0 j hj⟩
theorem Twin.ag {En Lv:Int->Prop} (h:Twin W En Lv σ m) (heq:∀ j,W.A2 j->MemLike.get W.m0 j=MemLike.get W.m1 j):Ag W σ m :=
 ⟨h.rp,fun j hj=>by
  by_cases ha:W.Adr j
  ·exact h.eq j ha
  ·rw [h.fr j ha,h.fr0 j ha]; exact heq j hj,h.sz,fun j hj=>h.fr j fun c=>hj (.inl c),fun j hj=>h.fr0 j fun c=>hj (.inl c)⟩
theorem a2_f {x f:Int} (hx:W.N x) (hf:0<=f/\f<=6):W.A2 (W.l.field x f):=by
 rcases (show f=0\/f=1\/(2<=f/\f<=6) by omega) with rfl | rfl | h
 ·exact .inr (.inl ⟨x,hx,.inl Z⟩)
 ·exact .inr (.inl ⟨x,hx,.inr Z⟩)
 ·exact .inl (.inr ⟨x,f,hx,h,Z⟩)
variable (hW:W.Ok)
include hW
theorem zhx {x f:Int} (hx:W.l.nd x) (hf:0<=f/\f<7) (h:W.A2 (W.l.field x f)):W.N x:=by
 have hl:=hW.hl
 have hb:=zaL hl hx hf
 rcases h with (h | ⟨y,k,hy,hk,e⟩) | ⟨y,hy,e⟩ | h
 ·exact absurd Z (zaO hl (h.lowc hW) hx hf)
 ·obtain ⟨rfl,_⟩:=(zac hl hx hf hy.1 (by omega)).1 e; exact hy
 ·rcases e with e | e
  ·obtain ⟨rfl,_⟩:=(zac hl hx hf hy.1 (by omega)).1 e; exact hy
  ·obtain ⟨rfl,_⟩:=(zac hl hx hf hy.1 (by omega)).1 e; exact hy
 ·have ho:=zb7 hl
  have hh:W.l.heads=W.l.T+1+W.l.S * 7:=rfl
  have ht:=hW.hp.t
  unfold Lay.state at h
  split at h
  ·next hs=>unfold below at hs; omega
  ·omega
end
theorem app_get {α:Type} [Inhabited α] {d:Array α} {x:α} {i:Nat}:(d++#[x])[i]! =if i<d.size then d[i]! else if i=d.size then x else default:=by
 by_cases h:i<d.size
 ·rw [Zp h,get!_app h]
 ·rw [Zn h]
  by_cases h2:i=d.size
  ·subst h2; rw [Zp Z]
   have:=get!_app2 (a:=d) (b:=#[x]) (j:=0) (by simp)
   simp
  ·rw [Zn h2,getElem!_neg _ _ (by simp; omega)]
theorem zhE {l:Lay} {x:Int}:∀ n:Nat,(∃ i,i<(zax l n).size/\(zax l n)[i]! =x)↔1<=x/\x<=n/\zbJ l x=true
 | 0=>⟨fun ⟨i,hi,_⟩=>absurd hi (Nat.not_lt_zero i),fun h=>by omega⟩
 | n+1=>by
  have ih:=zhE (l:=l) (x:=x) n
  rw [zax]
  split
  ·next hs =>
   constructor
   ·rintro ⟨i,hi,e⟩
    rw [app_get] at e
    split at e
    ·next h=>have:=ih.1 ⟨i,h,e⟩; exact ⟨this.1,by omega,this.2.2⟩
    ·next h =>
     have:i=(zax l n).size:=by simp at hi; omega
     rw [Zp this] at e
     subst e; exact ⟨by omega,Int.le_refl _,hs⟩
   ·rintro ⟨h1,h2,h3⟩
    by_cases e:x=((n+1:Nat):Int)
    ·exact ⟨(zax l n).size,by simp,by rw [app_get,Zn (Nat.lt_irrefl _),Zp Z,e]⟩
    ·obtain ⟨i,hi,e2⟩:=ih.2 ⟨h1,by omega,h3⟩
     exact ⟨i,by simp; omega,by rw [app_get,Zp hi]; exact e2⟩
  ·next hs =>
   rw [ih]
   constructor
   ·rintro ⟨h1,h2,h3⟩; exact ⟨h1,by omega,h3⟩
   ·rintro ⟨h1,h2,h3⟩
    have:x≠((n+1:Nat):Int):=fun e=>hs (by rw [<-e]; exact h3)
    exact ⟨h1,by omega,h3⟩
theorem zd5 {l:Lay}:∀ (n:Nat) {i j:Nat},i<(zax l n).size->j<(zax l n).size->(zax l n)[i]! =(zax l n)[j]!->i=j
 | 0,i,_,hi,_,_=>absurd hi (Nat.not_lt_zero i)
 | n+1,i,j,hi,hj,e=>by
  rw [zax] at hi hj e
  have lt:∀ {q},q<(zax l n).size->(zax l n)[q]!≠((n+1:Nat):Int):=fun {q} hq e2=>by
   have:=(zhE n).1 ⟨q,hq,e2⟩; omega
  split at hi
  ·next hs =>
   rw [Zp hs] at hj e
   simp at hi hj
   rw [app_get,app_get] at e
   by_cases h1:i<(zax l n).size
   ·rw [Zp h1] at e
    by_cases h2:j<(zax l n).size
    ·rw [Zp h2] at e; exact zd5 n h1 h2 e
    ·rw [Zn h2,Zp (by omega)] at e; exact absurd e (lt h1)
   ·rw [Zn h1,Zp (by omega)] at e
    by_cases h2:j<(zax l n).size
    ·rw [Zp h2] at e; exact absurd e.symm (lt h2)
    ·omega
  ·next hs =>
   rw [Zn hs] at hj e
   exact zd5 n hi hj e
theorem zno {l:Lay} {x:Int} (hn:0<=l.nodes):(∃ i,i<(zax l l.nodes.toNat).size/\(zax l l.nodes.toNat)[i]! =x)↔V0 l x:=by
 rw [zhE]
 unfold V0 Lay.nd
 constructor
 ·rintro ⟨h1,h2,h3⟩; exact ⟨⟨h1,by omega⟩,h3⟩
 ·rintro ⟨⟨h1,h2⟩,h3⟩; exact ⟨h1,by omega,h3⟩
def Pen.word (p:Pen) (o n:Int):Wd:=⟨o,n,p.thread,p.tag⟩
theorem znr {p:Pen} (hp:PenOk p) {o n:Int} (ho:0<=o/\o<=65535) (hn:0<=n/\n<=65535):(p.word o n).Ok:=by
 have ht:=hp.t
 have hg:=hp.g
 exact ⟨by show 0<=o/\o<=65535; omega,by show 0<=n/\n<=65535; omega,by show 0<=p.thread/\p.thread<=8; omega,by show 0<=p.tag/\p.tag<=16777215; omega,fun h=>by have:p.thread=0:=h; omega⟩
structure VSt (l:Lay) (p:Pen) (ver0:Int->Int) (S:Int->Prop) (m m':M):Prop where
 size:m'.size=m.size
 yes:∀ x,S x->get m' (l.field x 1)=zee (p.word (ver0 x) (ver0 x+1))
 no:∀ j,(∀ x,S x->j≠l.field x 1)->get m' j=get m j
section
variable {W:Pt} {σ:Tr} {m:M} {ch:List Int} {ver0:Int->Int} (hW:W.Ok)
def Bump (W:Pt) (ch:List Int) (m:M) (x:Int):Prop:=W.l.field x 2∈ch/\((zae (gf W.l m x 2)).1.old=0\/(zae (gf W.l m x 2)).1.new=0)
def KV (W:Pt) (ch:List Int) (ver0:Int->Int) (m:M) (a:Acc):Prop :=
 if a.store=true then ∃ x,V0 W.l x/\W.N x/\Bump W ch m x/\a.cell=W.l.field x 1/\a.val=zee (W.p.word (ver0 x) (ver0 x+1)) else W.A2 a.cell
include hW
theorem zwq (h:Ag W σ m) (hz:m.size=W.l.cells) (hver:∀ x,V0 W.l x->zbx (gf W.l m x 1) (ver0 x)/\0<=ver0 x/\ver0 x<=60000) (hch:∀ x,V0 W.l x->W.l.field x 2∈ch->W.N x):∀ k,k<=(zax W.l W.l.nodes.toNat).size ->
  Ag W (zb4 W.l W.p ch (zax W.l W.l.nodes.toNat) k σ) (zb4 W.l W.p ch (zax W.l W.l.nodes.toNat) k m)/\Gr (KV W ch ver0 m) σ (zb4 W.l W.p ch (zax W.l W.l.nodes.toNat) k σ) /\
  VSt W.l W.p ver0 (fun x=>∃ i,i<k/\(zax W.l W.l.nodes.toNat)[i]! =x/\Bump W ch m x) m (zb4 W.l W.p ch (zax W.l W.l.nodes.toNat) k m)
 | 0,_=>⟨h,.refl,Z,fun x ⟨i,hi,_⟩=>absurd hi (Nat.not_lt_zero i),fun _ _=>Z⟩
 | k+1,hk=>by
  have hl:=hW.hl
  obtain ⟨h1,h2,h3⟩:=zwq h hz hver hch k (by omega)
  obtain ⟨d,hd⟩:∃ d,zax W.l W.l.nodes.toNat=d:=⟨_,rfl⟩
  have hn0:=(zaB hl).1
  have hV:∀ i,i<d.size->V0 W.l d[i]!:=fun i hi=>by rw [<-hd] at hi ⊢; exact (zno (by omega)).1 ⟨i,hi,Z⟩
  have hinj:∀ {i j},i<d.size->j<d.size->d[i]! =d[j]!->i=j:=fun {i j} hi hj e=>by rw [<-hd] at hi hj e; exact zd5 _ hi hj e
  rw [hd] at h1 h2 h3 hk ⊢
  rw [zb4,zb4]
  obtain ⟨τ,hτ⟩:∃ τ,zb4 W.l W.p ch d k σ=τ:=⟨_,rfl⟩
  obtain ⟨q,hq⟩:∃ q,zb4 W.l W.p ch d k m=q:=⟨_,rfl⟩
  rw [hτ] at h1 h2 ⊢
  rw [hq] at h1 h3 ⊢
  obtain ⟨x,hx⟩:∃ x,d[k]! =x:=⟨_,rfl⟩
  rw [hx]
  have hx0:V0 W.l x:=by rw [<-hx]; exact hV k (by omega)
  have f2:get q (W.l.field x 2)=get m (W.l.field x 2):=h3.no _ fun y hy e=>by
   obtain ⟨i,hi,rfl,_⟩:=hy
   have:=(zac hl hx0.1 (by decide) (hV i (by omega)).1 (by decide)).1 e
   omega
  have f1:get q (W.l.field x 1)=get m (W.l.field x 1):=h3.no _ fun y hy e=>by
   obtain ⟨i,hi,rfl,_⟩:=hy
   have:=(zac hl hx0.1 (by decide) (hV i (by omega)).1 (by decide)).1 e
   have:=hinj (i:=k) (j:=i) (by omega) (by omega) (by rw [hx]; exact this.1)
   omega
  have ext:∀ {P:Int->Prop},(∀ y,P y↔(∃ i,i<k/\d[i]! =y/\Bump W ch m y)\/(y=x/\Bump W ch m x))->∀ {q':M},q'.size=q.size->(Bump W ch m x->get q' (W.l.field x 1)=zee (W.p.word (ver0 x) (ver0 x+1)))->(∀ j,(Bump W ch m x->j≠W.l.field x 1)->get q' j=get q j)->VSt W.l W.p ver0 P m q':=fun {P} hP {q'} e1 e2 e3=>by
   refine ⟨e1.trans h3.size,fun y hy=>?_,fun j hj=>?_⟩
   ·rcases (hP y).1 hy with hy' | ⟨rfl,hb⟩
    ·rw [e3 _ fun hb e=>?_]
     ·exact h3.yes y hy'
     ·obtain ⟨i,hi,rfl,_⟩:=hy'
      have:=(zac hl (hV i (by omega)).1 (by decide) hx0.1 (by decide)).1 e
      have:=hinj (i:=i) (j:=k) (by omega) (by omega) (by rw [hx]; exact this.1)
      omega
    ·exact e2 hb
   ·rw [e3 j fun hb=>hj x ((hP x).2 (.inr ⟨Z,hb⟩))]
    exact h3.no j fun y hy=>hj y ((hP y).2 (.inl hy))
  have setP:∀ y,(∃ i,i<k+1/\d[i]! =y/\Bump W ch m y)↔(∃ i,i<k/\d[i]! =y/\Bump W ch m y)\/(y=x/\Bump W ch m x):=fun y=>by
   constructor
   ·rintro ⟨i,hi,e,hb⟩
    by_cases e2:i=k
    ·subst e2; rw [hx] at e; subst e; exact .inr ⟨Z,hb⟩
    ·exact .inl ⟨i,by omega,e,hb⟩
   ·rintro (⟨i,hi,e,hb⟩ | ⟨rfl,hb⟩)
    ·exact ⟨i,by omega,e,hb⟩
    ·exact ⟨k,by omega,hx,hb⟩
  unfold ziZ
  by_cases hc:W.l.field x 2∈ch
  ·rw [Zp hc,Zp hc]
   dsimp only
   have hN:=hch x hx0 hc
   have a2:=a2_f hN (f:=2) (by omega)
   have a1:=a2_f hN (f:=1) (by omega)
   have hg1:=h1.ld (W.l.field x 2)
   have gr1:Gr (KV W ch ver0 m) τ (MemLike.ld τ (W.l.field x 2)):=.ld _ fun _=>by unfold KV; rw [Zn Bool.false_ne_true]; exact a2
   rw [h1.get fun _=>a2,f2]
   have hpn:pnew (MemLike.ld τ (W.l.field x 2)) (W.l.field x 1)=pnew (MemLike.ld q (W.l.field x 2):M) (W.l.field x 1):=by unfold pnew; rw [hg1.get fun _=>a1]; rfl
   rw [hpn]
   by_cases hb:(zae (get m (W.l.field x 2))).1.old=0\/(zae (get m (W.l.field x 2))).1.new=0
   ·rw [Zp hb,Zp hb]
    have hbump:Bump W ch m x:=⟨hc,hb⟩
    obtain ⟨hv1,hv2,hv3⟩:=hver x hx0
    have hu:=hv1.ok
    unfold gf at hu
    rw [<-f1] at hu
    have hpv:IntKind.i64.wrap (pnew (MemLike.ld q (W.l.field x 2):M) (W.l.field x 1)+1)=ver0 x+1:=by
     show IntKind.i64.wrap ((zae (get q (W.l.field x 1))).1.new+1)=_
     rw [hu.2.2.1,zaU (by omega)]
    rw [hpv]
    have hw:=znr hW.hp (o:=ver0 x) (n:=ver0 x+1) (by omega) (by omega)
    have hto:W.p.to (ver0 x+1) (zae (get q (W.l.field x 1))).1=W.p.word (ver0 x) (ver0 x+1):=by
     unfold Pen.to Pen.word
     rw [Zp (.inl (by rw [hu.2.1]; have:=hW.hp.t; omega)),hu.2.2.1]
    have hg2:=hg1.ld (W.l.field x 1)
    have e1:get (MemLike.ld (MemLike.ld τ (W.l.field x 2)) (W.l.field x 1)) (W.l.field x 1)=get q (W.l.field x 1):=hg2.get fun _=>a1
    unfold Pen.write
    rw [e1]
    have e2:get (MemLike.ld (MemLike.ld q (W.l.field x 2)) (W.l.field x 1):M) (W.l.field x 1)=get q (W.l.field x 1):=rfl
    rw [e2,Zp hu.1,Zp hu.1,hto,Zp (zcc.2 hw),Zp (zcc.2 hw),zcT hw]
    have hg3:=hg2.ld (W.l.field x 1)
    have rng:=zbS hw
    have hb1:=zaL hl hx0.1 (f:=1) (by decide)
    refine ⟨hg3.st (v:=zee (W.p.word (ver0 x) (ver0 x+1))) fun _=>a1,h2.trans (((gr1.trans (.ld _ fun _=>?_)).trans (.ld _ fun _=>?_)).trans (.st _ _ fun _=>?_)),ext setP zaz (fun _=>?_) fun j hj=>zap (hj hbump)⟩
    ·unfold KV; rw [Zn Bool.false_ne_true]; exact a1
    ·unfold KV; rw [Zn Bool.false_ne_true]; exact a1
    ·unfold KV; rw [Zp Z]; exact ⟨x,hx0,hN,hbump,Z,Z⟩
    ·have hlt:W.l.field x 1<(q.size:Int):=by rw [h3.size,hz]; omega
     rw [zcJ rng,if_pos ⟨Z,by omega,hlt⟩]
   ·rw [Zn hb,Zn hb]
    exact ⟨hg1,h2.trans gr1,ext setP Z (fun c=>absurd c.2 hb) fun _ _=>Z⟩
  ·rw [Zn hc,Zn hc]
   exact ⟨h1,h2,ext setP Z (fun c=>absurd c.1 hc) fun _ _=>Z⟩
omit hW in
def KL (W:Pt) (d:Array Int) (but:List Int) (v:Int) (a:Acc):Prop:=a.store=true/\a.val=v/\∃ i,i<d.size/\¬d[i]!∈but/\a.cell=W.l.field d[i]! 0
structure LSt (l:Lay) (S:Int->Prop) (v:Int) (m m':M):Prop where
 size:m'.size=m.size
 yes:∀ x,S x->get m' (l.field x 0)=v
 no:∀ j,(∀ x,S x->j≠l.field x 0)->get m' j=get m j
theorem zsu (h:Ag W σ m) (hz:m.size=W.l.cells) {d:Array Int} {but:List Int} {v:Int} (hv:0<=v/\v<18446744073709551616) (hd:∀ i,i<d.size->W.N d[i]!):∀ k,k<=d.size ->
  Ag W (zbq W.l d but v k σ) (zbq W.l d but v k m)/\Gr (KL W d but v) σ (zbq W.l d but v k σ)/\LSt W.l (fun x=>∃ i,i<k/\d[i]! =x/\¬x∈but) v m (zbq W.l d but v k m)
 | 0,_=>⟨h,.refl,Z,fun x ⟨i,hi,_⟩=>absurd hi (Nat.not_lt_zero i),fun _ _=>Z⟩
 | k+1,hk=>by
  have hl:=hW.hl
  obtain ⟨h1,h2,h3⟩:=zsu h hz hv hd k (by omega)
  rw [zbq,zbq]
  have hN:=hd k (by omega)
  by_cases hb:d[k]!∈but
  ·rw [Zp hb,Zp hb]
   refine ⟨h1,h2,h3.size,fun x hx=>h3.yes x ?_,fun j hj=>h3.no j fun x ⟨i,hi,e⟩=>hj x ⟨i,by omega,e⟩⟩
   obtain ⟨i,hi,e,hn⟩:=hx
   refine ⟨i,?_,e,hn⟩
   rcases Nat.lt_or_ge i k with hlt | hge
   ·exact hlt
   ·have:i=k:=by omega
    subst this; rw [e] at hb; exact absurd hb hn
  ·rw [Zn hb,Zn hb]
   have a0:=a2_f hN (f:=0) (by omega)
   have hb0:=zaL hl hN.1 (f:=0) (by decide)
   refine ⟨h1.st fun _=>a0,h2.trans (.st _ _ fun _=>⟨Z,Z,k,by omega,hb,Z⟩),by rw [zaz]; exact h3.size,fun x hx=>?_,fun j hj=>?_⟩
   ·obtain ⟨i,hi,rfl,hn⟩:=hx
    rw [zcJ hv]
    by_cases e:W.l.field d[i]! 0=W.l.field d[k]! 0
    ·rw [if_pos ⟨e,by omega,by rw [h3.size,hz]; omega⟩]
    ·rw [Zn fun c=>e c.1]
     refine h3.yes _ ⟨i,?_,Z,hn⟩
     rcases Nat.lt_or_ge i k with hlt | hge
     ·exact hlt
     ·have:i=k:=by omega
      subst this; exact absurd Z e
   ·rw [zap (hj _ ⟨k,by omega,Z,hb⟩)]
    exact h3.no j fun x ⟨i,hi,e⟩=>hj x ⟨i,by omega,e⟩
theorem zrn (h:Ag W σ m) (hz:m.size=W.l.cells) (hT:W.p.thread<=W.l.T) {tag:Int} (hg:0<=tag/\tag<=16777215) (dn:Bool) :
  Ag W (za0 W.l W.p σ tag dn) (za0 W.l W.p m tag dn)/\(za0 W.l W.p σ tag dn).row=σ.row++#[⟨true,W.l.state W.p.thread,zaT tag dn⟩]/\(za0 W.l W.p m tag dn:M).size=m.size /\
  get (za0 W.l W.p m tag dn:M) (W.l.state W.p.thread)=zaT tag dn/\∀ j,j≠W.l.state W.p.thread->get (za0 W.l W.p m tag dn:M) j=get m j:=by
 have hl:=hW.hl
 have ht:=hW.hp.t
 have hs:=zcD hl (t:=W.p.thread) ⟨ht.1,hT⟩
 have ho:=zb7 hl
 have hh:W.l.heads=W.l.T+1+W.l.S * 7:=rfl
 unfold za0
 rw [Zp hg,Zp hg]
 refine ⟨h.st fun _=>.inr (.inr Z),?_,zaz,?_,fun j hj=>zap hj⟩
 ·rw [zkb,if_pos ⟨by omega,by rw [h.sz,hz]; omega⟩]
 ·rw [zcJ (zf8 hg dn),if_pos ⟨Z,by omega,by rw [hz]; omega⟩]
end
def zfy (n:Int):Int:=zee ⟨n,n,0,0⟩
theorem zjj {n:Int} (h:0<=n/\n<=65535):zbx (zfy n) n/\0<=zfy n/\zfy n<18446744073709551616:=by
 have hw:(⟨n,n,0,0⟩:Wd).Ok:=⟨h,h,(by show (0:Int)<=0/\(0:Int)<=8; decide),(by show (0:Int)<=0/\(0:Int)<=16777215; decide),fun _=>⟨Z,Z⟩⟩
 exact ⟨za1 hw,zbS hw⟩
def newW (v:Int):Int:=(zae v).1.new
theorem zwH {v:Int} (h:(zae v).2=true):0<=newW v/\newW v<=65535:=(zcg h).1.n
structure CSt (l:Lay) (ch:List Int) (S:Int->Prop) (m m':M):Prop where
 size:m'.size=m.size
 yes:∀ x f,S x->f=1\/f=2->l.field x f∈ch->get m' (l.field x f)=zfy (newW (get m (l.field x f)))
 no:∀ j,(∀ x f,S x->f=1\/f=2->l.field x f∈ch->j≠l.field x f)->get m' j=get m j
section
variable {W:Pt} {σ:Tr} {m:M} {ch:List Int} (hW:W.Ok)
def KC (W:Pt) (ch:List Int) (m:M) (a:Acc):Prop :=
 if a.store=true then ∃ x f,V0 W.l x/\W.N x/\(f=1\/f=2)/\W.l.field x f∈ch/\a.cell=W.l.field x f/\a.val=zfy (newW (get m (W.l.field x f))) else W.A2 a.cell
include hW
theorem zpY {τ:Tr} {q:M} (h:Ag W τ q) (hz:q.size=W.l.cells) {x f:Int} (hx:V0 W.l x) (hf:f=1\/f=2) (hu:W.l.field x f∈ch->(zae (get q (W.l.field x f))).2=true) (hch:W.l.field x f∈ch->W.N x) (hm:get q (W.l.field x f)=get m (W.l.field x f)) :
  Ag W (cleanC ch τ (W.l.field x f)) (cleanC ch q (W.l.field x f))/\Gr (KC W ch m) τ (cleanC ch τ (W.l.field x f))/\(cleanC ch q (W.l.field x f):M).size=q.size /\
  (W.l.field x f∈ch->get (cleanC ch q (W.l.field x f):M) (W.l.field x f)=zfy (newW (get m (W.l.field x f))))/\∀ j,(W.l.field x f∈ch->j≠W.l.field x f)->get (cleanC ch q (W.l.field x f):M) j=get q j:=by
 have hl:=hW.hl
 have hb:=zaL hl hx.1 (f:=f) (by omega)
 unfold cleanC
 by_cases hc:W.l.field x f∈ch
 ·rw [Zp hc,Zp hc]
  have hN:=hch hc
  have aA:=a2_f hN (f:=f) (by omega)
  have hu:=hu hc
  have nb:=zwH hu
  have hcr:0<=W.l.field x f/\W.l.field x f<q.size:=⟨by omega,by rw [hz]; omega⟩
  obtain ⟨e1,e2,e3⟩:=zgH hl hu hcr
  have pv:zee ⟨(zae (get q (W.l.field x f))).1.new,(zae (get q (W.l.field x f))).1.new,0,0⟩=zfy (newW (get m (W.l.field x f))):=by rw [<-hm]; rfl
  rw [pv] at e1
  have eτ:zbs τ (W.l.field x f)=st (ld τ (W.l.field x f)) (W.l.field x f) (zfy (newW (get m (W.l.field x f)))):=by
   have hg:get τ (W.l.field x f)=get q (W.l.field x f):=h.get fun _=>aA
   have hw:=zqZ hl nb
   unfold zbs
   rw [hg,Zp hu]
   have hw2:wofI (zae (get q (W.l.field x f))).1.new=⟨newW (get q (W.l.field x f)),newW (get q (W.l.field x f)),0,0⟩:=hw.1
   have hok:(wofI (zae (get q (W.l.field x f))).1.new).Ok:=hw.2
   rw [Zp (zcc.2 hok),zcT hok,hw2,hm]; rfl
  rw [eτ,e1]
  refine ⟨(h.ld _).st fun _=>aA,(Gr.ld _ fun _=>?_).trans (.st _ _ fun _=>?_),zaz,fun _=>?_,fun j hj=>zap (hj hc)⟩
  ·unfold KC; rw [Zn Bool.false_ne_true]; exact aA
  ·unfold KC; rw [Zp Z]; exact ⟨x,f,hx,hN,hf,hc,Z,Z⟩
  ·rw [zcJ (zjj (by rw [<-hm]; exact nb)).2,if_pos ⟨Z,hcr⟩]
 ·rw [Zn hc,Zn hc]
  exact ⟨h,.refl,Z,fun c=>absurd c hc,fun _ _=>Z⟩
theorem zt9 (h:Ag W σ m) (hz:m.size=W.l.cells) (hu:∀ x f,V0 W.l x->f=1\/f=2->(zae (gf W.l m x f)).2=true) (hch:∀ x f,V0 W.l x->f=1\/f=2->W.l.field x f∈ch->W.N x):∀ k,k<=(zax W.l W.l.nodes.toNat).size ->
  Ag W (cleanW W.l ch (zax W.l W.l.nodes.toNat) k σ) (cleanW W.l ch (zax W.l W.l.nodes.toNat) k m)/\Gr (KC W ch m) σ (cleanW W.l ch (zax W.l W.l.nodes.toNat) k σ) /\
  CSt W.l ch (fun x=>∃ i,i<k/\(zax W.l W.l.nodes.toNat)[i]! =x) m (cleanW W.l ch (zax W.l W.l.nodes.toNat) k m)
 | 0,_=>⟨h,.refl,Z,fun x f ⟨i,hi,_⟩=>absurd hi (Nat.not_lt_zero i),fun _ _=>Z⟩
 | k+1,hk=>by
  have hl:=hW.hl
  obtain ⟨h1,h2,h3⟩:=zt9 h hz hu hch k (by omega)
  obtain ⟨d,hd⟩:∃ d,zax W.l W.l.nodes.toNat=d:=⟨_,rfl⟩
  have hn0:=(zaB hl).1
  have hV:∀ i,i<d.size->V0 W.l d[i]!:=fun i hi=>by rw [<-hd] at hi ⊢; exact (zno (by omega)).1 ⟨i,hi,Z⟩
  have hinj:∀ {i j},i<d.size->j<d.size->d[i]! =d[j]!->i=j:=fun {i j} hi hj e=>by rw [<-hd] at hi hj e; exact zd5 _ hi hj e
  rw [hd] at h1 h2 h3 hk ⊢
  rw [cleanW,cleanW]
  obtain ⟨τ,hτ⟩:∃ τ,cleanW W.l ch d k σ=τ:=⟨_,rfl⟩
  obtain ⟨q,hq⟩:∃ q,cleanW W.l ch d k m=q:=⟨_,rfl⟩
  rw [hτ] at h1 h2 ⊢
  rw [hq] at h1 h3 ⊢
  obtain ⟨x,hx⟩:∃ x,d[k]! =x:=⟨_,rfl⟩
  rw [hx]
  have hx0:V0 W.l x:=by rw [<-hx]; exact hV k (by omega)
  have fs:∀ f,f=1\/f=2->get q (W.l.field x f)=get m (W.l.field x f):=fun f hf=>h3.no _ fun y g hy hg _ e=>by
   obtain ⟨i,hi,rfl⟩:=hy
   have:=(zac hl hx0.1 (by omega) (hV i (by omega)).1 (by omega)).1 e
   have:=hinj (i:=k) (j:=i) (by omega) (by omega) (by rw [hx]; exact this.1)
   omega
  have hqz:q.size=W.l.cells:=by rw [h3.size]; exact hz
  obtain ⟨a1,a2,a3,a4,a5⟩:=zpY hW (ch:=ch) (m:=m) h1 hqz hx0 (.inr rfl) (fun _=>by rw [fs 2 (.inr rfl)]; exact hu x 2 hx0 (.inr rfl)) (hch x 2 hx0 (.inr rfl)) (fs 2 (.inr rfl))
  have ne12:W.l.field x 1≠W.l.field x 2:=fun e=>by have:=(zac hl hx0.1 (by decide) hx0.1 (by decide)).1 e; omega
  have f1:get (cleanC ch q (W.l.field x 2):M) (W.l.field x 1)=get m (W.l.field x 1):=by rw [a5 _ fun _=>ne12]; exact fs 1 (.inl Z)
  obtain ⟨b1,b2,b3,b4,b5⟩:=zpY hW (ch:=ch) (m:=m) a1 (by rw [a3]; exact hqz) hx0 (.inl rfl) (fun _=>by rw [f1]; exact hu x 1 hx0 (.inl rfl)) (hch x 1 hx0 (.inl rfl)) f1
  refine ⟨b1,(h2.trans a2).trans b2,(b3.trans a3).trans h3.size,fun y f hy hf hc=>?_,fun j hj=>?_⟩
  ·obtain ⟨i,hi,rfl⟩:=hy
   by_cases e:i=k
   ·subst e
    rw [hx] at hc ⊢
    rcases hf with rfl | rfl
    ·exact b4 hc
    ·rw [b5 _ fun _=>ne12.symm]; exact a4 hc
   ·have ne:∀ g,g=1\/g=2->W.l.field d[i]! f≠W.l.field x g:=fun g hg e2=>by
     have:=(zac hl (hV i (by omega)).1 (by omega) hx0.1 (by omega)).1 e2
     exact e (hinj (by omega) (by omega) (by rw [hx]; exact this.1))
    rw [b5 _ fun _=>ne 1 (.inl Z),a5 _ fun _=>ne 2 (.inr Z)]
    exact h3.yes _ f ⟨i,by omega,Z⟩ hf hc
  ·rw [b5 j fun hc=>hj x 1 ⟨k,by omega,hx⟩ (.inl Z) hc,a5 j fun hc=>hj x 2 ⟨k,by omega,hx⟩ (.inr Z) hc]
   exact h3.no j fun y f ⟨i,hi,e⟩ hf hc=>hj y f ⟨i,by omega,e⟩ hf hc
end
def Stc (row:Array Acc) (c:Int) (i:Nat):Prop:=row[i]!.store=true/\row[i]!.cell=c
structure OQ (row:Array Acc) (c:Int) (n:Nat) (q:List (Int×Int)×List (Int×Int)):Prop where
 no:mget q.1 c=none->mget q.2 c=none/\∀ k,k<n->¬Stc row c k
 yes:∀ a,mget q.1 c=some a->∃ i j:Nat,a=(i:Int)/\mget q.2 c=some (j:Int)/\i<=j/\j<n/\Stc row c i/\Stc row c j/\∀ k,k<n->Stc row c k->i<=k/\k<=j
section
variable {row:Array Acc} {c c':Int} {q:List (Int×Int)×List (Int×Int)}
theorem zgK (h:c'≠c):∀ n,mget (zdO row c n q).1 c'=mget q.1 c'/\mget (zdO row c n q).2 c'=mget q.2 c'
 | 0=>⟨Z,Z⟩
 | n+1=>by
  have ih:=zgK h n
  rw [zdO]
  split
  ·constructor
   ·dsimp only
    split
    ·exact ih.1
    ·rw [mget_put,Zn h]; exact ih.1
   ·dsimp only
    rw [mget_put,Zn h]; exact ih.2
  ·exact ih
theorem zpn (h0:mget q.1 c=none) (h1:mget q.2 c=none):∀ n,OQ row c n (zdO row c n q)
 | 0=>⟨fun _=>⟨h1,fun k hk=>absurd hk (Nat.not_lt_zero k)⟩,fun a ha=>by have:mget q.1 c=some a:=ha; rw [h0] at this; cases this⟩
 | n+1=>by
  have ih:=zpn h0 h1 n
  rw [zdO]
  by_cases hs:row[n]!.store=true/\row[n]!.cell=c
  ·rw [Zp hs]
   cases hq:mget (zdO row c n q).1 c with
   | none =>
    rw [Zn (by simp)]
    refine ⟨fun h=>?_,fun a ha=>?_⟩
    ·dsimp only at h; rw [mget_put,Zp rfl] at h; cases h
    ·dsimp only at ha; rw [mget_put,Zp Z] at ha
     cases ha
     refine ⟨n,n,Z,by dsimp only; rw [mget_put,Zp Z],Nat.le_refl _,Nat.lt_succ_self _,hs,hs,fun k hk hk2=>?_⟩
     by_cases e:k=n
     ·subst e; exact ⟨Nat.le_refl _,Nat.le_refl _⟩
     ·exact absurd hk2 ((ih.no hq).2 k (by omega))
   | some a =>
    rw [Zp (by simp)]
    refine ⟨fun h=>?_,fun a' ha=>?_⟩
    ·dsimp only at h; rw [hq] at h; cases h
    ·dsimp only at ha
     obtain ⟨i,j,e1,e2,e3,e4,e5,e6,e7⟩:=ih.yes a' ha
     refine ⟨i,n,e1,by dsimp only; rw [mget_put,Zp Z],by omega,Nat.lt_succ_self _,e5,hs,fun k hk hk2=>?_⟩
     by_cases e:k=n
     ·subst e; exact ⟨by omega,Nat.le_refl _⟩
     ·have:=e7 k (by omega) hk2; omega
  ·rw [Zn hs]
   refine ⟨fun h=>⟨(ih.no h).1,fun k hk hk2=>?_⟩,fun a ha=>?_⟩
   ·by_cases e:k=n
    ·subst e; exact hs hk2
    ·exact (ih.no h).2 k (by omega) hk2
   ·obtain ⟨i,j,e1,e2,e3,e4,e5,e6,e7⟩:=ih.yes a ha
    refine ⟨i,j,e1,e2,e3,by omega,e5,e6,fun k hk hk2=>?_⟩
    by_cases e:k=n
    ·subst e; exact absurd hk2 hs
    ·exact e7 k (by omega) hk2
theorem zpm {l:Lay} (hl:l.Ok) {pt:Nat} {d:Array Int} (hd:∀ i,i<d.size->l.nd d[i]!) (hinj:∀ i j,i<d.size->j<d.size->d[i]! =d[j]!->i=j):∀ m,m<=d.size ->
  (∀ j,j<m->OQ row (l.field d[j]! 2) pt (zgJ l row pt d m))/\∀ c,(∀ j,j<m->c≠l.field d[j]! 2)->mget (zgJ l row pt d m).1 c=none/\mget (zgJ l row pt d m).2 c=none
 | 0,_=>⟨fun j hj=>absurd hj (Nat.not_lt_zero j),fun c _=>⟨Z,Z⟩⟩
 | m+1,hm=>by
  obtain ⟨h1,h2⟩:=zpm hl hd hinj m (by omega)
  have ne:∀ j,j<m->l.field d[j]! 2≠l.field d[m]! 2:=fun j hj e=>by
   have:=(zac hl (hd j (by omega)) (by decide) (hd m (by omega)) (by decide)).1 e
   have:=hinj j m (by omega) (by omega) this.1
   omega
  rw [zgJ]
  refine ⟨fun j hj=>?_,fun c hc=>?_⟩
  ·by_cases e:j=m
   ·subst e
    have:=h2 (l.field d[j]! 2) fun k hk e=>ne k hk e.symm
    exact zpn this.1 this.2 pt
   ·have o:=zgK (row:=row) (q:=zgJ l row pt d m) (ne j (by omega)) pt
    have k:=h1 j (by omega)
    exact ⟨fun h=>by rw [o.1] at h; rw [o.2]; exact k.no h,fun a ha=>by rw [o.1] at ha; rw [o.2]; exact k.yes a ha⟩
  ·have o:=zgK (row:=row) (q:=zgJ l row pt d m) (hc m (Nat.lt_succ_self m)) pt
   have k:=h2 c fun j hj=>hc j (by omega)
   rw [o.1,o.2]; exact k
end
structure OQs (l:Lay) (row:Array Acc) (pt:Nat) (q:List (Int×Int)×List (Int×Int)):Prop where
 sh:∀ x,V0 l x->OQ row (l.field x 2) pt q
 all:∀ c a,mget q.1 c=some a->∃ i j:Nat,a=(i:Int)/\mget q.2 c=some (j:Int)/\i<=j/\j<pt/\Stc row c i/\Stc row c j/\∀ k,k<pt->Stc row c k->i<=k/\k<=j
theorem zse {l:Lay} (hl:l.Ok) {row:Array Acc} {pt:Nat}:OQs l row pt (zgJ l row pt (zax l l.nodes.toNat) (zax l l.nodes.toNat).size):=by
 have hn:=(zaB hl).1
 have hd:∀ i,i<(zax l l.nodes.toNat).size->V0 l (zax l l.nodes.toNat)[i]!:=fun i hi=>(zno (by omega)).1 ⟨i,hi,Z⟩
 obtain ⟨h1,h2⟩:=zpm hl (row:=row) (pt:=pt) (fun i hi=>(hd i hi).1) (fun i j hi hj e=>zd5 _ hi hj e) _ (Nat.le_refl (zax l l.nodes.toNat).size)
 refine ⟨fun x hx=>?_,fun c a ha=>?_⟩
 ·obtain ⟨i,hi,rfl⟩:=(zno (by omega)).2 hx
  exact h1 i hi
 ·by_cases h:∃ j,j<(zax l l.nodes.toNat).size/\c=l.field (zax l l.nodes.toNat)[j]! 2
  ·obtain ⟨j,hj,rfl⟩:=h
   exact (h1 j hj).yes a ha
  ·have:=(h2 c fun j hj e=>h ⟨j,hj,e⟩).1
   rw [this] at ha; cases ha
theorem zsl {m m':M} (hz:m.size=m'.size) (h:∀ j:Int,get m j=get m' j):m=m':=by
 refine Array.ext hz fun i h1 h2=>?_
 have e:=h (i:Int)
 rw [zf3,zf3,if_pos ⟨by omega,by omega⟩,if_pos ⟨by omega,by omega⟩] at e
 have t:((i:Int)).toNat=i:=by omega
 rw [t] at e
 rw [getElem!_pos m i h1,getElem!_pos m' i h2] at e
 exact UInt64.toNat_inj.1 (by exact_mod_cast e)
section
variable {l:Lay} {row:Array Acc} {pt:Nat} {q:List (Int×Int)×List (Int×Int)}
def Win (q:List (Int×Int)×List (Int×Int)) (c:Int) (i:Nat):Prop:=∃ a b:Nat,mget q.1 c=some (a:Int)/\mget q.2 c=some (b:Int)/\a<i/\i<=b
theorem zgW (hq:OQs l row pt q) {c:Int} {i:Nat}:zgG q c (i:Int)=true↔∃ a b:Nat,mget q.1 c=some (a:Int)/\mget q.2 c=some (b:Int)/\a<=i/\i<b:=by
 unfold zgG
 cases h:mget q.1 c with
 | none=>exact ⟨fun h=>(by cases h),fun ⟨a,b,h,_⟩=>(by cases h)⟩
 | some a =>
  obtain ⟨i',j',e1,e2,_⟩:=hq.all c a h
  subst e1
  dsimp only
  rw [e2,Bool.and_eq_true,decide_eq_true_iff,decide_eq_true_iff]
  show (i':Int)<=i/\(i:Int)<(j':Int)↔_
  constructor
  ·rintro ⟨h1,h2⟩; exact ⟨i',j',rfl,rfl,by omega,by omega⟩
  ·rintro ⟨a,b,h1,h2,h3,h4⟩
   cases h1; cases h2
   exact ⟨by omega,by omega⟩
theorem zgX {a:Acc} {m:M}:(acc1 a m).size=m.size:=by
 unfold acc1
 split
 ·exact zaz
 ·rfl
theorem zdC:∀ {r:List Acc} {m:M},(runM m r).size=m.size
 | [],_=>rfl
 | a :: r,m=>by rw [runM,zdC,zgX]
theorem zeI {a:Acc} {m:M} {j:Int} (h:a.store=true->j≠a.cell):get (acc1 a m) j=get m j:=by
 unfold acc1
 split
 ·next hs=>exact zap (h hs)
 ·rfl
theorem zpk (hq:OQs l row pt q) {m:M} (hok:okM m row.toList):∀ i,i<=row.size ->
  okM m (onceO row pt q i).1.toList/\∀ c,¬Win q c i->get (runM m (onceO row pt q i).1.toList) c=get (runM m (row.toList.take i)) c
 | 0,_=>⟨Zt,fun _ _=>Z⟩
 | i+1,hi=>by
  obtain ⟨h1,h2⟩:=zpk hq hok i (by omega)
  have hil:i<row.toList.length:=by simp; omega
  have ei:row.toList[i]=row[i]!:=by rw [getElem!_pos row i (by omega)]; simp
  have et:row.toList.take (i+1)=row.toList.take i++[row[i]!]:=by rw [<-ei]; exact (List.take_append_getElem hil).symm
  have hacc:accG row[i]! (runM m (row.toList.take i))=true:=by
   have e:row.toList=row.toList.take i++row[i]! :: row.toList.drop (i+1):=by
    rw [<-ei,<-List.drop_eq_getElem_cons hil,List.take_append_drop]
   rw [e,zfg] at hok
   exact hok.2.1
  rw [et,zcP]
  show okM m (onceO row pt q (i+1)).1.toList/\∀ c,¬Win q c (i+1)->_=get (acc1 row[i]! (runM m (row.toList.take i))) c
  rw [onceO]
  dsimp only
  by_cases hs:zgG q row[i]!.cell (i:Int)=true
  ·rw [Zp hs]
   refine ⟨h1,fun c hc=>?_⟩
   obtain ⟨a,b,e1,e2,e3,e4⟩:=(zgW hq).1 hs
   have ne:c≠row[i]!.cell:=fun e=>hc ⟨a,b,by rw [e]; exact e1,by rw [e]; exact e2,by omega,by omega⟩
   rw [zeI fun _=>ne]
   refine h2 c fun ⟨a',b',w1,w2,w3,w4⟩=>?_
   obtain ⟨i',j',f1,f2,f3,f4,f5,f6,f7⟩:=hq.all c _ w1
   have ej:(j':Int)=b':=by rw [w2] at f2; cases f2; rfl
   refine hc ⟨a',b',w1,w2,by omega,?_⟩
   rcases Nat.lt_or_ge i b' with hlt | hge
   ·exact hlt
   ·have:i=j':=by omega
    subst this
    exact absurd f6.2.symm ne
  ·rw [Zn hs]
   have key:row[i]!.store=false->get (runM m (onceO row pt q i).1.toList) row[i]!.cell=get (runM m (row.toList.take i)) row[i]!.cell:=fun hld=>by
    refine h2 _ fun ⟨a,b,w1,w2,w3,w4⟩=>hs ((zgW hq).2 ⟨a,b,w1,w2,by omega,?_⟩)
    obtain ⟨i',j',f1,f2,f3,f4,f5,f6,f7⟩:=hq.all _ _ w1
    have ej:(j':Int)=b:=by rw [w2] at f2; cases f2; rfl
    rcases Nat.lt_or_ge i b with hlt | hge
    ·exact hlt
    ·have:i=j':=by omega
     subst this
     rw [f6.1] at hld; cases hld
   refine ⟨?_,fun c hc=>?_⟩
   ·rw [Array.toList_append,zfg]
    refine ⟨h1,?_,Zt⟩
    by_cases hst:row[i]!.store=true
    ·exact zuF hst
    ·have hst:row[i]!.store=false:=by simpa using hst
     refine zuE ?_
     rw [key hst]
     unfold accG at hacc
     rw [hst,Bool.false_or,decide_eq_true_iff] at hacc
     exact hacc
   ·rw [Array.toList_append,zcP]
    show get (acc1 row[i]! (runM m (onceO row pt q i).1.toList)) c=_
    by_cases hst:row[i]!.store=true
    ·by_cases ec:c=row[i]!.cell
     ·unfold acc1
      rw [Zp hst,Zp hst,zhQ,zhQ,zdC,zdC]
      by_cases hb:c=row[i]!.cell/\0<=row[i]!.cell/\row[i]!.cell<(m.size:Int)
      ·rw [Zp hb,Zp hb]
      ·have:¬(0<=c/\c<(m.size:Int)):=fun k=>hb ⟨ec,by rw [<-ec]; exact k.1,by rw [<-ec]; exact k.2⟩
       have oo:∀ τ:M,τ.size=m.size->get τ c=0:=fun τ hτ=>by rw [zf3,Zn (by rw [hτ]; exact this)]
       rw [Zn hb,Zn hb,oo _ zdC,oo _ zdC]
     ·rw [zeI fun _=>ec,zeI fun _=>ec]
      refine h2 c fun ⟨a',b',w1,w2,w3,w4⟩=>?_
      obtain ⟨i',j',f1,f2,f3,f4,f5,f6,f7⟩:=hq.all c _ w1
      have ej:(j':Int)=b':=by rw [w2] at f2; cases f2; rfl
      refine hc ⟨a',b',w1,w2,by omega,?_⟩
      rcases Nat.lt_or_ge i b' with hlt | hge
      ·exact hlt
      ·have:i=j':=by omega
       subst this
       exact absurd f6.2.symm ec
    ·have hst:row[i]!.store=false:=by simpa using hst
     rw [<-zuG hst,<-zuG hst]
     refine h2 c fun ⟨a',b',w1,w2,w3,w4⟩=>?_
     obtain ⟨i',j',f1,f2,f3,f4,f5,f6,f7⟩:=hq.all c _ w1
     have ej:(j':Int)=b':=by rw [w2] at f2; cases f2; rfl
     refine hc ⟨a',b',w1,w2,by omega,?_⟩
     rcases Nat.lt_or_ge i b' with hlt | hge
     ·exact hlt
     ·have:i=j':=by omega
      subst this
      rw [f6.1] at hst; cases hst
theorem zpj:∀ i,i<=row.size->(onceO row pt q i).1.toList.Sublist (row.toList.take i)
 | 0,_=>by rw [onceO,List.take_zero]; exact .slnil
 | i+1,hi=>by
  have ih:=zpj i (by omega)
  have hil:i<row.toList.length:=by simp; omega
  have ei:row.toList[i]=row[i]!:=by rw [getElem!_pos row i (by omega)]; simp
  rw [show row.toList.take (i+1)=row.toList.take i++[row[i]!] by rw [<-ei]; exact (List.take_append_getElem hil).symm,onceO]
  dsimp only
  split
  ·exact ih.trans (List.sublist_append_left _ _)
  ·rw [Array.toList_append]; exact ih.append (.refl _)
theorem zmG (hq:OQs l row pt q):∀ i,pt<=i->i<=row.size->(onceO row pt q i).1.toList=(onceO row pt q pt).1.toList++(row.toList.take i).drop pt/\(pt<i->(onceO row pt q i).2=((onceO row pt q pt).1.toList.length:Int))
 | 0,h,_=>by
  have:pt=0:=by omega
  subst this
  exact ⟨by simp,fun h=>absurd h (Nat.lt_irrefl _)⟩
 | i+1,h,hi=>by
  by_cases e:pt=i+1
  ·subst e; refine ⟨by rw [List.drop_eq_nil_of_le (by rw [List.length_take]; exact Nat.min_le_left _ _)]; simp,fun h=>absurd h (Nat.lt_irrefl _)⟩
  ·obtain ⟨h1,h2⟩:=zmG hq i (by omega) (by omega)
   have hil:i<row.toList.length:=by simp; omega
   have ei:row.toList[i]=row[i]!:=by rw [getElem!_pos row i (by omega)]; simp
   have hs:¬zgG q row[i]!.cell (i:Int)=true:=fun hs=>by
    obtain ⟨a,b,w1,w2,w3,w4⟩:=(zgW hq).1 hs
    obtain ⟨i',j',f1,f2,f3,f4,_⟩:=hq.all _ _ w1
    have ej:(j':Int)=b:=by rw [w2] at f2; cases f2; rfl
    omega
   rw [show row.toList.take (i+1)=row.toList.take i++[row[i]!] by rw [<-ei]; exact (List.take_append_getElem hil).symm,onceO]
   dsimp only
   rw [Zn hs]
   refine ⟨?_,fun _=>?_⟩
   ·rw [Array.toList_append,h1,List.append_assoc,List.drop_append_of_le_length (by simp; omega)]
   ·split
    ·next ep=>subst ep; simp
    ·next ep=>exact h2 (by omega)
def isSt (c:Int) (a:Acc):Bool:=a.store && decide (a.cell=c)
theorem zpl {x:Int} (hq:OQs l row pt q) (hx:V0 l x):∀ i,i<=pt->(onceO row pt q i).1.toList.countP (isSt (l.field x 2))<=1/\(∀ b:Nat,mget q.2 (l.field x 2)=some (b:Int)->i<=b->(onceO row pt q i).1.toList.countP (isSt (l.field x 2))=0)
 | 0,_=>⟨Nat.zero_le _,fun _ _ _=>Z⟩
 | i+1,hi=>by
  obtain ⟨h1,h2⟩:=zpl hq hx i (by omega)
  rw [onceO]
  dsimp only
  split
  ·exact ⟨h1,fun b hb hib=>h2 b hb (by omega)⟩
  ·next hs =>
   rw [Array.toList_append,List.countP_append]
   have o:=hq.sh x hx
   by_cases hst:Stc row (l.field x 2) i
   ·have e1:List.countP (isSt (l.field x 2)) [row[i]!]=1:=by
     have:isSt (l.field x 2) row[i]! =true:=by unfold isSt; rw [hst.1,decide_eq_true hst.2]; rfl
     rw [List.countP_cons,this]; rfl
    show _+List.countP (isSt (l.field x 2)) [row[i]!]<=1/\∀ b:Nat,_->_->_+List.countP (isSt (l.field x 2)) [row[i]!]=0
    rw [e1]
    cases hm:mget q.1 (l.field x 2) with
    | none=>exact absurd hst ((o.no hm).2 i (by omega))
    | some a =>
     obtain ⟨i',j',f1,f2,f3,f4,f5,f6,f7⟩:=o.yes a hm
     subst f1
     have k:=f7 i (by omega) hst
     have ej:i=j':=by
      rcases Nat.lt_or_ge i j' with hlt | hge
      ·exact absurd ((zgW hq).2 ⟨i',j',by rw [hst.2]; exact hm,by rw [hst.2]; exact f2,k.1,hlt⟩) hs
      ·omega
     subst ej
     refine ⟨by rw [h2 i f2 (Nat.le_refl _)]; exact Nat.le_refl _,fun b hb hib=>?_⟩
     rw [f2] at hb; cases hb; omega
   ·have e0:List.countP (isSt (l.field x 2)) [row[i]!]=0:=by
     have:isSt (l.field x 2) row[i]! =false:=by
      unfold isSt
      by_cases a:row[i]!.store=true
      ·rw [a,decide_eq_false fun c=>hst ⟨a,c⟩]; rfl
      ·rw [show row[i]!.store=false by simpa using a]; rfl
     rw [List.countP_cons,this]; rfl
    show _+List.countP (isSt (l.field x 2)) [row[i]!]<=1/\∀ b:Nat,_->_->_+List.countP (isSt (l.field x 2)) [row[i]!]=0
    rw [e0]
    exact ⟨h1,fun b hb hib=>h2 b hb (by omega)⟩
end
structure Once (l:Lay) (row:Array Acc) (pt:Nat) (A:List Acc):Prop where
 eq:(zgL l row pt).1.toList=A++row.toList.drop pt
 at_:(zgL l row pt).2=(A.length:Int)
 sub:A.Sublist (row.toList.take pt)
 ok:∀ m,okM m row.toList->okM m A/\runM m A=runM m (row.toList.take pt)
 one:∀ x,V0 l x->A.countP (isSt (l.field x 2))<=1
theorem zqv {l:Lay} (hl:l.Ok) {row:Array Acc} {pt:Nat} (hp:pt<row.size):∃ A,Once l row pt A:=by
 have hq:=zse hl (row:=row) (pt:=pt)
 obtain ⟨q,e⟩:∃ q,zgJ l row pt (zax l l.nodes.toNat) (zax l l.nodes.toNat).size=q:=⟨_,rfl⟩
 rw [e] at hq
 have d:=zmG hq row.size (by omega) (Nat.le_refl _)
 have tk:row.toList.take row.size=row.toList:=List.take_of_length_le (by simp)
 refine ⟨(onceO row pt q pt).1.toList,?_,?_,zpj pt (by omega),fun m hok=>?_,fun x hx=>(zpl hq hx pt (Nat.le_refl _)).1⟩
 ·unfold zgL; rw [e,d.1,tk]
 ·unfold zgL; rw [e]; exact d.2 hp
 ·obtain ⟨h1,h2⟩:=zpk hq hok pt (by omega)
  refine ⟨h1,zsl (by rw [zdC,zdC]) fun j=>h2 j fun ⟨a,b,w1,w2,w3,w4⟩=>?_⟩
  obtain ⟨i',j',f1,f2,f3,f4,_⟩:=hq.all _ _ w1
  have ej:(j':Int)=b:=by rw [w2] at f2; cases f2; rfl
  omega
theorem Once.all {l:Lay} {row:Array Acc} {pt:Nat} {A:List Acc} (h:Once l row pt A) {m:M} (hok:okM m row.toList):okM m (zgL l row pt).1.toList/\runM m (zgL l row pt).1.toList=runM m row.toList:=by
 obtain ⟨h1,h2⟩:=h.ok m hok
 have e:row.toList=row.toList.take pt++row.toList.drop pt:=(List.take_append_drop _ _).symm
 rw [h.eq,zfg,zcP,h2]
 rw [e,zfg] at hok
 refine ⟨⟨h1,hok.2⟩,?_⟩
 conv=>rhs; rw [e,zcP]
def KB (W:Pt) (ver:Int->Int) (held rs:Array Int) (a:Acc):Prop:=W.A2 a.cell/\(a.store=true->a.cell≠W.l.state W.p.thread /\
 (∀ x,V0 W.l x->a.cell=W.l.field x 2->(∃ q,zae a.val=(⟨W.par0 x,q,W.p.thread,W.p.tag⟩,true))/\0<=a.val/\a.val<18446744073709551616) /\
 (∀ x,V0 W.l x->a.cell=W.l.field x 1->a.val=zee (W.p.word (ver x) (ver x+1))) /\
 ∀ x,W.l.nd x->a.cell=W.l.field x 0->x∈rs.toList/\¬x∈held.toList/\a.val=W.p.thread)
def KE (W:Pt) (par' ver':Int->Int) (a:Acc):Prop:=W.A2 a.cell/\(a.store=true->∃ x,V0 W.l x/\W.N x/\(a.cell=W.l.field x 2/\a.val=zfy (par' x)\/a.cell=W.l.field x 1/\a.val=zfy (ver' x)))
def KX (W:Pt) (held rs:Array Int) (a:Acc):Prop:=W.A2 a.cell/\(a.store=true->∃ x,W.N x/\x∈held.toList/\¬x∈rs.toList/\a.cell=W.l.field x 0/\a.val=65535)
def OldW (W:Pt) (o v:Int):Prop:=zbx v o\/∃ q,zae v=(⟨o,q,W.p.thread,W.p.tag⟩,true)
def NewW (W:Pt) (n v:Int):Prop:=zbx v n\/∃ q,zae v=(⟨q,n,W.p.thread,W.p.tag⟩,true)
structure IB (W:Pt) (ver:Int->Int) (τ:M):Prop where
 size:τ.size=W.l.cells
 par:∀ x,V0 W.l x->W.N x->OldW W (W.par0 x) (gf W.l τ x 2)
 vr:∀ x,V0 W.l x->W.N x->OldW W (ver x) (gf W.l τ x 1)
 st:get τ (W.l.state W.p.thread)=zaT W.p.tag false
structure IE (W:Pt) (par' ver':Int->Int) (τ:M):Prop where
 size:τ.size=W.l.cells
 par:∀ x,V0 W.l x->W.N x->NewW W (par' x) (gf W.l τ x 2)
 vr:∀ x,V0 W.l x->W.N x->NewW W (ver' x) (gf W.l τ x 1)
 st:get τ (W.l.state W.p.thread)=zaT W.p.tag true
section
variable {W:Pt} {ver par' ver':Int->Int} {held rs:Array Int} {τ:M} (hW:W.Ok) (hT:W.p.thread<=W.l.T)
theorem zpG {a:Acc} {j:Int} (hv:a.store=true->0<=a.val/\a.val<18446744073709551616) (hj:0<=j/\j<(τ.size:Int)):get (acc1 a τ) j=if a.store=true/\a.cell=j then a.val else get τ j:=by
 unfold acc1
 by_cases hs:a.store=true
 ·rw [Zp hs,zcJ (hv hs)]
  by_cases e:a.cell=j
  ·rw [if_pos ⟨e.symm,by omega,by omega⟩,if_pos ⟨hs,e⟩]
  ·rw [Zn fun c=>e c.1.symm,Zn fun c=>e c.2]
 ·rw [Zn hs,Zn fun c=>hs c.1]
include hW
omit hW in
theorem zdh (hW:W.Ok) (hT:W.p.thread<=W.l.T):0<=W.l.state W.p.thread/\W.l.state W.p.thread<W.l.cells/\∀ x f,W.l.nd x->(0<=f/\f<7)->W.l.field x f≠W.l.state W.p.thread:=by
 have hl:=hW.hl
 have ht:=hW.hp.t
 have hs:=zcD hl (t:=W.p.thread) ⟨ht.1,hT⟩
 have ho:=zb7 hl
 have hh:W.l.heads=W.l.T+1+W.l.S * 7:=rfl
 refine ⟨by omega,by omega,fun x f hx hf e=>?_⟩
 have hb:=zaL hl hx hf
 omega
theorem OldW.acc {a:Acc} (hz:τ.size=W.l.cells) {x f o:Int} (hx:V0 W.l x) (hf:0<=f/\f<7) (h:OldW W o (gf W.l τ x f)) (ha:a.store=true->a.cell=W.l.field x f->OldW W o a.val/\0<=a.val/\a.val<18446744073709551616):OldW W o (gf W.l (acc1 a τ) x f):=by
 have hb:=zaL hW.hl hx.1 hf
 by_cases hs:a.store=true/\a.cell=W.l.field x f
 ·obtain ⟨h1,h2⟩:=ha hs.1 hs.2
  unfold gf
  rw [zpG (fun _=>h2) ⟨by omega,by rw [hz]; omega⟩,Zp hs]
  exact h1
 ·unfold gf; rw [zeI fun h1 e=>hs ⟨h1,e.symm⟩]; exact h
theorem IB.step {a:Acc} (h:IB W ver τ) (hT:W.p.thread<=W.l.T) (hver:∀ x,V0 W.l x->0<=ver x/\ver x<=60000) (ha:KB W ver held rs a):IB W ver (acc1 a τ):=by
 refine ⟨by rw [zgX]; exact h.size,fun x hx hN=>OldW.acc hW h.size hx (by decide) (h.par x hx hN) fun hs e=>?_,fun x hx hN=>OldW.acc hW h.size hx (by decide) (h.vr x hx hN) fun hs e=>?_,?_⟩
 ·obtain ⟨h1,h2⟩:=(ha.2 hs).2.1 x hx e
  exact ⟨.inr h1,h2⟩
 ·have e:=(ha.2 hs).2.2.1 x hx e
  have hv:=hver x hx
  have hw:=znr hW.hp (o:=ver x) (n:=ver x+1) (by omega) (by omega)
  rw [e]
  exact ⟨.inr ⟨ver x+1,za1 hw⟩,zbS hw⟩
 ·rw [zeI fun hs e=>(ha.2 hs).1 e.symm]; exact h.st
theorem IB.run (hT:W.p.thread<=W.l.T) (hver:∀ x,V0 W.l x->0<=ver x/\ver x<=60000):∀ {r:List Acc} {τ:M},IB W ver τ->(∀ a∈r,KB W ver held rs a)->IB W ver (runM τ r)
 | [],_,h,_=>h
 | a :: r,τ,h,hr=>IB.run (r:=r) hT hver (h.step hW hT hver (hr a List.mem_cons_self)) fun b hb=>hr b (List.mem_cons_of_mem _ hb)
theorem IE.step {a:Acc} (h:IE W par' ver' τ) (hT:W.p.thread<=W.l.T) (hb:∀ x,V0 W.l x->W.N x->(0<=par' x/\par' x<=65535)/\0<=ver' x/\ver' x<=65535) (ha:KE W par' ver' a):IE W par' ver' (acc1 a τ):=by
 have hl:=hW.hl
 have hsc:=zdh hW hT
 have key:∀ x f n,V0 W.l x->(f=1\/f=2)->W.N x->NewW W n (gf W.l τ x f)->(a.store=true->a.cell=W.l.field x f->a.val=zfy n/\0<=n/\n<=65535)->NewW W n (gf W.l (acc1 a τ) x f):=fun x f n hx hf hN h0 h1=>by
  have hb:=zaL hl hx.1 (f:=f) (by omega)
  by_cases hs:a.store=true/\a.cell=W.l.field x f
  ·obtain ⟨e,hn⟩:=h1 hs.1 hs.2
   have p:=zjj hn
   unfold gf
   rw [zpG (fun _=>by rw [e]; exact p.2) ⟨by omega,by rw [h.size]; omega⟩,Zp hs,e]
   exact .inl p.1
  ·unfold gf; rw [zeI fun h1 e=>hs ⟨h1,e.symm⟩]; exact h0
 refine ⟨by rw [zgX]; exact h.size,fun x hx hN=>key x 2 _ hx (.inr Z) hN (h.par x hx hN) fun hs e=>?_,fun x hx hN=>key x 1 _ hx (.inl Z) hN (h.vr x hx hN) fun hs e=>?_,?_⟩
 ·obtain ⟨y,hy,hyN,h1 | h1⟩:=ha.2 hs
  ·have:=(zac hl hx.1 (by decide) hy.1 (by decide)).1 (e.symm.trans h1.1)
   obtain ⟨rfl,_⟩:=this
   exact ⟨h1.2,(hb x hx hN).1⟩
  ·have:=(zac hl hx.1 (by decide) hy.1 (by decide)).1 (e.symm.trans h1.1)
   omega
 ·obtain ⟨y,hy,hyN,h1 | h1⟩:=ha.2 hs
  ·have:=(zac hl hx.1 (by decide) hy.1 (by decide)).1 (e.symm.trans h1.1)
   omega
  ·have:=(zac hl hx.1 (by decide) hy.1 (by decide)).1 (e.symm.trans h1.1)
   obtain ⟨rfl,_⟩:=this
   exact ⟨h1.2,(hb x hx hN).2⟩
 ·rw [zeI fun hs e=>?_]
  ·exact h.st
  ·obtain ⟨y,hy,hyN,h1 | h1⟩:=ha.2 hs
   ·exact hsc.2.2 y 2 hy.1 (by decide) (h1.1.symm.trans e.symm)
   ·exact hsc.2.2 y 1 hy.1 (by decide) (h1.1.symm.trans e.symm)
theorem IE.run (hT:W.p.thread<=W.l.T) (hb:∀ x,V0 W.l x->W.N x->(0<=par' x/\par' x<=65535)/\0<=ver' x/\ver' x<=65535):∀ {r:List Acc} {τ:M},IE W par' ver' τ->(∀ a∈r,KE W par' ver' a)->IE W par' ver' (runM τ r)
 | [],_,h,_=>h
 | a :: r,τ,h,hr=>IE.run (r:=r) hT hb (h.step hW hT hb (hr a List.mem_cons_self)) fun b hb=>hr b (List.mem_cons_of_mem _ hb)
omit hW in
theorem OldW.means (hp:PenOk W.p) {o:Int} {l:Lay} {c:Int} (h:OldW W o (get τ c)) (hst:get τ (l.state W.p.thread)=zaT W.p.tag false):zbe l τ c=o:=by
 have ht:=hp.t
 rcases h with h | ⟨q,h⟩
 ·exact h.means
 ·unfold zbe
  dsimp only
  rw [h]
  dsimp only
  rw [Zn (by rintro (c | c); (· cases c); omega),hst]
  unfold zey
  rw [zi3 hp.g]
  simp [zkw]
  intro c; omega
omit hW in
theorem NewW.means (hp:PenOk W.p) {n:Int} {l:Lay} {c:Int} (h:NewW W n (get τ c)) (hst:get τ (l.state W.p.thread)=zaT W.p.tag true):zbe l τ c=n:=by
 have ht:=hp.t
 rcases h with h | ⟨q,h⟩
 ·exact h.means
 ·unfold zbe
  dsimp only
  rw [h]
  dsimp only
  rw [Zn (by rintro (c | c); (· cases c); omega),hst]
  unfold zey
  rw [zi3 hp.g]
  simp [zkw]
end
structure Rdy (W:Pt) (pr ver:Int->Int) (g:G):Prop where
 ok:W.Ok
 pt:PtOk W g
 calm:Calm W.l pr W.p ver W.m1 g
 par:W.par0=parent W.l W.m1
 ver:∀ x,V0 W.l x->0<=ver x/\ver x<=60000
 eq:∀ j,W.A2 j->get W.m0 j=get W.m1 j
 sz:W.m0.size=W.m1.size
 hT:W.p.thread<=W.l.T
 hg:W.p.tag+1<=16777215
def zqB (p:Pen) (held rs:Array Int) (x v:Int):Int:=if x∈held.toList/\¬x∈rs.toList then 65535 else if x∈rs.toList/\¬x∈held.toList then p.thread else v
structure PlanD (W:Pt) (pr ver:Int->Int) (g':G) (held rs:Array Int) (row0:Array Acc) (ex:PlanS) (A C1 C2:List Acc) (m':M) (ver':Int->Int):Prop where
 work:ex.work.toList=A++(⟨true,W.l.state W.p.thread,zaT W.p.tag true⟩ :: C1)++(⟨true,W.l.state W.p.thread,zaT (W.p.tag+1) false⟩ :: C2)
 point:ex.point=(A.length:Int)
 tree:ex.tree=true
 roots:ex.roots=rs
 good:okM W.m0 ex.work.toList
 kA:∀ a∈A,KB W ver held rs a
 k1:∀ a∈C1,KE W (parent W.l m') ver' a
 k2:∀ a∈C2,KX W held rs a
 one:∀ x,V0 W.l x->A.countP (isSt (W.l.field x 2))<=1/\A.countP (isSt (W.l.field x 1))<=1
 fin:∀ j,W.A2 j->get (runM W.m0 ex.work.toList) j=get m' j
 fin0:∀ j,¬W.A2 j->get (runM W.m0 ex.work.toList) j=get W.m0 j
 fr:∀ j,¬W.A2 j->get m' j=get W.m1 j
 calm:Calm W.l pr ⟨W.p.thread,W.p.tag+1⟩ ver' m' g'
 mid:IE W (parent W.l m') ver' (acc1 ⟨true,W.l.state W.p.thread,zaT W.p.tag true⟩ (runM W.m0 A))
 midL:∀ x,W.l.nd x->W.N x->get (runM W.m0 A) (W.l.field x 0)=if x∈rs.toList/\¬x∈held.toList then W.p.thread else get W.m0 (W.l.field x 0)
 vers:∀ x,V0 W.l x->ver' x=ver x\/ver' x=ver x+1
 bump:∀ x,V0 W.l x->W.l.field x 2∈chgL row0->W.par0 x=0\/parent W.l m' x=0->ver' x=ver x+1
 rsN:∀ x∈rs.toList,W.N x
 lock:∀ x,W.l.nd x->get m' (W.l.field x 0)=zqB W.p held rs x (get W.m1 (W.l.field x 0))
theorem Rdy.old {W:Pt} {pr ver:Int->Int} {g:G} (h:Rdy W pr ver g):IB W ver W.m0:=by
 have hN:∀ x f,W.N x->(0<=f/\f<=6)->gf W.l W.m0 x f=gf W.l W.m1 x f:=fun x f hx hf=>h.eq _ (a2_f hx hf)
 refine ⟨by rw [h.sz]; exact h.calm.rt.size,fun x hx hxN=>.inl ?_,fun x hx hxN=>.inl ?_,?_⟩
 ·rw [hN x 2 hxN (by decide),h.par]; exact h.calm.pp x hx
 ·rw [hN x 1 hxN (by decide)]; exact h.calm.pv x hx
 ·rw [h.eq _ (.inr (.inr Z))]; exact h.calm.st
theorem Gr.list {K:Acc->Prop} {σ τ:Tr} (h:Gr K σ τ):∃ r:List Acc,τ.row.toList=σ.row.toList++r/\∀ a∈r,K a:=by
 obtain ⟨r,e,hr⟩:=h
 exact ⟨r.toList,by rw [e,Array.toList_append],hr⟩
theorem ziS {row:Array Acc} {c:Int}:c∈chgL row↔∃ a∈row.toList,a.store=true/\a.cell=c:=by
 rw [zp0]
 constructor
 ·rintro ⟨i,hi,h1,h2⟩
  exact ⟨row[i]!,by rw [getElem!_pos row i hi]; simp,h1,h2⟩
 ·rintro ⟨a,ha,h1,h2⟩
  obtain ⟨i,hi,e⟩:=List.getElem_of_mem ha
  refine ⟨i,by simpa using hi,?_⟩
  have e2:row[i]! =a:=by rw [getElem!_pos row i (by simpa using hi)]; simpa using e
  rw [e2]; exact ⟨h1,h2⟩
theorem zeE {c:Int}:∀ {r:List Acc} {m:M},(∀ a∈r,a.store=true->a.cell≠c)->get (runM m r) c=get m c
 | [],_,_=>rfl
 | a :: r,m,h=>by
  show get (runM (acc1 a m) r) c=_
  rw [zeE (r:=r) fun b hb=>h b (List.mem_cons_of_mem _ hb),zeI fun hs e=>h a List.mem_cons_self hs e.symm]
theorem zb8 {d:Array Int} {x:Int}:x∈d.toList↔∃ i,i<d.size/\d[i]! =x:=by
 constructor
 ·intro h
  obtain ⟨i,hi,e⟩:=List.getElem_of_mem h
  exact ⟨i,by simpa using hi,by rw [getElem!_pos d i (by simpa using hi)]; simpa using e⟩
 ·rintro ⟨i,hi,e⟩; exact zl6 hi e
section
variable {W:Pt} {ver:Int->Int} {held rs:Array Int} (hW:W.Ok)
include hW
theorem zsr (hT:W.p.thread<=W.l.T) {j:Int} (h:W.Low j):j≠W.l.state W.p.thread:=fun e=>by
 have ht:=hW.hp.t
 exact zd6 hW.hl (h.lowc hW) (zgD hW.hl ⟨ht.1,hT⟩) e.symm
theorem zz8 (hT:W.p.thread<=W.l.T) {a:Acc} (h:W.okA a):KB W ver held rs a:=by
 have hl:=hW.hl
 have hsc:=zdh hW hT
 unfold Pt.okA at h
 by_cases hs:a.store=true
 ·rw [Zp hs] at h
  refine ⟨.inl h.adr,fun _=>?_⟩
  have fj:∀ {x f y k:Int},W.l.nd x->(0<=f/\f<7)->W.l.nd y->(0<=k/\k<7)->a.cell=W.l.field x f->a.cell=W.l.field y k->x=y/\f=k:=fun hx hf hy hk e1 e2=>(zac hl hx hf hy hk).1 (e1.symm.trans e2)
  rcases h with h | ⟨y,f,hy,hf,e⟩ | ⟨y,hy,hs2,e⟩ | ⟨y,q,hy,hs2,e,hu⟩
  ·have lf:∀ {x f:Int},W.l.nd x->(0<=f/\f<7)->a.cell≠W.l.field x f:=fun hx hf=>zaO hl (h.lowc hW) hx hf
   exact ⟨zsr hW hT h,fun x hx c=>absurd c (lf hx.1 (by decide)),fun x hx c=>absurd c (lf hx.1 (by decide)),fun x hx c=>absurd c (lf hx (by decide))⟩
  ·refine ⟨fun c=>hsc.2.2 y f hy.1 (by omega) (e.symm.trans c),fun x hx c=>?_,fun x hx c=>?_,fun x hx c=>?_⟩
   ·have:=fj hx.1 (by decide) hy.1 (by omega) c e; omega
   ·have:=fj hx.1 (by decide) hy.1 (by omega) c e; omega
   ·have:=fj hx (by decide) hy.1 (by omega) c e; omega
  ·refine ⟨fun c=>hsc.2.2 y 2 hy.1 (by decide) (e.symm.trans c),fun x hx c=>?_,fun x hx c=>?_,fun x hx c=>?_⟩
   ·obtain ⟨rfl,_⟩:=fj hx.1 (by decide) hy.1 (by decide) c e; rw [hx.2] at hs2; cases hs2
   ·have:=fj hx.1 (by decide) hy.1 (by decide) c e; omega
   ·have:=fj hx (by decide) hy.1 (by decide) c e; omega
  ·refine ⟨fun c=>hsc.2.2 y 2 hy.1 (by decide) (e.symm.trans c),fun x hx c=>?_,fun x hx c=>?_,fun x hx c=>?_⟩
   ·obtain ⟨rfl,_⟩:=fj hx.1 (by decide) hy.1 (by decide) c e; exact ⟨⟨q,hu.1⟩,hu.2⟩
   ·have:=fj hx.1 (by decide) hy.1 (by decide) c e; omega
   ·have:=fj hx (by decide) hy.1 (by decide) c e; omega
 ·rw [Zn hs] at h
  exact ⟨.inl h,fun c=>absurd c hs⟩
theorem KV_KB (hT:W.p.thread<=W.l.T) {ch:List Int} {m:M} {a:Acc} (h:KV W ch ver m a):KB W ver held rs a:=by
 have hl:=hW.hl
 have hsc:=zdh hW hT
 unfold KV at h
 by_cases hs:a.store=true
 ·rw [Zp hs] at h
  obtain ⟨y,hy,hN,_,e,ev⟩:=h
  refine ⟨by rw [e]; exact a2_f hN (by decide),fun _=>⟨fun c=>hsc.2.2 y 1 hy.1 (by decide) (e.symm.trans c),fun x hx c=>?_,fun x hx c=>?_,fun x hx c=>?_⟩⟩
  ·have:=(zac hl hx.1 (by decide) hy.1 (by decide)).1 (c.symm.trans e); omega
  ·obtain ⟨rfl,_⟩:=(zac hl hx.1 (by decide) hy.1 (by decide)).1 (c.symm.trans e); exact ev
  ·have:=(zac hl hx (by decide) hy.1 (by decide)).1 (c.symm.trans e); omega
 ·rw [Zn hs] at h
  exact ⟨h,fun c=>absurd c hs⟩
theorem KL_KB (hT:W.p.thread<=W.l.T) (hrs:∀ i,i<rs.size->W.N rs[i]!) {a:Acc} (h:KL W rs held.toList W.p.thread a):KB W ver held rs a:=by
 have hl:=hW.hl
 have hsc:=zdh hW hT
 obtain ⟨hs,ev,i,hi,hb,e⟩:=h
 have hN:=hrs i hi
 refine ⟨by rw [e]; exact a2_f hN (by decide),fun _=>⟨fun c=>hsc.2.2 _ 0 hN.1 (by decide) (e.symm.trans c),fun x hx c=>?_,fun x hx c=>?_,fun x hx c=>?_⟩⟩
 ·have:=(zac hl hx.1 (by decide) hN.1 (by decide)).1 (c.symm.trans e); omega
 ·have:=(zac hl hx.1 (by decide) hN.1 (by decide)).1 (c.symm.trans e); omega
 ·obtain ⟨e2,_⟩:=(zac hl hx (by decide) hN.1 (by decide)).1 (c.symm.trans e)
  rw [e2]; exact ⟨zb8.2 ⟨i,hi,Z⟩,hb,ev⟩
theorem KL_KX (hh:∀ i,i<held.size->W.N held[i]!) {a:Acc} (h:KL W held rs.toList 65535 a):KX W held rs a:=by
 obtain ⟨hs,ev,i,hi,hb,e⟩:=h
 have hN:=hh i hi
 exact ⟨by rw [e]; exact a2_f hN (by decide),fun _=>⟨_,hN,zb8.2 ⟨i,hi,Z⟩,hb,e,ev⟩⟩
end
theorem cnt0 {c:Int} {r:List Acc} (h:∀ a∈r,a.store=true->a.cell≠c):r.countP (isSt c)=0:=by
 rw [List.countP_eq_zero]
 intro a ha hs
 unfold isSt at hs
 rw [Bool.and_eq_true,decide_eq_true_iff] at hs
 exact h a ha hs.1 hs.2
theorem zrE {σ:Tr} {i:Int}:∃ r:List Acc,(ld σ i:Tr).row.toList=σ.row.toList++r/\∀ a∈r,a.store=false:=by
 rw [zkc]
 split
 ·exact ⟨_,Array.toList_append,fun a ha=>by rw [List.mem_singleton] at ha; subst ha; rfl⟩
 ·exact ⟨[],by simp,fun a ha=>by cases ha⟩
theorem zz0 {σ:Tr} {i v:Int}:∃ r:List Acc,(st σ i v:Tr).row.toList=σ.row.toList++r/\r.length<=1/\∀ a∈r,a.cell=i:=by
 rw [zkb]
 split
 ·exact ⟨_,Array.toList_append,Nat.le_refl _,fun a ha=>by rw [List.mem_singleton] at ha; subst ha; rfl⟩
 ·exact ⟨[],by simp,Nat.zero_le _,fun a ha=>by cases ha⟩
theorem zv2 {c:Int} {r:List Acc} (h:∀ a∈r,a.store=false):r.countP (isSt c)=0:=cnt0 fun a ha hs=>by rw [h a ha] at hs; cases hs
theorem zrD {p:Pen} {σ:Tr} {c v:Int}:∃ r:List Acc,(p.write σ c v).row.toList=σ.row.toList++r/\∀ j,r.countP (isSt j)<=if j=c then 1 else 0:=by
 obtain ⟨r,e,h⟩:=zrE (σ:=σ) (i:=c)
 have h0:∀ j,r.countP (isSt j)=0:=fun j=>zv2 h
 unfold Pen.write
 split
 ·split
  ·obtain ⟨r2,e2,h2,h3⟩:=zz0 (σ:=ld σ c) (i:=c) (v:=(p.to v (zae (get σ c)).1).pack)
   refine ⟨r++r2,by rw [e2,e,List.append_assoc],fun j=>?_⟩
   rw [List.countP_append,h0,Nat.zero_add]
   split
   ·exact Nat.le_trans (List.countP_le_length) h2
   ·next hj=>rw [cnt0 fun a ha _ e=>hj (e.symm.trans (h3 a ha))]; exact Nat.le_refl _
  ·exact ⟨r,e,fun j=>by rw [h0]; exact Nat.zero_le _⟩
 ·exact ⟨r,e,fun j=>by rw [h0]; exact Nat.zero_le _⟩
theorem zoM {l:Lay} (hl:l.Ok) {p:Pen} {ch:List Int} {d:Array Int} (hd:∀ i,i<d.size->l.nd d[i]!) (hinj:∀ i j,i<d.size->j<d.size->d[i]! =d[j]!->i=j) {σ:Tr}:∀ k,k<=d.size->∃ r:List Acc,(zb4 l p ch d k σ).row.toList=σ.row.toList++r/\∀ c,r.countP (isSt c)<=1/\((∀ i,i<k->c≠l.field d[i]! 1)->r.countP (isSt c)=0)
 | 0,_=>⟨[],by simp [zb4],fun c=>⟨Nat.zero_le _,fun _=>Z⟩⟩
 | k+1,hk=>by
  obtain ⟨r,e,h⟩:=zoM hl hd hinj (σ:=σ) (p:=p) (ch:=ch) k (by omega)
  rw [zb4]
  obtain ⟨τ,eτ⟩:∃ τ,zb4 l p ch d k σ=τ:=⟨_,rfl⟩
  rw [eτ] at e ⊢
  have key:∃ r2:List Acc,(ziZ l p ch τ d[k]!).row.toList=τ.row.toList++r2/\∀ j,r2.countP (isSt j)<=if j=l.field d[k]! 1 then 1 else 0:=by
   unfold ziZ
   split
   ·dsimp only
    obtain ⟨q,eq,hq⟩:=zrE (σ:=τ) (i:=l.field d[k]! 2)
    split
    ·obtain ⟨q2,eq2,hq2⟩:=zrE (σ:=ld τ (l.field d[k]! 2)) (i:=l.field d[k]! 1)
     obtain ⟨q3,eq3,hq3⟩:=zrD (p:=p) (σ:=ld (ld τ (l.field d[k]! 2)) (l.field d[k]! 1)) (c:=l.field d[k]! 1) (v:=IntKind.i64.wrap (pnew (ld τ (l.field d[k]! 2)) (l.field d[k]! 1)+1))
     refine ⟨q++(q2++q3),by rw [eq3,eq2,eq]; simp,fun j=>?_⟩
     rw [List.countP_append,List.countP_append,zv2 hq,zv2 hq2,Nat.zero_add,Nat.zero_add]; exact hq3 j
    ·exact ⟨q,eq,fun j=>by rw [zv2 hq]; exact Nat.zero_le _⟩
   ·exact ⟨[],by simp,fun j=>Nat.zero_le _⟩
  obtain ⟨r2,e2,h2⟩:=key
  refine ⟨r++r2,by rw [e2,e,List.append_assoc],fun c=>?_⟩
  rw [List.countP_append]
  have h2c:=h2 c
  constructor
  ·by_cases ec:c=l.field d[k]! 1
   ·have:r.countP (isSt c)=0:=(h c).2 fun i hi e3=>by
     have:=(zac hl (hd i (by omega)) (by decide) (hd k (by omega)) (by decide)).1 (e3.symm.trans ec)
     have:=hinj i k (by omega) (by omega) this.1
     omega
    rw [Zp ec] at h2c; omega
   ·rw [Zn ec] at h2c
    have:=(h c).1; omega
  ·intro hc
   rw [Zn (hc k (by omega))] at h2c
   have:=(h c).2 fun i hi=>hc i (by omega)
   omega
set_option maxHeartbeats 800000
theorem zr3 {W:Pt} {pr ver:Int->Int} {g g':G} (h:Rdy W pr ver g) {En Lv:Int->Prop} {σ:Tr} {m:M} (ht:Twin W En Lv σ m) (hw:Writ W.l pr W.p W.par0 ver m g') (hR:Rch W.l W.p W.m1 m) {held rs:Array Int} (hh:∀ i,i<held.size->W.N held[i]!) (hrs:∀ i,i<rs.size->W.N rs[i]!) :
  ∃ A C1 C2 m' ver',PlanD W pr ver g' held rs σ.row (planT W.l W.p held rs σ) A C1 C2 m' ver'/\∀ x,V0 W.l x->parent W.l m' x=parent W.l m x:=by
 have hW:=h.ok
 have hl:=hW.hl
 have tp:=hW.hp.t
 have tg:=hW.hp.g
 have hg:=h.hg
 have hn0:=(zaB hl).1
 have hsc:=zdh hW h.hT
 have hz0:m.size=W.l.cells:=hw.rt.size
 have a0:Ag W σ m:=ht.ag h.eq
 have gv1:∀ x,V0 W.l x->gf W.l m x 1=gf W.l W.m1 x 1:=fun x hx=>hR.other hl (.inr (.inr ⟨x,1,hx.1,.inr (.inl Z),Z⟩))
 have gl0:∀ x,W.l.nd x->gf W.l m x 0=gf W.l W.m1 x 0:=fun x hx=>hR.other hl (.inr (.inr ⟨x,0,hx,.inl Z,Z⟩))
 have rowK:∀ a∈σ.row.toList,KB W ver held rs a:=fun a ha=>zz8 hW h.hT (ht.acc a ha)
 have chN:∀ x f,W.l.nd x->(0<=f/\f<7)->W.l.field x f∈chgL σ.row->W.N x:=fun x f hx hf hc=>by
  obtain ⟨a,ha,_,e⟩:=ziS.1 hc
  exact zhx hW hx hf (by rw [<-e]; exact (rowK a ha).1)
 have SAi:∀ x,(∃ i,i<(zax W.l W.l.nodes.toNat).size/\(zax W.l W.l.nodes.toNat)[i]! =x)↔V0 W.l x:=fun x=>zno (by omega)
 obtain ⟨v1,v2,v3⟩:=zwq hW (ch:=chgL σ.row) (ver0:=ver) a0 hz0 (fun x hx=>⟨by rw [gv1 x hx]; exact h.calm.pv x hx,h.ver x hx⟩) (fun x hx hc=>chN x 2 hx.1 (by decide) hc) _ (Nat.le_refl _)
 obtain ⟨vr,vre,vrc⟩:=zoM hl (p:=W.p) (ch:=chgL σ.row) (σ:=σ) (fun i hi=>((SAi _).1 ⟨i,hi,rfl⟩).1) (fun i j hi hj e=>zd5 _ hi hj e) _ (Nat.le_refl (zax W.l W.l.nodes.toNat).size)
 unfold planT
 dsimp only
 obtain ⟨σ1,e1⟩:∃ τ,zb4 W.l W.p (chgL σ.row) (zax W.l W.l.nodes.toNat) (zax W.l W.l.nodes.toNat).size σ=τ:=⟨_,rfl⟩
 obtain ⟨mB,eB⟩:∃ τ,zb4 W.l W.p (chgL σ.row) (zax W.l W.l.nodes.toNat) (zax W.l W.l.nodes.toNat).size m=τ:=⟨_,rfl⟩
 rw [e1,eB] at v1
 rw [e1] at v2 vre
 rw [eB] at v3
 rw [e1]
 rw [show IntKind.u64.wrap W.p.thread=W.p.thread from zdK (by omega)]
 have hzB:mB.size=W.l.cells:=by rw [v3.size]; exact hz0
 obtain ⟨l1,l2,l3⟩:=zsu hW v1 hzB (d:=rs) (but:=held.toList) (v:=W.p.thread) (by omega) hrs _ (Nat.le_refl _)
 obtain ⟨σ2,e2⟩:∃ τ,zbq W.l rs held.toList W.p.thread rs.size σ1=τ:=⟨_,rfl⟩
 obtain ⟨mC,eC⟩:∃ τ,zbq W.l rs held.toList W.p.thread rs.size mB=τ:=⟨_,rfl⟩
 rw [e2,eC] at l1
 rw [e2] at l2
 rw [eC] at l3
 rw [e2]
 have hzC:mC.size=W.l.cells:=by rw [l3.size]; exact hzB
 obtain ⟨s1,s2,s3,s4,s5⟩:=zrn hW l1 hzC h.hT tg true
 obtain ⟨σ3,e3⟩:∃ τ,za0 W.l W.p σ2 W.p.tag true=τ:=⟨_,rfl⟩
 obtain ⟨mD,eD⟩:∃ τ,za0 W.l W.p mC W.p.tag true=τ:=⟨_,rfl⟩
 rw [e3,eD] at s1
 rw [e3] at s2
 rw [eD] at s3 s4 s5
 rw [e3]
 have hzD:mD.size=W.l.cells:=by rw [s3]; exact hzC
 obtain ⟨r1,er1,hr1⟩:=v2.list
 obtain ⟨r2,er2,hr2⟩:=l2.list
 have evr:vr=r1:=by rw [vre] at er1; exact List.append_cancel_left er1
 have rowA:∀ a∈σ2.row.toList,KB W ver held rs a:=fun a ha=>by
  rw [er2,List.mem_append,er1,List.mem_append] at ha
  rcases ha with (ha | ha) | ha
  ·exact rowK a ha
  ·exact KV_KB hW h.hT (hr1 a ha)
  ·exact KL_KB hW h.hT hrs (hr2 a ha)
 have row3:σ3.row.toList=σ2.row.toList++[⟨true,W.l.state W.p.thread,zaT W.p.tag true⟩]:=by rw [s2,Array.toList_append]
 have row3A:∀ a∈σ3.row.toList,W.A2 a.cell:=fun a ha=>by
  rw [row3,List.mem_append] at ha
  rcases ha with ha | ha
  ·exact (rowA a ha).1
  ·rw [List.mem_singleton] at ha; subst ha; exact .inr (.inr Z)
 have ch3N:∀ x f,V0 W.l x->f=1\/f=2->W.l.field x f∈chgL σ3.row->W.N x:=fun x f hx hf hc=>by
  obtain ⟨a,ha,_,e⟩:=ziS.1 hc
  exact zhx hW hx.1 (f:=f) (by omega) (by rw [<-e]; exact row3A a ha)
 have d2:∀ x,V0 W.l x->gf W.l mD x 2=gf W.l m x 2:=fun x hx=>by
  unfold gf
  rw [s5 _ (hsc.2.2 x 2 hx.1 (by decide)),l3.no _ fun y ⟨i,hi,e,_⟩ e2=>?_,v3.no _ fun y ⟨i,hi,e,_⟩ e2=>?_]
  ·have:=(zac hl hx.1 (by decide) (by rw [<-e]; exact ((SAi _).1 ⟨i,hi,Z⟩).1) (by decide)).1 e2; omega
  ·have:=(zac hl hx.1 (by decide) (by rw [<-e]; exact (hrs i hi).1) (by decide)).1 e2; omega
 have d1:∀ x,V0 W.l x->gf W.l mD x 1=gf W.l mB x 1:=fun x hx=>by
  unfold gf
  rw [s5 _ (hsc.2.2 x 1 hx.1 (by decide)),l3.no _ fun y ⟨i,hi,e,_⟩ e2=>?_]
  have:=(zac hl hx.1 (by decide) (by rw [<-e]; exact (hrs i hi).1) (by decide)).1 e2; omega
 have dB:∀ x,V0 W.l x->(Bump W (chgL σ.row) m x/\gf W.l mD x 1=zee (W.p.word (ver x) (ver x+1)))\/(¬Bump W (chgL σ.row) m x/\zbx (gf W.l mD x 1) (ver x)):=fun x hx=>by
  rw [d1 x hx]
  by_cases hb:Bump W (chgL σ.row) m x
  ·obtain ⟨i,hi,e⟩:=(SAi x).2 hx
   exact .inl ⟨hb,v3.yes x ⟨i,hi,e,hb⟩⟩
  ·refine .inr ⟨hb,?_⟩
   have:gf W.l mB x 1=gf W.l m x 1:=v3.no _ fun y ⟨i,hi,e,hb2⟩ e2=>by
    have:=(zac hl hx.1 (by decide) (by rw [<-e]; exact ((SAi _).1 ⟨i,hi,Z⟩).1) (by decide)).1 e2
    exact hb (by rw [this.1]; exact hb2)
   rw [this,gv1 x hx]; exact h.calm.pv x hx
 have wOkB:∀ x,V0 W.l x->(W.p.word (ver x) (ver x+1)).Ok:=fun x hx=>by have:=h.ver x hx; exact znr hW.hp (by omega) (by omega)
 have hv':∀ x,V0 W.l x->(Bump W (chgL σ.row) m x->newW (gf W.l mD x 1)=ver x+1)/\(¬Bump W (chgL σ.row) m x->newW (gf W.l mD x 1)=ver x):=fun x hx=>by
  rcases dB x hx with ⟨hb,e⟩ | ⟨hb,e⟩
  ·exact ⟨fun _=>by unfold newW; rw [e,za1 (wOkB x hx)]; rfl,fun c=>absurd hb c⟩
  ·exact ⟨fun c=>absurd c hb,fun _=>e.ok.2.2.1⟩
 have hu:∀ x f,V0 W.l x->f=1\/f=2->(zae (gf W.l mD x f)).2=true:=fun x f hx hf=>by
  rcases hf with rfl | rfl
  ·rcases dB x hx with ⟨hb,e⟩ | ⟨hb,e⟩
   ·rw [e,za1 (wOkB x hx)]
   ·exact e.ok.1
  ·rw [d2 x hx]; exact (hw.sn x hx.1 hx.2).1
 obtain ⟨c1,c2,c3⟩:=zt9 hW (ch:=chgL σ3.row) (m:=mD) s1 hzD hu ch3N _ (Nat.le_refl _)
 obtain ⟨σ4,e4⟩:∃ τ,cleanW W.l (chgL σ3.row) (zax W.l W.l.nodes.toNat) (zax W.l W.l.nodes.toNat).size σ3=τ:=⟨_,rfl⟩
 obtain ⟨mE,eE⟩:∃ τ,cleanW W.l (chgL σ3.row) (zax W.l W.l.nodes.toNat) (zax W.l W.l.nodes.toNat).size mD=τ:=⟨_,rfl⟩
 rw [e4,eE] at c1
 rw [e4] at c2
 rw [eE] at c3
 rw [e4]
 have hzE:mE.size=W.l.cells:=by rw [c3.size]; exact hzD
 rw [show IntKind.i64.wrap (W.p.tag+1)=W.p.tag+1 from zaU (by omega)]
 obtain ⟨t1,t2,t3,t4,t5⟩:=zrn hW c1 hzE h.hT (tag:=W.p.tag+1) (by omega) false
 obtain ⟨σ5,e5⟩:∃ τ,za0 W.l W.p σ4 (W.p.tag+1) false=τ:=⟨_,rfl⟩
 obtain ⟨mF,eF⟩:∃ τ,za0 W.l W.p mE (W.p.tag+1) false=τ:=⟨_,rfl⟩
 rw [e5,eF] at t1
 rw [e5] at t2
 rw [eF] at t3 t4 t5
 rw [e5]
 have hzF:mF.size=W.l.cells:=by rw [t3]; exact hzE
 obtain ⟨k1,k2,k3⟩:=zsu hW t1 hzF (d:=held) (but:=rs.toList) (v:=65535) (by decide) hh _ (Nat.le_refl _)
 obtain ⟨σ6,e6⟩:∃ τ,zbq W.l held rs.toList 65535 held.size σ5=τ:=⟨_,rfl⟩
 obtain ⟨mG,eG⟩:∃ τ,zbq W.l held rs.toList 65535 held.size mF=τ:=⟨_,rfl⟩
 rw [e6,eG] at k1
 rw [e6] at k2
 rw [eG] at k3
 rw [e6]
 obtain ⟨r4,er4,hr4⟩:=c2.list
 obtain ⟨r6,er6,hr6⟩:=k2.list
 have rowR:σ6.row.toList=σ2.row.toList++(⟨true,W.l.state W.p.thread,zaT W.p.tag true⟩ :: r4)++(⟨true,W.l.state W.p.thread,zaT (W.p.tag+1) false⟩ :: r6):=by
  rw [er6,t2,Array.toList_append,er4,row3]; simp
 have gE:∀ x f,V0 W.l x->f=1\/f=2->gf W.l mG x f=gf W.l mE x f:=fun x f hx hf=>by
  unfold gf
  rw [k3.no _ fun y ⟨i,hi,e,_⟩ e2=>?_,t5 _ (hsc.2.2 x f hx.1 (by omega))]
  have:=(zac hl hx.1 (by omega) (by rw [<-e]; exact (hh i hi).1) (by decide)).1 e2; omega
 have pl:∀ x f,V0 W.l x->f=1\/f=2->zbx (gf W.l mG x f) (newW (gf W.l mD x f)):=fun x f hx hf=>by
  rw [gE x f hx hf]
  have nb:=zwH (hu x f hx hf)
  by_cases hc:W.l.field x f∈chgL σ3.row
  ·have:gf W.l mE x f=zfy (newW (gf W.l mD x f)):=c3.yes x f ((SAi x).2 hx) hf hc
   rw [this]; exact (zjj nb).1
  ·have e:gf W.l mE x f=gf W.l mD x f:=c3.no _ fun y q hy hq hc2 e=>hc (by rw [e]; exact hc2)
   have e2:gf W.l mD x f=gf W.l W.m1 x f:=by
    by_cases ha:W.A2 (W.l.field x f)
    ·have x1:get σ3.mem (W.l.field x f)=gf W.l mD x f:=s1.eq _ ha
     rw [<-x1,<-s1.rp.run,zeE fun a ha hs e=>hc (ziS.2 ⟨a,ha,hs,e⟩)]
     exact h.eq _ ha
    ·exact s1.fr _ ha
   have pw:∃ n,zbx (gf W.l W.m1 x f) n:=by
    rcases hf with rfl | rfl
    ·exact ⟨_,h.calm.pv x hx⟩
    ·exact ⟨_,h.calm.pp x hx⟩
   obtain ⟨n,pw⟩:=pw
   rw [e,e2]
   have:newW (gf W.l W.m1 x f)=n:=pw.ok.2.2.1
   rw [this]; exact pw
 have epar:∀ x,V0 W.l x->newW (gf W.l mD x 2)=parent W.l m x:=fun x hx=>by
  rw [d2 x hx]; unfold newW parent pnew; rw [Zp hx.2]
 have gpar:∀ x,V0 W.l x->parent W.l mG x=parent W.l m x:=fun x hx=>by
  rw [zjg hx (pl x 2 hx (.inr Z)),epar x hx]
 have hzG:mG.size=m.size:=by
  have a:(mG.size:Int)=W.l.cells:=by rw [k3.size]; exact hzF
  have b:(m.size:Int)=W.l.cells:=hz0
  omega
 have same:∀ j,(∀ x f,W.l.nd x->(0<=f/\f<=1\/f=2/\zbJ W.l x=true)->j≠W.l.field x f)->j≠W.l.state W.p.thread->get mG j=get m j:=fun j hj hs=>by
  rw [k3.no j fun y ⟨i,hi,e,_⟩=>hj y 0 (by rw [<-e]; exact (hh i hi).1) (by omega),t5 j hs,c3.no j fun y f hy hf _=>hj y f ((SAi y).1 hy).1 (by rcases hf with rfl | rfl; (· omega); exact .inr ⟨rfl,((SAi y).1 hy).2⟩),s5 j hs,l3.no j fun y ⟨i,hi,e,_⟩=>hj y 0 (by rw [<-e]; exact (hrs i hi).1) (by omega),v3.no j fun y ⟨i,hi,e,_⟩=>hj y 1 (by rw [<-e]; exact ((SAi _).1 ⟨i,hi,rfl⟩).1) (by omega)]
 have hcalm:Calm W.l pr ⟨W.p.thread,W.p.tag+1⟩ (fun x=>newW (gf W.l mD x 1)) mG g':=by
  refine ⟨hw.rt.same_ hl hzG (fun j hj=>same j (fun x f hx hf=>zaO hl hj hx (by omega)) fun e=>zd6 hl hj (zgD hl ⟨tp.1,h.hT⟩) e.symm) (fun x f hx hf=>same _ (fun y q hy hq e=>by have:=(zac hl hx (by omega) hy (by omega)).1 e; omega) (hsc.2.2 x f hx (by omega))) (fun x hx hwo=>?_) (fun x hx=>?_),hw.hd,fun x hx=>?_,fun x hx=>pl x 1 hx (.inl Z),?_⟩
  ·by_cases hs:zbJ W.l x=true
   ·refine ⟨fun _=>(pl x 2 ⟨hx,hs⟩ (.inr Z)).ok.1,fun c=>?_⟩
    rw [hs] at c; cases c
   ·refine ⟨fun c=>absurd c hs,fun c=>?_⟩
    have:gf W.l mG x 2=gf W.l m x 2:=same _ (fun y q hy hq e=>by
     have e:=(zac hl hx (by decide) hy (by omega)).1 e
     rcases hq with hq | hq
     ·omega
     ·rw [e.1] at hs; exact hs hq.2) (hsc.2.2 x 2 hx (by decide))
    rw [this]; exact hwo.2 c
  ·by_cases hs:zbJ W.l x=true
   ·exact gpar x ⟨hx,hs⟩
   ·have:gf W.l mG x 2=gf W.l m x 2:=same _ (fun y q hy hq e=>by
     have e:=(zac hl hx (by decide) hy (by omega)).1 e
     rcases hq with hq | hq
     ·omega
     ·rw [e.1] at hs; exact hs hq.2) (hsc.2.2 x 2 hx (by decide))
    unfold parent tget
    rw [Zn hs,Zn hs]
    unfold gf at this
    rw [this]
  ·have p:=pl x 2 hx (.inr Z)
   rw [zjg hx p]; exact p
  ·show get mG (W.l.state W.p.thread)=_
   rw [k3.no _ fun y ⟨i,hi,e,_⟩ e2=>hsc.2.2 y 0 (by rw [<-e]; exact (hh i hi).1) (by decide) e2.symm]
   exact t4
 have hpt:σ3.row.size - 1=σ2.row.toList.length:=by rw [s2]; simp
 obtain ⟨A,hA⟩:=zqv hl (row:=σ6.row) (pt:=σ3.row.size - 1) (by
  have e:=congrArg List.length rowR
  rw [hpt]; simp at e ⊢; omega)
 have tk:σ6.row.toList.take (σ3.row.size - 1)=σ2.row.toList:=by rw [hpt,rowR,List.append_assoc,List.take_left']; rfl
 have dr:σ6.row.toList.drop (σ3.row.size - 1)=(⟨true,W.l.state W.p.thread,zaT W.p.tag true⟩ :: r4)++(⟨true,W.l.state W.p.thread,zaT (W.p.tag+1) false⟩ :: r6):=by rw [hpt,rowR,List.append_assoc,List.drop_left']; rfl
 have hall:=hA.all k1.rp.ok
 obtain ⟨hAk,hAr⟩:=hA.ok W.m0 k1.rp.ok
 rw [tk,l1.rp.run] at hAr
 have hsub:=hA.sub
 rw [tk] at hsub
 refine ⟨A,r4,r6,mG,fun x=>newW (gf W.l mD x 1),⟨?_,?_,rfl,rfl,hall.1,fun a ha=>rowA a (hsub.subset ha),fun a ha=>?_,fun a ha=>KL_KX hW hh (hr6 a ha),fun x hx=>⟨hA.one x hx,?_⟩,fun j hj=>?_,fun j hj=>?_,fun j hj=>k1.fr j hj,hcalm,?_,fun x hx hxN=>?_,fun x hx=>?_,fun x hx hs hc=>?_,(fun x hx=>by obtain ⟨i,hi,e⟩:=zb8.1 hx; rw [<-e]; exact hrs i hi),fun x hx=>?_⟩,gpar⟩
 ·show (zgL W.l σ6.row (σ3.row.size - 1)).1.toList=_
  rw [hA.eq,dr,List.append_assoc]
 ·exact hA.at_
 ·have k:=hr4 a ha
  unfold KC at k
  by_cases hs:a.store=true
  ·rw [Zp hs] at k
   obtain ⟨x,f,hx,hN,hf,_,e,ev⟩:=k
   refine ⟨by rw [e]; exact a2_f hN (by omega),fun _=>⟨x,hx,hN,?_⟩⟩
   rcases hf with rfl | rfl
   ·exact .inr ⟨e,ev⟩
   ·exact .inl ⟨e,by rw [ev,gpar x hx,<-epar x hx]⟩
  ·rw [Zn hs] at k
   exact ⟨k,fun c=>absurd c hs⟩
 ·have l1':=hsub.countP_le (p:=isSt (W.l.field x 1))
  rw [er2,er1,List.countP_append,List.countP_append] at l1'
  have z1:σ.row.toList.countP (isSt (W.l.field x 1))=0:=cnt0 fun a ha hs e=>by
   have k:=ht.acc a ha
   unfold Pt.okA at k
   rw [Zp hs] at k
   rcases k with k | ⟨y,f,hy,hf,e2⟩ | ⟨y,hy,_,e2⟩ | ⟨y,q,hy,_,e2,_⟩
   ·exact zaO hl (k.lowc hW) hx.1 (by decide) e
   ·have:=(zac hl hx.1 (by decide) hy.1 (by omega)).1 (e.symm.trans e2); omega
   ·have:=(zac hl hx.1 (by decide) hy.1 (by decide)).1 (e.symm.trans e2); omega
   ·have:=(zac hl hx.1 (by decide) hy.1 (by decide)).1 (e.symm.trans e2); omega
  have z2:r2.countP (isSt (W.l.field x 1))=0:=cnt0 fun a ha hs e=>by
   obtain ⟨_,_,i,hi,_,e2⟩:=hr2 a ha
   have:=(zac hl hx.1 (by decide) (hrs i hi).1 (by decide)).1 (e.symm.trans e2); omega
  have z3:=(vrc (W.l.field x 1)).1
  rw [evr] at z3
  omega
 ·show get (runM W.m0 (zgL W.l σ6.row (σ3.row.size - 1)).1.toList) j=_
  rw [hall.2,k1.rp.run]; exact k1.eq j hj
 ·show get (runM W.m0 (zgL W.l σ6.row (σ3.row.size - 1)).1.toList) j=_
  rw [hall.2,k1.rp.run]; exact k1.fr0 j hj
 ·have e:acc1 ⟨true,W.l.state W.p.thread,zaT W.p.tag true⟩ (runM W.m0 A)=σ3.mem:=by
   rw [hAr,<-s1.rp.run,row3,zcP,l1.rp.run]; rfl
  rw [e]
  have g3:∀ x f,W.N x->f=1\/f=2->gf W.l σ3.mem x f=gf W.l mD x f:=fun x f hx hf=>s1.eq _ (a2_f hx (by omega))
  refine ⟨by rw [s1.sz]; exact hzD,fun x hx hxN=>?_,fun x hx hxN=>?_,?_⟩
  ·rw [g3 x 2 hxN (.inr Z),gpar x hx,d2 x hx]
   have pe:(zae (gf W.l m x 2)).1.new=parent W.l m x:=by unfold parent pnew; rw [Zp hx.2]
   obtain ⟨o1,o2⟩:=hw.sn x hx.1 hx.2
   obtain ⟨ok,_⟩:=zcg o1
   obtain ⟨w,hw2⟩:∃ w,zae (gf W.l m x 2)=w:=⟨_,rfl⟩
   rw [hw2] at o1 o2 ok pe
   obtain ⟨⟨wo,wn,wt,wg⟩,b⟩:=w
   dsimp only at o1 o2 ok pe
   subst o1
   rcases o2 with ⟨y1,y2⟩ | ⟨y1,y2,y3⟩
   ·have:=ok.z y1
    dsimp only at this
    left
    unfold zbx
    rw [hw2]
    rw [<-pe,y1,this.2,this.1]
   ·right
    exact ⟨wo,by rw [hw2,<-pe,y1,y2]⟩
  ·rw [g3 x 1 hxN (.inl Z)]
   rcases dB x hx with ⟨hb,e⟩ | ⟨hb,e⟩
   ·right
    refine ⟨ver x,?_⟩
    rw [(hv' x hx).1 hb,e]
    exact za1 (wOkB x hx)
   ·left
    rw [(hv' x hx).2 hb]; exact e
  ·rw [s1.eq _ (.inr (.inr Z))]; exact s4
 ·rw [hAr,l1.eq _ (a2_f hxN (by decide)),h.eq _ (a2_f hxN (by decide))]
  by_cases hc:x∈rs.toList/\¬x∈held.toList
  ·rw [Zp hc]
   obtain ⟨i,hi,e⟩:=zb8.1 hc.1
   exact l3.yes x ⟨i,hi,e,hc.2⟩
  ·rw [Zn hc,l3.no _ fun y ⟨i,hi,e,hb⟩ e2=>?_,v3.no _ fun y ⟨i,hi,e,_⟩ e2=>?_]
   ·exact gl0 x hx
   ·have:=(zac hl hx (by decide) (by rw [<-e]; exact ((SAi _).1 ⟨i,hi,Z⟩).1) (by decide)).1 e2; omega
   ·have e3:=(zac hl hx (by decide) (by rw [<-e]; exact (hrs i hi).1) (by decide)).1 e2
    exact hc ⟨zb8.2 ⟨i,hi,by rw [e,e3.1]⟩,by rw [e3.1]; exact hb⟩
 ·by_cases hb:Bump W (chgL σ.row) m x
  ·exact .inr ((hv' x hx).1 hb)
  ·exact .inl ((hv' x hx).2 hb)
 ·refine (hv' x hx).1 ⟨hs,?_⟩
  rcases hc with hc | hc
  ·left
   obtain ⟨o1,o2⟩:=hw.sn x hx.1 hx.2
   obtain ⟨ok,_⟩:=zcg o1
   rcases o2 with ⟨y1,y2⟩ | ⟨_,_,y3⟩
   ·have:=ok.z y1; omega
   ·omega
  ·right
   rw [gpar x hx] at hc
   rw [<-hc]; unfold parent pnew; rw [Zp hx.2]
 ·unfold zqB
  by_cases hc:x∈held.toList/\¬x∈rs.toList
  ·rw [Zp hc]
   obtain ⟨i,hi,e⟩:=zb8.1 hc.1
   exact k3.yes x ⟨i,hi,e,hc.2⟩
  ·have eC0:get mG (W.l.field x 0)=get mC (W.l.field x 0):=by
    rw [k3.no _ fun y ⟨i,hi,e,hb⟩ e2=>?_,t5 _ (hsc.2.2 x 0 hx (by decide)),c3.no _ fun y f hy hf _ e2=>?_,s5 _ (hsc.2.2 x 0 hx (by decide))]
    ·have:=(zac hl hx (by decide) ((SAi y).1 hy).1 (by omega)).1 e2; omega
    ·have e3:=(zac hl hx (by decide) (by rw [<-e]; exact (hh i hi).1) (by decide)).1 e2
     exact hc ⟨zb8.2 ⟨i,hi,by rw [e,e3.1]⟩,by rw [e3.1]; exact hb⟩
   rw [Zn hc,eC0]
   by_cases hd:x∈rs.toList/\¬x∈held.toList
   ·rw [Zp hd]
    obtain ⟨i,hi,e⟩:=zb8.1 hd.1
    exact l3.yes x ⟨i,hi,e,hd.2⟩
   ·rw [Zn hd,l3.no _ fun y ⟨i,hi,e,hb⟩ e2=>?_,v3.no _ fun y ⟨i,hi,e,_⟩ e2=>?_]
    ·exact gl0 x hx
    ·have:=(zac hl hx (by decide) (by rw [<-e]; exact ((SAi _).1 ⟨i,hi,Z⟩).1) (by decide)).1 e2; omega
    ·have e3:=(zac hl hx (by decide) (by rw [<-e]; exact (hrs i hi).1) (by decide)).1 e2
     exact hd ⟨zb8.2 ⟨i,hi,by rw [e,e3.1]⟩,by rw [e3.1]; exact hb⟩
section
variable {S:Type} [MemLike S] {l:Lay} {p:Pen} {σ0 σ:S}
inductive Rc0 (l:Lay) (σ0:S):S->Prop
 | refl:Rc0 l σ0 σ0
 | ld {σ:S} (i:Int) (h:Rc0 l σ0 σ):Rc0 l σ0 (ld σ i)
 | nf {σ:S} {x f v:Int} (h:Rc0 l σ0 σ) (hf:f=3\/f=4\/f=6):Rc0 l σ0 (st σ (l.field x f) v)
 | low {σ:S} {j v:Int} (h:Rc0 l σ0 σ) (hj:lowc l j):Rc0 l σ0 (st σ j v)
theorem zxs {x f:Int} (h:Rc0 l σ0 σ):Rc0 l σ0 (zdY l σ x f):=h.ld _
theorem zg5 {x:Int} (h:Rc0 l σ0 σ):Rc0 l σ0 (zcL l σ x):=h.ld _
theorem zk2 {x:Int} (h:Rc0 l σ0 σ):Rc0 l σ0 (zb5 l σ x):=by
 unfold zb5; split
 ·exact h
 ·exact h.ld _
theorem zps {x:Int} (h:Rc0 l σ0 σ):Rc0 l σ0 (zfQ l σ x):=zk2 h
theorem zpa {x m:Int}:∀ {n:Nat},Rc0 l σ0 σ->Rc0 l σ0 (zcd l σ x m n).2
 | 0,h=>h
 | n+1,h=>zk2 (zxs (zpa h))
theorem zrL {x m:Int} (h:Rc0 l σ0 σ):Rc0 l σ0 (zfc l σ x m):=(zpa h).nf (.inr (.inr Z))
theorem zpv:∀ {k:Nat} {σ:S} {q:Int} {r:S},zbO l k σ q=some r->Rc0 l σ0 σ->Rc0 l σ0 r
 | 0,_,_,_,e,_=>by simp [zbO] at e
 | k+1,σ,q,r,e,h=>by
  rw [zbO] at e
  split at e
  ·exact zpv e (zg5 (zrL (zps h)))
  ·cases e; exact h
theorem zyc {k:Nat} {x m:Int} {on:Bool} {r:S} (e:zgq l k σ x m on=some r) (h:Rc0 l σ0 σ):Rc0 l σ0 r:=zpv e (zg5 (zrL (zps h)))
theorem zo6:∀ {k:Nat} {σ:S} {x:Int} {r:Int×S},root l k σ x=some r->Rc0 l σ0 σ->Rc0 l σ0 r.2
 | 0,_,_,_,e,_=>by simp [root] at e
 | k+1,σ,x,r,e,h=>by
  rw [root] at e
  split at e
  ·split at e
   ·cases e; exact zg5 h
   ·exact zo6 e (zg5 h)
  ·cases e; exact h
theorem zzZ {k:Nat} {i u v:Int} {r:Bool×S} (e:same l k σ i u v=some r) (h:Rc0 l σ0 σ):Rc0 l σ0 r.2:=by
 obtain ⟨a,h1,e⟩:=Zb e
 obtain ⟨b,h2,e⟩:=Zb e
 cases e
 exact zo6 h2 (zo6 h1 h)
theorem zAR {s u v i:Int} {t:Bool} (h:Rc0 l σ0 σ):Rc0 l σ0 (eput l σ s u v i t):=((h.low (.inl ⟨s,.inl Z⟩)).low (.inl ⟨s,.inr Z⟩)).low (.inr (.inl ⟨u,v,Z⟩))
theorem ztS {u v:Int} (h:Rc0 l σ0 σ):Rc0 l σ0 (zbW l σ u v):=h.low (.inr (.inl ⟨u,v,Z⟩))
theorem zos {s:Int} (h:Rc0 l σ0 σ):Rc0 l σ0 (zeH l σ s):=((h.ld _).ld _).ld _
theorem zuz {k:Nat} {v i:Int} {r:S} (e:ze7 l k σ v i=some r) (h:Rc0 l σ0 σ):Rc0 l σ0 r:=by
 unfold ze7 at e
 dsimp only at e
 split at e
 ·exact zyc e (zk2 (h.ld _))
 ·cases e; exact zk2 (h.ld _)
theorem zwA {k:Nat} {x v i:Int} {r:S} (e:push l k σ x v i=some r) (h:Rc0 l σ0 σ):Rc0 l σ0 r:=by
 unfold push at e
 dsimp only at e
 refine zuz e (Rc0.low ?_ zek)
 split
 ·exact (((h.ld _).low zdG).low zcM).low zcM
 ·exact ((h.ld _).low zdG).low zcM
theorem zwD {k:Nat} {x v i:Int} {r:S} (e:pull l k σ x v i=some r) (h:Rc0 l σ0 σ):Rc0 l σ0 r:=by
 unfold pull at e
 dsimp only at e
 refine zuz e ?_
 have key:∀ τ:S,Rc0 l σ0 τ->Rc0 l σ0 (if aget (ld σ (zaR l x)) (za7 l x)≠0 then st τ (zaR l (aget (ld σ (zaR l x)) (za7 l x))) (IntKind.u64.wrap (aget σ (zaR l x))) else τ):=fun τ hτ=>by
  split
  ·exact hτ.low zcM
  ·exact hτ
 refine key _ ?_
 split
 ·exact ((h.ld _).ld _).low zek
 ·exact ((h.ld _).ld _).low zdG
theorem add_0 {k:Nat} {s:Int} {r:S} (e:add l k σ s=some r) (h:Rc0 l σ0 σ):Rc0 l σ0 r:=by
 obtain ⟨a,h1,e⟩:=Zb e
 exact zwA e (zwA h1 (zos h))
theorem zva {k:Nat} {s:Int} {r:S} (e:remove l k σ s=some r) (h:Rc0 l σ0 σ):Rc0 l σ0 r:=by
 obtain ⟨a,h1,e⟩:=Zb e
 exact zwD e (zwD h1 (zos h))
theorem zsO {k:Nat} {s u v:Int} {τ:S} (e:zbf l p k σ s u v=some (false,τ)) (h:Rc0 l σ0 σ):Rc0 l σ0 τ:=by
 obtain ⟨a,h1,e⟩:=Zb e
 dsimp only at e
 split at e
 ·obtain ⟨b,h2,e⟩:=Zb e
  cases e; exact add_0 h2 (zAR (zzZ h1 h))
 ·obtain ⟨b,h2,e⟩:=Zb e
  cases e
theorem zsR {k:Nat} {s:Int} {b:Int×Bool} {τ:S} (e:zbk l p k σ s=some ((false,b),τ)) (h:Rc0 l σ0 σ):Rc0 l σ0 τ:=by
 unfold zbk at e
 dsimp only at e
 split at e
 ·obtain ⟨a,h1,e⟩:=Zb e
  obtain ⟨b,h2,e⟩:=Zb e
  cases e
 ·obtain ⟨a,h1,e⟩:=Zb e
  cases e; exact ztS (zva h1 (zos h))
end
def K0 (l:Lay) (a:Acc):Prop:=a.store=true->lowc l a.cell\/∃ x f,l.nd x/\(f=3\/f=4\/f=6)/\a.cell=l.field x f
theorem Rc0.row {l:Lay} (hl:l.Ok) {σ0 σ:Tr} (h:Rc0 l σ0 σ):Gr (K0 l) σ0 σ:=by
 induction h with
 | refl=>exact .refl
 | ld i _ ih=>exact ih.trans (.ld i fun _ c=>by cases c)
 | nf _ hf ih=>exact ih.trans (.st _ _ fun h0 hs0=>by
   rename_i x f v _
   rcases zcy hl (x:=x) (f:=f) (by omega) with e | ⟨y,hy,e,_⟩
   ·rw [e] at h0; omega
   ·exact .inr ⟨y,f,hy,hf,e⟩)
 | low _ hj ih=>exact ih.trans (.st _ _ fun _ _=>.inl hj)
theorem K0.ne {l:Lay} (hl:l.Ok) {a:Acc} (h:K0 l a) (hs:a.store=true) {x f:Int} (hx:l.nd x) (hf:0<=f/\f<=2):a.cell≠l.field x f:=fun e=>by
 rcases h hs with k | ⟨y,q,hy,hq,e2⟩
 ·exact zaO hl k hx (by omega) e
 ·have:=(zac hl hx (by omega) hy (by omega)).1 (e.symm.trans e2); omega
def RtsP (l:Lay) (m:M) (rs:Array Int) (u v:Int):Prop:=∃ rt:Int->Int,(∀ x,V0 l x->∃ h:Nat,(h:Int)<=l.nodes/\Up (parent l m) (V0 l) h x (rt x))/\rs=zaw (rt (l.vertex 0 u)) (rt (l.vertex 0 v))
structure PlanN (W:Pt) (pr ver:Int->Int) (g':G) (ex:PlanS) (m':M):Prop where
 tree:ex.tree=false
 good:okM W.m0 ex.work.toList
 k:∀ a∈ex.work.toList,W.A2 a.cell/\K0 W.l a
 ne:ex.work.size≠0
 fin:∀ j,W.A2 j->get (runM W.m0 ex.work.toList) j=get m' j
 fin0:∀ j,¬W.A2 j->get (runM W.m0 ex.work.toList) j=get W.m0 j
 fr:∀ j,¬W.A2 j->get m' j=get W.m1 j
 calm:Calm W.l pr W.p ver m' g'
 par:∀ x,V0 W.l x->parent W.l m' x=W.par0 x
 lock:∀ x,W.l.nd x->get m' (W.l.field x 0)=get W.m1 (W.l.field x 0)
inductive PlanR (W:Pt) (pr ver:Int->Int) (g':G) (held:Array Int) (u v:Int) (row0:Array Acc) (ex:PlanS):Prop
 | tree {A C1 C2:List Acc} {m':M} {ver':Int->Int} (h:PlanD W pr ver g' held ex.roots row0 ex A C1 C2 m' ver') (hr:RtsP W.l m' ex.roots u v):PlanR W pr ver g' held u v row0 ex
 | plain {m':M} (h:PlanN W pr ver g' ex m') (hr:RtsP W.l m' ex.roots u v):PlanR W pr ver g' held u v row0 ex
section
variable {W:Pt} {pr ver:Int->Int} {g g':G} {En Lv:Int->Prop} {σ:Tr} {m:M}
theorem zfK (hW:W.Ok) (ht:Twin W En Lv σ m) (hR:zau W.l pr m g') {rt:Int->Int} (hrt:∀ x,V0 W.l x->∃ h:Nat,(h:Int)<=W.l.nodes/\Up (parent W.l m) (V0 W.l) h x (rt x)) {x:Int} (hx:V0 W.l x) (hN:W.N x) :
  ∃ τ,root W.l 561 σ x=some (rt x,τ)/\Twin W En Lv τ m/\W.N (rt x)/\Gr (K0 W.l) σ τ/\σ.row.size<τ.row.size:=by
 have hl:=hW.hl
 have e:=hR.rootS hl (fun _ _=>rfl) (fun x hx=>by obtain ⟨h,_,k⟩:=hrt x hx; exact ⟨h,k⟩) hx (k:=561) (by decide)
 have k:=zia hW 561 ht (.inr hN)
 rw [e] at k
 obtain ⟨r,er,h1,h2,h3⟩:=k.ex
 obtain ⟨r0,τ⟩:=r
 dsimp only at h1 h2 h3
 subst h1
 refine ⟨τ,er,h3,?_,(zo6 er .refl).row hl,?_⟩
 ·obtain ⟨h,_,hu⟩:=hrt x hx
  have:=hu.last.1.1
  rcases h2 with h2 | h2
  ·unfold Lay.nd at this; omega
  ·exact h2
 ·rw [root] at er
  have hnd:=hx.1
  have hb:=zaL hl hnd (f:=2) (by decide)
  have gl:σ.row.size<(MemLike.ld σ (W.l.field x 2)).row.size:=by
   rw [zkc,if_pos ⟨by omega,by rw [ht.sz,ht.clo.size]; omega⟩]; simp
  have hx0:x≠0:=by unfold Lay.nd at hnd; omega
  rw [Zp hx0] at er
  split at er
  ·have:MemLike.ld σ (W.l.field x 2)=τ:=congrArg Prod.snd (Option.some.inj er)
   rw [<-this]; exact gl
  ·exact Nat.lt_of_lt_of_le gl (Pre.root er).size
theorem vx0 {l:Lay} (hl:l.Ok) {v:Int} (hv:0<=v/\v<l.V):V0 l (l.vertex 0 v):=(zbY hl (σ:=(#[]:M)) hv).2
theorem zzx {l:Lay} {σ:Tr} {s:Int}:Go.Tm.eget l σ s=Go.Tm.eget l σ.mem s:=by
 have g:∀ {τ τ':Tr} {i:Int},τ.mem=τ'.mem->get τ i=get τ'.mem i:=fun h=>by rw [zoT,h]
 simp only [Go.Tm.eget,endsU,endsV,zm4,zhr,find,zoT,zsk]
 rfl
theorem zr5 (h:Rdy W pr ver g) (ht:Twin W En Lv σ m) (hw:Writ W.l pr W.p W.par0 ver m g') (hR:Rch W.l W.p W.m1 m) {u v:Int} (hu:W.C u) (hv:W.C v) {held:Array Int} (hh:∀ i,i<held.size->W.N held[i]!) (tree:Bool) (h0:tree=false->Gr (K0 W.l) ⟨W.m0,#[]⟩ σ) :
  ∃ ex row0,planF W.l W.p 561 held tree u v σ=some ex/\PlanR W pr ver g' held u v row0 ex/\ex.tree=tree/\Gr (K0 W.l) σ ⟨σ.mem,row0⟩:=by
 have hW:=h.ok
 have hl:=hW.hl
 obtain ⟨rt,hrt,_,_⟩:=hw.rt.roots hl
 have hcu:=hW.hc u hu
 have hcv:=hW.hc v hv
 have lb:=zbz hl
 have Nu:W.N (W.l.vertex 0 u):=(nV hW h.pt ⟨by omega,hcu⟩).2 hu
 have Nv:W.N (W.l.vertex 0 v):=(nV hW h.pt ⟨by omega,hcv⟩).2 hv
 obtain ⟨τ1,e1,t1,n1,q1,z1⟩:=zfK hW ht hw.rt hrt (vx0 hl hcu) Nu
 obtain ⟨τ2,e2,t2,n2,q2,z2⟩:=zfK hW t1 hw.rt hrt (vx0 hl hcv) Nv
 unfold planF
 rw [e1,Option.bind_some]
 dsimp only
 rw [e2,Option.bind_some]
 dsimp only
 have hrs:∀ i,i<(zaw (rt (W.l.vertex 0 u)) (rt (W.l.vertex 0 v))).size->W.N (zaw (rt (W.l.vertex 0 u)) (rt (W.l.vertex 0 v)))[i]!:=fun i hi=>by
  unfold zaw at hi ⊢
  split
  ·next e =>
   rw [Zp e] at hi
   have:i=0:=by simp at hi; omega
   subst this; exact n1
  ·next e =>
   rw [Zn e] at hi
   have:i=0\/i=1:=by simp at hi; omega
   rcases this with rfl | rfl
   ·show W.N (min _ _)
    rcases Int.le_total (rt (W.l.vertex 0 u)) (rt (W.l.vertex 0 v)) with c | c
    ·rw [Int.min_eq_left c]; exact n1
    ·rw [Int.min_eq_right c]; exact n2
   ·show W.N (max _ _)
    rcases Int.le_total (rt (W.l.vertex 0 u)) (rt (W.l.vertex 0 v)) with c | c
    ·rw [Int.max_eq_right c]; exact n2
    ·rw [Int.max_eq_left c]; exact n1
 have gq:Gr (K0 W.l) σ ⟨σ.mem,τ2.row⟩:=by
  obtain ⟨r,e,hr⟩:=q1.trans q2
  exact ⟨r,e,hr⟩
 cases tree with
 | true =>
  obtain ⟨A,C1,C2,m',ver',hD,hpar⟩:=zr3 h t2 hw hR (held:=held) (rs:=zaw (rt (W.l.vertex 0 u)) (rt (W.l.vertex 0 v))) hh hrs
  rw [Zp Z]
  refine ⟨_,τ2.row,Z,.tree (A:=A) (C1:=C1) (C2:=C2) (m':=m') (ver':=ver') (by rw [hD.roots]; exact hD) ⟨rt,fun x hx=>?_,hD.roots⟩,hD.tree,gq⟩
  obtain ⟨k,hk,hu⟩:=hrt x hx
  exact ⟨k,hk,hu.congr hpar⟩
 | false =>
  rw [Zn (by decide)]
  refine ⟨_,τ2.row,Z,.plain (m':=m) ?_ ⟨rt,hrt,Z⟩,Z,gq⟩
  have gk:Gr (K0 W.l) ⟨W.m0,#[]⟩ τ2:=((h0 Z).trans q1).trans q2
  obtain ⟨r,er,hr⟩:=gk.list
  have er:τ2.row.toList=r:=by rw [er]; rfl
  have a2:Ag W τ2 m:=t2.ag h.eq
  have same:∀ x f,W.l.nd x->(0<=f/\f<=2)->gf W.l m x f=gf W.l W.m1 x f:=fun x f hx hf=>by
   by_cases ha:W.A2 (W.l.field x f)
   ·have x1:get τ2.mem (W.l.field x f)=gf W.l m x f:=a2.eq _ ha
    rw [<-x1,<-a2.rp.run,zeE fun a ha hs e=>(hr a (by rw [<-er]; exact ha)).ne hl hs hx hf e]
    exact h.eq _ ha
   ·exact a2.fr _ ha
  have par:∀ x,V0 W.l x->parent W.l m x=W.par0 x:=fun x hx=>by
   have:=same x 2 hx.1 (by decide)
   rw [h.par]; unfold parent pnew
   rw [Zp hx.2,Zp hx.2]
   unfold gf at this; rw [this]
  refine ⟨Z,a2.rp.ok,fun a ha=>⟨?_,hr a (by rw [<-er]; exact ha)⟩,?_,fun j hj=>?_,fun j hj=>?_,fun j hj=>a2.fr j hj,⟨hw.rt,hw.hd,fun x hx=>?_,fun x hx=>?_,?_⟩,par,fun x hx=>same x 0 hx (by decide)⟩
  ·have:=t2.acc a ha
   unfold Pt.okA at this
   split at this
   ·exact .inl this.adr
   ·exact .inl this
  ·show τ2.row.size≠0
   omega
  ·show get (runM W.m0 τ2.row.toList) j=_
   rw [a2.rp.run]; exact a2.eq j hj
  ·show get (runM W.m0 τ2.row.toList) j=_
   rw [a2.rp.run]; exact a2.fr0 j hj
  ·rw [same x 2 hx.1 (by decide),par x hx,h.par]; exact h.calm.pp x hx
  ·rw [same x 1 hx.1 (by decide)]; exact h.calm.pv x hx
  ·exact hw.st
theorem Rdy.twin (h:Rdy W pr ver g):Twin W (En0 W g) (zdJ (Ls0 W g)) ⟨W.m0,#[]⟩ W.m1 :=
 Twin.start h.ok h.pt h.calm.rt (by rw [h.par]; exact (h.calm.writ h.ok.hl).sn) (fun j hj=>h.eq j (.inl hj)) h.sz
theorem Rdy.writ (h:Rdy W pr ver g):Writ W.l pr W.p W.par0 ver W.m1 g:=by rw [h.par]; exact h.calm.writ h.ok.hl
theorem Rdy.held (h:Rdy W pr ver g) {rt:Int->Int} (hrt:∀ x,V0 W.l x->∃ h:Nat,(h:Int)<=W.l.nodes/\Up (parent W.l W.m1) (V0 W.l) h x (rt x)) {v:Int} (hv:W.C v):W.N (rt (W.l.vertex 0 v)):=by
 have hW:=h.ok
 have hcv:=hW.hc v hv
 have lb:=zbz hW.hl
 obtain ⟨_,_,_,n,_⟩:=zfK hW h.twin h.calm.rt hrt (vx0 hW.hl hcv) ((nV hW h.pt ⟨by omega,hcv⟩).2 hv)
 exact n
theorem zvI (h:Rdy W pr ver g) {s u v:Int} (hs:W.E s) (hu:W.C u) (hv:W.C v) (hne:u≠v) (hno:g.has s=false) (hf:∀ q,g.has q=true->¬(g.u q=min u v/\g.v q=max u v)) {held:Array Int} (hh:∀ i,i<held.size->W.N held[i]!) :
  ∃ ex row0 t,insF W.l W.p 561 held W.m0 s u v=some ex/\PlanR W pr ver (g.put s (min u v) (max u v) 0 t) held u v row0 ex/\ex.tree=t:=by
 have hW:=h.ok
 obtain ⟨t,m',e,hw,hr⟩:=h.writ.ins hW.hl hW.hp h.hT (hW.he s hs) (hW.hc u hu) (hW.hc v hv) hne hno hf
 unfold insF
 have k:=zjt hW 561 h.twin hs (fun c=>by have:=c.1; rw [hno] at this; cases this) hu hv
 rw [e] at k
 have fin:∀ {En Lv:Int->Prop} {τ:Tr},Twin W En Lv τ m'->zbf W.l W.p 561 (⟨W.m0,#[]⟩:Tr) s u v=some (t,τ)->∃ ex row0 t',(Option.bind (some (t,τ)) fun r=>planF W.l W.p 561 held r.1 u v r.2)=some ex/\PlanR W pr ver (g.put s (min u v) (max u v) 0 t') held u v row0 ex/\ex.tree=t':=fun {En Lv τ} ht he=>by
  obtain ⟨ex,row0,h1,h2,h3,_⟩:=zr5 h ht hw hr hu hv hh t fun et=>by subst et; exact (zsO he .refl).row hW.hl
  exact ⟨ex,row0,t,h1,h2,h3⟩
 rcases k with k | k
 ·obtain ⟨⟨t',τ⟩,er,h1,_,h3⟩:=k.ex
  dsimp only at h1 h3
  subst h1
  rw [er]; exact fin h3 er
 ·obtain ⟨⟨t',τ⟩,er,h1,_,h3⟩:=k.ex
  dsimp only at h1 h3
  subst h1
  rw [er]; exact fin h3 er
theorem zv0 (h:Rdy W pr ver g) {s:Int} (hh0:g.has s=true) (hu:W.C (g.u s)) {held:Array Int} (hh:∀ i,i<held.size->W.N held[i]!) :
  ∃ ex row0 g',delF W.l W.p 561 held W.m0 s=some ex/\PlanR W pr ver g' held (g.u s) (g.v s) row0 ex/\g'.has=updB g.has s false/\g'.u=g.u/\g'.v=g.v:=by
 have hW:=h.ok
 obtain ⟨t,b,o,m',g',e,hw,e1,e2,e3,hr⟩:=h.writ.del hW.hl hW.hp h.hT hh0
 unfold delF
 have k:=zjw hW (k:=561) (by decide) h.twin h.calm.rt h.calm.hd h.pt.ptg hh0 hu
 rw [e] at k
 obtain ⟨⟨t',τ⟩,er,h1,_,h3⟩:=k.ex
 dsimp only at h1 h3
 subst h1
 have hv:W.C (g.v s):=(h.pt.uv s hh0).1 hu
 have eg:Go.Tm.eget W.l W.m0 s=⟨g.u s,g.v s,g.lv s,g.tr s⟩:=by
  rw [<-h.calm.rt.eget hW.hl hh0,<-h.twin.eget (h.pt.ptg.en s hh0 hu)]
  exact (zzx (σ:=⟨W.m0,#[]⟩)).symm
 rw [er,eg]
 dsimp only [Option.bind]
 obtain ⟨ex,row0,x1,x2,x3,_⟩:=zr5 h h3 hw hr hu hv hh t fun et=>by subst et; exact (zsR er .refl).row hW.hl
 exact ⟨ex,row0,g',x1,x2,e1,e2,e3⟩
end
def Rt (l:Lay) (m:M) (rt:Int->Int):Prop:=∀ x,V0 l x->∃ h:Nat,(h:Int)<=l.nodes/\Up (parent l m) (V0 l) h x (rt x)
def CW (l:Lay) (g:G) (u v w:Int):Prop:=(0<=w/\w<l.V)/\(Wh g w u\/Wh g w v)
def EW (l:Lay) (g:G) (u v s q:Int):Prop:=(0<=q/\q<l.S)/\(g.has q=false/\q=s\/g.has q=true/\CW l g u v (g.u q))
def ptW (l:Lay) (p:Pen) (m:M) (g:G) (u v s:Int):Pt:=⟨l,p,parent l m,m,m,CW l g u v,EW l g u v s⟩
section
variable {l:Lay} (hl:l.Ok) {p:Pen} (hp:PenOk p) {pr:Int->Int} {m:M} {g g':G} {u v s:Int}
theorem Wh.edge (h:g.has s=true):Wh g (g.u s) (g.v s):=.step (.refl _) s h (.inl ⟨Z,Z⟩)
include hl
theorem zz4 (hp:PenOk p):(ptW l p m g u v s).Ok:=⟨hl,hp,fun w h=>h.1,fun q h=>h.1⟩
theorem zz3 (hR:zau l pr m g):PtOk (ptW l p m g u v s) g:=by
 have key:∀ q,g.has q=true->(CW l g u v (g.u q)↔CW l g u v (g.v q)):=fun q hq=>by
  have r:=hR.rng hl hq
  have e:=Wh.edge hq
  exact ⟨fun h=>⟨by omega,h.2.imp (fun k=>Conn.trans (Conn.symm e) k) fun k=>Conn.trans (Conn.symm e) k⟩,fun h=>⟨by omega,h.2.imp (fun k=>Conn.trans e k) fun k=>Conn.trans e k⟩⟩
 exact ⟨key,fun q hq hc=>⟨(hR.rng hl hq).1,.inr ⟨hq,hc⟩⟩,fun q hE hq=>by
  rcases hE.2 with ⟨h,_⟩ | ⟨_,h⟩
  ·rw [h] at hq; cases hq
  ·exact h⟩
theorem zxO {ver:Int->Int} (hp:PenOk p) (hT:p.thread<=l.T) (hg:p.tag+1<=16777215) (h:Calm l pr p ver m g) (hv:∀ x,V0 l x->0<=ver x/\ver x<=60000):Rdy (ptW l p m g u v s) pr ver g :=
 ⟨zz4 hl hp,zz3 hl h.rt,h,Z,hv,fun _ _=>Z,Z,hT,hg⟩
theorem zmR (hp:PenOk p) (hT:p.thread<=l.T) {x:Int} (e:l.state p.thread=l.field x 0) (hx:l.nd x):False:=by
 have tp:=hp.t
 have hs:=zcD hl (t:=p.thread) ⟨tp.1,hT⟩
 have ho:=zb7 hl
 have hh:l.heads=l.T+1+l.S * 7:=rfl
 have hb:=zaL hl hx (f:=0) (by decide)
 omega
theorem Calm.locks {ver:Int->Int} {m':M} (hp:PenOk p) (hT:p.thread<=l.T) (h:Calm l pr p ver m g) (hz:m'.size=m.size) (hf:∀ j,(∀ x,l.nd x->j≠l.field x 0)->get m' j=get m j):Calm l pr p ver m' g:=by
 have tp:=hp.t
 have fs:∀ x f,l.nd x->(1<=f/\f<7)->gf l m' x f=gf l m x f:=fun x f hx hf2=>hf _ fun y hy e=>by have:=(zac hl hx (by omega) hy (by decide)).1 e; omega
 have pa:∀ x,l.nd x->parent l m' x=parent l m x:=fun x hx=>zbD (fs x 2 hx (by decide))
 refine ⟨h.rt.same_ hl hz (fun j hj=>hf j fun x hx=>zaO hl hj hx (by decide)) (fun x f hx hf2=>fs x f hx (by omega)) (fun x hx=>zmi (fs x 2 hx (by decide))) pa,h.hd,fun x hx=>?_,fun x hx=>?_,?_⟩
 ·rw [fs x 2 hx.1 (by decide),pa x hx.1]; exact h.pp x hx
 ·rw [fs x 1 hx.1 (by decide)]; exact h.pv x hx
 ·rw [hf _ fun x hx e=>?_]
  ·exact h.st
  ·exact zmR hl hp hT e hx
end
theorem zh9 {v:Int} {w:Wd} (hv:0<=v/\v<18446744073709551616) (h:zae v=(w,true)):w.old=v / 65536 % 65536/\w.new=v % 65536/\w.thread=v / 65536 / 65536 % 256/\w.tag=v / 65536 / 65536 / 256:=by
 have hu:(zae v).2=true:=by rw [h]
 have e:=(zcg hu).2
 rw [h,zhA hv] at e
 have e:=congrArg Prod.fst e
 dsimp only at e
 subst e
 dsimp only
 omega
theorem zpF {m:M} {j:Int}:0<=get m j/\get m j<18446744073709551616:=MemLike.rng _ _
section
variable {l:Lay} {τ:M} {x f:Int}
theorem zaC {n:Int} (h:zbx (gf l τ x f) n):zaK l τ x f=n:=by
 have p:=zh9 zpF h
 dsimp only at p
 unfold zaK
 rw [Zp (by omega)]; omega
theorem zpy {o n t tag s:Int} (ht:1<=t/\t<=l.T) (h:zae (gf l τ x f)=(⟨o,n,t,tag⟩,true)) (hs:get τ (l.state t)=s):zaK l τ x f=if s / 2 > tag\/(s / 2=tag/\s % 2=1) then n else o:=by
 have p:=zh9 zpF h
 dsimp only at p
 unfold zaK
 rw [Zn (by omega),<-p.2.2.1,hs]
 unfold refM
 rw [<-p.2.2.1,<-p.2.2.2,<-p.2.1,<-p.1]
 by_cases hc:s / 2 > tag\/(s / 2=tag/\s % 2=1)
 ·rw [Zp hc,Zp (.inr hc)]
 ·rw [Zn hc,Zn (by omega)]
theorem zkk {tag:Int} (h:0<=tag/\tag<=16777215) (dn:Bool):zaT tag dn / 2=tag/\zaT tag dn % 2=bit dn:=by
 rw [zgU h]
 unfold bit
 cases dn<;>simp<;>omega
theorem OldW.lm {W:Pt} (hp:PenOk W.p) (hT:W.p.thread<=l.T) {o:Int} (h:OldW W o (gf l τ x f)) (hst:get τ (l.state W.p.thread)=zaT W.p.tag false):zaK l τ x f=o:=by
 rcases h with h | ⟨q,h⟩
 ·exact zaC h
 ·rw [zpy ⟨hp.t.1,hT⟩ h hst,if_neg]
  obtain ⟨a,b⟩:=zkk hp.g false
  rw [a,b]
  unfold bit
  simp
theorem NewW.lm {W:Pt} (hp:PenOk W.p) (hT:W.p.thread<=l.T) {n:Int} (h:NewW W n (gf l τ x f)) (hst:get τ (l.state W.p.thread)=zaT W.p.tag true):zaK l τ x f=n:=by
 rcases h with h | ⟨q,h⟩
 ·exact zaC h
 ·rw [zpy ⟨hp.t.1,hT⟩ h hst,if_pos]
  obtain ⟨a,b⟩:=zkk hp.g true
  rw [a,b]
  exact .inr ⟨Z,Z⟩
theorem zsp {par:Int->Int} {P:Int->Prop} (hm:∀ x,P x->zaK l τ x 2=par x) {h:Nat} {x r:Int} (u:Up par P h x r):∀ k,h<=k->zeS l τ k x=r:=by
 induction u with
 | top hx h0 =>
  intro k hk
  obtain ⟨k,rfl⟩:∃ q,k=q+1:=⟨k - 1,by omega⟩
  rw [zeS,Zp (by rw [hm _ hx]; exact h0)]
 | step hx h0 _ ih =>
  intro k hk
  obtain ⟨k,rfl⟩:∃ q,k=q+1:=⟨k - 1,by omega⟩
  rw [zeS,Zn (by rw [hm _ hx]; exact h0),hm _ hx]
  exact ih k (by omega)
theorem ziI (hl:l.Ok) {par rt:Int->Int} (hm:∀ x,V0 l x->zaK l τ x 2=par x) (hr:∀ x,V0 l x->∃ h:Nat,(h:Int)<=l.nodes/\Up par (V0 l) h x (rt x)) {v:Int} (hv:0<=v/\v<l.V):zaS l τ v=rt (l.vertex 0 v):=by
 obtain ⟨h,hh,hu⟩:=hr _ (vx0 hl hv)
 exact zsp hm hu _ (by omega)
end
section
variable {W:Pt} {pr:Int->Int} {g:G} {m m':M} {rt rt':Int->Int}
theorem znu (hW:W.Ok) (hP:PtOk W g) (hR:zau W.l pr m g) (hrt:Rt W.l m rt) {x:Int} (hx:V0 W.l x) :
  (W.N x->∃ h:Nat,(h:Int)<=W.l.nodes/\Up (parent W.l m) (fun y=>V0 W.l y/\W.N y) h x (rt x))/\(¬W.N x->∃ h:Nat,(h:Int)<=W.l.nodes/\Up (parent W.l m) (fun y=>V0 W.l y/\¬W.N y) h x (rt x)):=by
 have hl:=hW.hl
 obtain ⟨F,mk,L,hI⟩:=hR
 have hF:=hI.lm.forest
 obtain ⟨h,hh,hu⟩:=hF.up hl hx.1
 have lb:=zbz hl
 have hT:=hI.tours 0 (by omega)
 have hv:∀ y∈(F x).list,V0 W.l y:=fun y hy=>⟨(hF.rep x hx.1).nd y hy,decide_eq_true (hT.lev x hx.1 (of_decide_eq_true hx.2) y hy)⟩
 obtain ⟨h',_,hu'⟩:=hrt x hx
 have er:=((hu.mono hv).uniq hu').2
 have hN:∀ y∈(F x).list,W.N y->W.N x:=fun y hy hn=>zfM hW hP hI hn (by rw [hF.cls x hx.1 y hy]; exact hF.mem x hx.1)
 refine ⟨fun hn=>⟨h,hh,?_⟩,fun hn=>⟨h,hh,?_⟩⟩
 ·rw [<-er]; exact hu.mono fun y hy=>⟨hv y hy,zfM hW hP hI hn hy⟩
 ·rw [<-er]; exact hu.mono fun y hy=>⟨hv y hy,fun c=>hn (hN y hy c)⟩
theorem zwv (hW:W.Ok) (hP:PtOk W g) (hR:zau W.l pr m g) (hrt:Rt W.l m rt) (hrt':Rt W.l m' rt') (hpar:∀ x,V0 W.l x->¬W.N x->parent W.l m' x=parent W.l m x) {x:Int} (hx:V0 W.l x) (hN:¬W.N x):rt' x=rt x:=by
 obtain ⟨h,_,hu⟩:=(znu hW hP hR hrt hx).2 hN
 obtain ⟨h',_,hu'⟩:=hrt' x hx
 have:=(hu.congr (par':=parent W.l m') fun y hy=>hpar y hy.1 hy.2).mono (fun y hy=>hy.1)
 exact (hu'.uniq this).2
theorem zxG (hW:W.Ok) (hP:PtOk W g) (hR:zau W.l pr m g) (hrt:Rt W.l m rt) {x:Int} (hx:V0 W.l x):W.N (rt x)↔W.N x:=by
 by_cases hN:W.N x
 ·obtain ⟨h,_,hu⟩:=(znu hW hP hR hrt hx).1 hN
  exact ⟨fun _=>hN,fun _=>hu.last.1.2⟩
 ·obtain ⟨h,_,hu⟩:=(znu hW hP hR hrt hx).2 hN
  exact ⟨fun c=>absurd c hu.last.1.2,fun c=>absurd c hN⟩
end
section
variable {l:Lay} (hl:l.Ok) {pr:Int->Int} {m:M} {g g':G}
include hl
theorem zky (hz:m.size=l.cells) {d:Array Int} {but:List Int} {v:Int} (hv:0<=v/\v<18446744073709551616) (hd:∀ i,i<d.size->l.nd d[i]!):∀ k,k<=d.size->LSt l (fun x=>∃ i,i<k/\d[i]! =x/\¬x∈but) v m (zbq l d but v k m)
 | 0,_=>⟨Z,fun x ⟨i,hi,_⟩=>absurd hi (Nat.not_lt_zero i),fun _ _=>Z⟩
 | k+1,hk=>by
  have h3:=zky hz (but:=but) hv hd k (by omega)
  rw [zbq]
  have hN:=hd k (by omega)
  by_cases hb:d[k]!∈but
  ·rw [Zp hb]
   refine ⟨h3.size,fun x hx=>h3.yes x ?_,fun j hj=>h3.no j fun x ⟨i,hi,e⟩=>hj x ⟨i,by omega,e⟩⟩
   obtain ⟨i,hi,e,hn⟩:=hx
   refine ⟨i,?_,e,hn⟩
   rcases Nat.lt_or_ge i k with hlt | hge
   ·exact hlt
   ·have:i=k:=by omega
    subst this; rw [e] at hb; exact absurd hb hn
  ·rw [Zn hb]
   have hb0:=zaL hl hN (f:=0) (by decide)
   refine ⟨by rw [zaz]; exact h3.size,fun x hx=>?_,fun j hj=>?_⟩
   ·obtain ⟨i,hi,rfl,hn⟩:=hx
    rw [zcJ hv]
    by_cases e:l.field d[i]! 0=l.field d[k]! 0
    ·rw [if_pos ⟨e,by omega,by rw [h3.size,hz]; omega⟩]
    ·rw [Zn fun c=>e c.1]
     refine h3.yes _ ⟨i,?_,Z,hn⟩
     rcases Nat.lt_or_ge i k with hlt | hge
     ·exact hlt
     ·have:i=k:=by omega
      subst this; exact absurd Z e
   ·rw [zap (hj _ ⟨k,by omega,Z,hb⟩)]
    exact h3.no j fun x ⟨i,hi,e⟩=>hj x ⟨i,by omega,e⟩
theorem zmT (hz:m.size=l.cells) {d:Array Int} {v:Int} (hv:0<=v/\v<18446744073709551616) (hd:∀ x∈d.toList,l.nd x):(zbq l d [] v d.size m:M).size=m.size/\(∀ x,l.nd x->get (zbq l d [] v d.size m:M) (l.field x 0)=if x∈d.toList then v else get m (l.field x 0))/\∀ j,(∀ x,l.nd x->j≠l.field x 0)->get (zbq l d [] v d.size m:M) j=get m j:=by
 have h:=zky hl hz (but:=[]) hv (d:=d) (fun i hi=>hd _ (zb8.2 ⟨i,hi,Z⟩)) d.size (Nat.le_refl _)
 refine ⟨h.size,fun x hx=>?_,fun j hj=>h.no j fun x ⟨i,hi,e,_⟩=>hj x (hd x (zb8.2 ⟨i,hi,e⟩))⟩
 by_cases hm:x∈d.toList
 ·rw [Zp hm]
  obtain ⟨i,hi,e⟩:=zb8.1 hm
  exact h.yes x ⟨i,hi,e,by simp⟩
 ·rw [Zn hm]
  refine h.no _ fun y ⟨i,hi,e,_⟩ e2=>hm ?_
  have hy:=hd y (zb8.2 ⟨i,hi,e⟩)
  rw [((zac hl hx (by decide) hy (by decide)).1 e2).1]
  exact zb8.2 ⟨i,hi,e⟩
theorem zmz (hR:zau l pr m g) {rt:Int->Int} (hrt:Rt l m rt) {u v:Int} (hu:0<=u/\u<l.V) (hv:0<=v/\v<l.V):rt (l.vertex 0 u)=rt (l.vertex 0 v)↔Jn g 0 u v:=by
 obtain ⟨rt2,h1,h2,_⟩:=hR.roots hl
 have e:∀ w:Int,0<=w/\w<l.V->rt (l.vertex 0 w)=rt2 (l.vertex 0 w):=fun w hw=>by
  obtain ⟨_,_,a⟩:=hrt _ (vx0 hl hw)
  obtain ⟨_,_,b⟩:=h1 _ (vx0 hl hw)
  exact (a.uniq b).2
 rw [e u hu,e v hv]; exact h2 u v hu hv
theorem zmf (hR:zau l pr m g) (hH:Hdt l g) {u v:Int}:Wh g u v↔Jn g 0 u v:=Wh.jn hH fun q hq=>(hR.rng hl hq).2.2.1
end
def zbM (l:Lay) (m:M) (u v:Int):Array Int:=zaw (zaS l m u) (zaS l m v)
def zar (l:Lay) (m:M) (u v:Int):M:=zbq l (zbM l m u v) [] 1 (zbM l m u v).size m
def Lk (l:Lay) (m:M):Prop:=∀ rt,Rt l m rt->∀ x,l.nd x->get m (l.field x 0)=open Classical in if ∃ w:Int,(0<=w/\w<l.V)/\x=rt (l.vertex 0 w) then 0 else 65535
structure P19 (l:Lay) (pr:Int->Int) (k:Nat) (m:M) (tag:Int) (g:G) (d:Array EdR):Prop where
 dc:Dc g d
 c:∃ ver,Calm l pr ⟨1,tag⟩ ver m g/\∀ x,V0 l x->0<=ver x/\ver x<=k
 tg:0<=tag/\tag<=k
 lk:Lk l m
section
variable {W:Pt} {pr ver:Int->Int} {g g':G} {held:Array Int} {u v:Int} {row0:Array Acc} {ex:PlanS}
structure Left (W:Pt) (pr ver:Int->Int) (g':G) (held:Array Int) (u v:Int) (ex:PlanS) (m':M) (ver':Int->Int):Prop where
 run:runM W.m0 ex.work.toList=m'
 good:okM W.m0 ex.work.toList
 ne:ex.work.size≠0
 calm:Calm W.l pr ⟨W.p.thread,if ex.tree then W.p.tag+1 else W.p.tag⟩ ver' m' g'
 vers:∀ x,V0 W.l x->ver' x=ver x\/ver' x=ver x+1/\ex.tree=true
 rts:RtsP W.l m' ex.roots u v
 out:∀ x,V0 W.l x->¬W.N x->parent W.l m' x=parent W.l W.m1 x
 lock:∀ x,W.l.nd x->get m' (W.l.field x 0)=zqB W.p held ex.roots x (get W.m1 (W.l.field x 0))
theorem Rdy.out (rd:Rdy W pr ver g) {m':M} (hf:∀ j,¬W.A2 j->get m' j=get W.m1 j) {x:Int} (hx:V0 W.l x) (hN:¬W.N x):parent W.l m' x=parent W.l W.m1 x :=
 zbD (hf _ fun c=>hN (zhx rd.ok hx.1 (by decide) c))
theorem PlanR.left (rd:Rdy W pr ver g) (hp:PlanR W pr ver g' held u v row0 ex) (hm:W.m1=W.m0) (hu:0<=u/\u<W.l.V) (hv:0<=v/\v<W.l.V) {rt:Int->Int} (hrt:Rt W.l W.m1 rt) (hh:held=zaw (rt (W.l.vertex 0 u)) (rt (W.l.vertex 0 v))):∃ m' ver',Left W pr ver g' held u v ex m' ver':=by
 have hl:=rd.ok.hl
 have ext:∀ {m':M},m'.size=W.m0.size->(∀ j,W.A2 j->get (runM W.m0 ex.work.toList) j=get m' j)->(∀ j,¬W.A2 j->get (runM W.m0 ex.work.toList) j=get W.m0 j)->(∀ j,¬W.A2 j->get m' j=get W.m1 j)->runM W.m0 ex.work.toList=m':=fun {m'} hz h1 h2 h3=>zsl (by rw [zdC,hz]) fun j=>by
  by_cases ha:W.A2 j
  ·exact h1 j ha
  ·rw [h2 j ha,h3 j ha,hm]
 have sz:∀ {m':M} {p:Pen} {vr:Int->Int},Calm W.l pr p vr m' g'->m'.size=W.m0.size:=fun {m' p vr} hc=>by
  have a:(m'.size:Int)=W.l.cells:=hc.rt.size
  have b:(W.m1.size:Int)=W.l.cells:=rd.calm.rt.size
  rw [<-hm]; omega
 cases hp with
 | tree h hr =>
  rename_i A C1 C2 m' ver'
  refine ⟨m',ver',ext (sz h.calm) h.fin h.fin0 h.fr,h.good,fun c=>?_,?_,fun x hx=>(h.vers x hx).imp id fun e=>⟨e,h.tree⟩,hr,fun x hx hN=>rd.out h.fr hx hN,h.lock⟩
  ·have e:=congrArg List.length h.work
   simp at e
   omega
  ·rw [h.tree]; exact h.calm
 | plain h hr =>
  rename_i m'
  refine ⟨m',ver,ext (sz h.calm) h.fin h.fin0 h.fr,h.good,h.ne,?_,fun x hx=>.inl Z,hr,fun x hx hN=>rd.out h.fr hx hN,fun x hx=>?_⟩
  ·rw [h.tree]; exact h.calm
  ·obtain ⟨rt',h1,h2⟩:=hr
   have e:∀ w:Int,0<=w/\w<W.l.V->rt' (W.l.vertex 0 w)=rt (W.l.vertex 0 w):=fun w hw=>by
    obtain ⟨_,_,a⟩:=h1 _ (vx0 hl hw)
    obtain ⟨_,_,b⟩:=hrt _ (vx0 hl hw)
    exact (a.uniq (b.congr fun y hy=>by rw [h.par y hy,rd.par])).2
   rw [h.lock x hx,h2,e u hu,e v hv,<-hh]
   unfold zqB
   rw [Zn (fun c=>c.2 c.1),Zn (fun c=>c.2 c.1)]
end
end Go.Tm
