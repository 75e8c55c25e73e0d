import Derived.OrdersHeld
import Derived.Tactics
import Derived.IntWalk
import Derived.Below
import Derived.Lib.SliceRun
import Derived.Laws.AppendOwn
import Derived.RangeFuncRecord
import Derived.RangeFuncIn
import Derived.Laws.StructEq
import Derived.MapKept
namespace Go
theorem Z {α:Sort _} {a:α}:a=a:=rfl
theorem Zt:True:=trivial
theorem Zn {c:Prop} {h:Decidable c} (w:¬c) {α:Sort _} {t e:α}:ite c t e=e:=if_neg w
theorem Zp {c:Prop} {h:Decidable c} (w:c) {α:Sort _} {t e:α}:ite c t e=t:=if_pos w
theorem Zb {α:Type _} {β:Type _} {o:Option α} {f:α->Option β} {b:β} (w:o.bind f=some b):∃ a,o=some a∧f a=some b:=Option.bind_eq_some_iff.1 w
end Go
set_option linter.unusedVariables false
set_option linter.unusedSimpArgs false
set_option linter.unusedSectionVars false
namespace Go.Eng
abbrev HF:=Nat->Option Obj
def HF.sub (h g:HF):Prop:=∀ k o,h k=some o->g k=some o
def HF.dis (h g:HF):Prop:=∀ k,h k=none\/g k=none
def hf (w:World):HF:=fun k=>w.heap[k]?
abbrev Assn:=HF->Prop
def pt (b:Nat) (o:Obj):Assn:=fun h=>h b=some o
def emp:Assn:=fun _=>True
def lk {α:Type _}:List (Nat×α)->Nat->Option α
 | [],_=>none
 | (k,v) :: r,t=>bif Nat.beq k t then some v else lk r t
theorem zas {α:Type _} {k:Nat} {v:α} {r:List (Nat×α)}:lk ((k,v) :: r) k=some v:=by simp [lk]
theorem zan {α:Type _} {k t:Nat} {v:α} {r:List (Nat×α)} (h:k≠t):lk ((k,v) :: r) t=lk r t:=by
 have:Nat.beq k t=false:=by
  cases hb:Nat.beq k t with
  | false=>rfl
  | true=>exact absurd (Nat.eq_of_beq_eq_true hb) h
 simp [lk,this]
theorem zaG {α:Type _} {k t:Nat} {v:α} {r:List (Nat×α)}:lk ((k,v) :: r) t=if k=t then some v else lk r t:=by
 by_cases h:k=t
 ·subst h; simp [zas]
 ·simp [zan h,h]
structure Sep (L:List (Nat×Assn)) (R:Assn) (h:HF) (f:Nat->HF) (g:HF):Prop where
 holds:∀ k A,lk L k=some A->A (f k)
 frame:R g
 sub:∀ k,(f k).sub h
 gsub:g.sub h
 dis:∀ i j,i≠j->(f i).dis (f j)
 gdis:∀ i,(f i).dis g
structure Sat (w0:World) (L:List (Nat×Assn)) (R:Assn) (w:World):Prop where
 os:w.os=w0.os
 tape:w.tape=w0.tape
 output:w.output=w0.output
 sep:∃ f g,Sep L R (hf w) f g
theorem Sat.drawn {w0 w:World} {L:List (Nat×Assn)} {R:Assn} (h:Sat w0 L R w) (n:Nat):Sat w0 L R { w with drawn:=n } :=
 ⟨h.os,h.tape,h.output,h.sep⟩
theorem HF.dis.symm {h g:HF} (d:h.dis g):g.dis h:=fun k=>(d k).symm
theorem Sat.read {w0 w:World} {L:List (Nat×Assn)} {R:Assn} (h:Sat w0 L R w) {k b:Nat} {o:Obj} (hk:lk L k=some (pt b o)):w.heap[b]?=some o:=by
 obtain ⟨f,g,s⟩:=h.sep
 exact s.sub k b o (s.holds k _ hk)
theorem Sat.cell {w0 w:World} {L:List (Nat×Assn)} {R:Assn} (h:Sat w0 L R w) {k b off:Nat} {cs:Array Value} {T:TypeId} {fz:Nat×Nat} {v:Value}
  (hk:lk L k=some (pt b (.cells cs T fz))) (hv:cs[off]?=some v):w.cell? ⟨b,off,none⟩=some v:=by
 have:=h.read hk
 simp [World.cell?,this,hv]
theorem Sat.alloc {w0 w:World} {L:List (Nat×Assn)} {R:Assn} (h:Sat w0 L R w) (n:Nat) (o:Obj) :
  Sat w0 ((n,pt w.heap.size o) :: L) R { w with heap:=w.heap.push o }:=by
 obtain ⟨f,g,s⟩:=h.sep
 have old:∀ (k:Nat) (o':Obj),w.heap[k]?=some o'->k<w.heap.size:=fun k o' hk=>(Array.getElem?_eq_some_iff.1 hk).1
 have up:∀ k o',hf w k=some o'->hf { w with heap:=w.heap.push o } k=some o':=fun k o' hk=>by
  have:=old k o' hk
  simp only [hf] at *
  rw [Array.getElem?_push,Zn (by omega)]; exact hk
 have fnone:∀ i,f i w.heap.size=none:=fun i=>by
  cases hh:f i w.heap.size with
  | none=>rfl
  | some o'=>have:=old _ _ (s.sub i _ _ hh); omega
 have gnone:g w.heap.size=none:=by
  cases hh:g w.heap.size with
  | none=>rfl
  | some o'=>have:=old _ _ (s.gsub _ _ hh); omega
 refine ⟨h.os,h.tape,h.output,fun k=>if n=k then (fun b=>if b=w.heap.size then some o else none) else f k,g,?_,s.frame,?_,?_,?_,?_⟩
 ·intro k A hA
  rw [zaG] at hA
  by_cases hn:n=k
  ·simp only [hn,if_true] at hA ⊢
   cases hA
   simp [pt]
  ·simp only [hn,if_false] at hA ⊢
   exact s.holds k A hA
 ·intro k b o' hb
  by_cases hn:n=k
  ·simp only [hn,if_true] at hb
   split at hb
   ·rename_i e; subst e; cases hb; simp [hf]
   ·cases hb
  ·simp only [hn,if_false] at hb
   exact up _ _ (s.sub k b o' hb)
 ·exact fun k o' hk=>up _ _ (s.gsub k o' hk)
 ·intro i j hij b
  by_cases hi:n=i
  ·subst hi
   rw [Zp Z,Zn hij]
   by_cases hb:b=w.heap.size
   ·subst hb; exact .inr (fnone j)
   ·exact .inl (Zn hb)
  ·by_cases hj:n=j
   ·subst hj
    rw [Zp Z,Zn hi]
    by_cases hb:b=w.heap.size
    ·subst hb; exact .inl (fnone i)
    ·exact .inr (Zn hb)
   ·rw [Zn hi,Zn hj]; exact s.dis i j hij b
 ·intro i b
  by_cases hi:n=i
  ·simp only [hi,if_true]
   by_cases hb:b=w.heap.size
   ·subst hb; exact .inr gnone
   ·simp [hb]
  ·simp only [hi,if_false]; exact s.gdis i b
theorem Sat.put {w0 w:World} {L:List (Nat×Assn)} {R:Assn} (h:Sat w0 L R w) {k b:Nat} {o:Obj} (hk:lk L k=some (pt b o)) (o':Obj) :
  Sat w0 ((k,pt b o') :: L) R { w with heap:=w.heap.setIfInBounds b o' }:=by
 obtain ⟨f,g,s⟩:=h.sep
 have hb:f k b=some o:=s.holds k _ hk
 have hlt:b<w.heap.size:=(Array.getElem?_eq_some_iff.1 (s.sub k b o hb)).1
 have keep:∀ c,c≠b->hf { w with heap:=w.heap.setIfInBounds b o' } c=hf w c:=fun c hc=>by
  simp only [hf]; rw [Array.getElem?_setIfInBounds_ne (by omega)]
 have here:hf { w with heap:=w.heap.setIfInBounds b o' } b=some o':=by simp [hf,hlt]
 refine ⟨h.os,h.tape,h.output,fun i=>if k=i then (fun c=>if c=b then some o' else f k c) else f i,g,?_,s.frame,?_,?_,?_,?_⟩
 ·intro i A hA
  rw [zaG] at hA
  by_cases hi:k=i
  ·simp only [hi,if_true] at hA ⊢; cases hA; simp [pt]
  ·simp only [hi,if_false] at hA ⊢; exact s.holds i A hA
 ·intro i c x hc
  by_cases hi:k=i
  ·simp only [hi,if_true] at hc
   by_cases hcb:c=b
   ·subst hcb; simp at hc; subst hc; exact here
   ·simp only [hcb,if_false] at hc; rw [keep c hcb]; exact s.sub i c x hc
  ·simp only [hi,if_false] at hc
   have hcb:c≠b:=fun e=>by
    subst e
    rcases s.dis k i hi c with h1 | h1
    ·rw [hb] at h1; cases h1
    ·rw [h1] at hc; cases hc
   rw [keep c hcb]; exact s.sub i c x hc
 ·intro c x hc
  have hcb:c≠b:=fun e=>by
   subst e
   rcases s.gdis k c with h1 | h1
   ·rw [hb] at h1; cases h1
   ·rw [h1] at hc; cases hc
  rw [keep c hcb]; exact s.gsub c x hc
 ·intro i j hij c
  by_cases hi:k=i
  ·subst hi
   rw [Zp Z,Zn hij]
   rcases s.dis k j hij c with h1 | h1
   ·by_cases hcb:c=b
    ·subst hcb; rw [hb] at h1; cases h1
    ·exact .inl ((Zn hcb).trans h1)
   ·exact .inr h1
  ·by_cases hj:k=j
   ·subst hj
    rw [Zp Z,Zn hi]
    rcases s.dis k i hi c with h1 | h1
    ·by_cases hcb:c=b
     ·subst hcb; rw [hb] at h1; cases h1
     ·exact .inr ((Zn hcb).trans h1)
    ·exact .inl h1
   ·rw [Zn hi,Zn hj]; exact s.dis i j hij c
 ·intro i c
  by_cases hi:k=i
  ·simp only [hi,if_true]
   rcases s.gdis k c with h1 | h1
   ·by_cases hcb:c=b
    ·subst hcb; rw [hb] at h1; cases h1
    ·subst hi; simp [hcb,h1]
   ·exact .inr h1
  ·simp only [hi,if_false]; exact s.gdis i c
theorem zqm {w:World} {b off:Nat} {cs:Array Value} {T:TypeId} {fz:Nat×Nat} (h:w.heap[b]?=some (.cells cs T fz)) (v:Value) :
  w.setCell ⟨b,off,none⟩ v={ w with heap:=w.heap.setIfInBounds b (.cells (cs.setIfInBounds off v) T fz) }:=by
 obtain ⟨hlt,he⟩:=Array.getElem?_eq_some_iff.1 h
 unfold World.setCell
 congr 1
 apply Array.ext_getElem?
 intro i
 rw [Array.getElem?_modify,Array.getElem?_setIfInBounds]
 by_cases hi:b=i
 ·subst hi; simp [hlt,he]
 ·simp [hi]
theorem Sat.setCell {w0 w:World} {L:List (Nat×Assn)} {R:Assn} (h:Sat w0 L R w) {k b:Nat} {cs:Array Value} {T:TypeId} {fz:Nat×Nat}
  (hk:lk L k=some (pt b (.cells cs T fz))) (off:Nat) (v:Value) :
  Sat w0 ((k,pt b (.cells (cs.setIfInBounds off v) T fz)) :: L) R (w.setCell ⟨b,off,none⟩ v):=by
 rw [zqm (h.read hk)]; exact h.put hk _
theorem Sat.weaken {w0 w:World} {L L':List (Nat×Assn)} {R:Assn} (h:Sat w0 L R w) (hs:∀ k A,lk L' k=some A->lk L k=some A):Sat w0 L' R w:=by
 obtain ⟨f,g,s⟩:=h.sep
 exact ⟨h.os,h.tape,h.output,f,g,fun k A hk=>s.holds k A (hs k A hk),s.frame,s.sub,s.gsub,s.dis,s.gdis⟩
theorem Sat.conseq {w0 w:World} {L:List (Nat×Assn)} {R:Assn} (h:Sat w0 L R w) {k:Nat} {A B:Assn} (hk:lk L k=some A) (hAB:∀ x,A x->B x):Sat w0 ((k,B) :: L) R w:=by
 obtain ⟨f,g,s⟩:=h.sep
 refine ⟨h.os,h.tape,h.output,f,g,fun i C hC=>?_,s.frame,s.sub,s.gsub,s.dis,s.gdis⟩
 rw [zaG] at hC
 by_cases hi:k=i
 ·subst hi; simp at hC; subst hC; exact hAB _ (s.holds k A hk)
 ·simp only [hi,if_false] at hC; exact s.holds i C hC
def ex {X:Sort _} (A:X->Assn):Assn:=fun h=>∃ x,A x h
def star (A B:Assn):Assn:=fun h=>∃ f g,HF.sub f h/\HF.sub g h/\HF.dis f g/\A f/\B g
theorem Sat.open_ex {w0 w:World} {L:List (Nat×Assn)} {R:Assn} (h:Sat w0 L R w) {X:Sort _} {A:X->Assn} {k:Nat} (hk:lk L k=some (ex A)):∃ x,Sat w0 ((k,A x) :: L) R w:=by
 obtain ⟨f,g,s⟩:=h.sep
 obtain ⟨x,hx⟩:=s.holds k _ hk
 refine ⟨x,h.os,h.tape,h.output,f,g,fun i C hC=>?_,s.frame,s.sub,s.gsub,s.dis,s.gdis⟩
 rw [zaG] at hC
 by_cases hi:k=i
 ·subst hi; simp at hC; subst hC; exact hx
 ·simp only [hi,if_false] at hC; exact s.holds i C hC
theorem Sat.open_star {w0 w:World} {L:List (Nat×Assn)} {R:Assn} (h:Sat w0 L R w) {A B:Assn} {k:Nat} (hk:lk L k=some (star A B)) (n:Nat) (hn:n≠k) :
  Sat w0 ((n,B) :: (k,A) :: L) R w:=by
 obtain ⟨f,g,s⟩:=h.sep
 obtain ⟨f1,f2,hs1,hs2,hd,hA,hB⟩:=s.holds k _ hk
 have dis1:∀ i,i≠k->f1.dis (f i):=fun i hi c=>by
  rcases s.dis i k hi c with h1 | h1
  ·exact .inr h1
  ·cases hc:f1 c with
   | none=>exact .inl Z
   | some o=>have:=hs1 c o hc; rw [h1] at this; cases this
 have dis2:∀ i,i≠k->f2.dis (f i):=fun i hi c=>by
  rcases s.dis i k hi c with h1 | h1
  ·exact .inr h1
  ·cases hc:f2 c with
   | none=>exact .inl Z
   | some o=>have:=hs2 c o hc; rw [h1] at this; cases this
 have dg1:f1.dis g:=fun c=>by
  rcases s.gdis k c with h1 | h1
  ·cases hc:f1 c with
   | none=>exact .inl Z
   | some o=>have:=hs1 c o hc; rw [h1] at this; cases this
  ·exact .inr h1
 have dg2:f2.dis g:=fun c=>by
  rcases s.gdis k c with h1 | h1
  ·cases hc:f2 c with
   | none=>exact .inl Z
   | some o=>have:=hs2 c o hc; rw [h1] at this; cases this
  ·exact .inr h1
 refine ⟨h.os,h.tape,h.output,fun i=>if n=i then f2 else if k=i then f1 else f i,g,?_,s.frame,?_,s.gsub,?_,?_⟩
 ·intro i C hC
  rw [zaG,zaG] at hC
  split at hC
  ·rename_i e; rw [Zp e]; cases hC; exact hB
  ·rename_i e; rw [Zn e]
   split at hC
   ·rename_i e2; rw [Zp e2]; cases hC; exact hA
   ·rename_i e2; rw [Zn e2]; exact s.holds i C hC
 ·intro i c o hc
  split at hc
  ·exact s.sub k c o (hs2 c o hc)
  ·split at hc
   ·exact s.sub k c o (hs1 c o hc)
   ·exact s.sub i c o hc
 ·intro i j hij
  by_cases hi:n=i
  ·subst hi
   rw [Zp Z,Zn hij]
   by_cases hkj:k=j
   ·rw [Zp hkj]; exact hd.symm
   ·rw [Zn hkj]; exact dis2 j (Ne.symm hkj)
  ·rw [Zn hi]
   by_cases hj:n=j
   ·rw [Zp hj]
    by_cases hki:k=i
    ·rw [Zp hki]; exact hd
    ·rw [Zn hki]; exact (dis2 i (Ne.symm hki)).symm
   ·rw [Zn hj]
    by_cases hki:k=i
    ·subst hki
     rw [Zp Z,Zn hij]; exact dis1 j (Ne.symm hij)
    ·rw [Zn hki]
     by_cases hkj:k=j
     ·rw [Zp hkj]; exact (dis1 i (Ne.symm hki)).symm
     ·rw [Zn hkj]; exact s.dis i j hij
 ·intro i
  split
  ·exact dg2
  ·split
   ·exact dg1
   ·exact s.gdis i
theorem Sat.close_star {w0 w:World} {L:List (Nat×Assn)} {R:Assn} (h:Sat w0 L R w) {A B:Assn} {k n:Nat} (hk:lk L k=some A) (hn:lk L n=some B) (hne:n≠k) :
  Sat w0 ((n,emp) :: (k,star A B) :: L) R w:=by
 obtain ⟨f,g,s⟩:=h.sep
 let u:HF:=fun c=>(f k c).or (f n c)
 have uk:∀ c o,f k c=some o->u c=some o:=fun c o hc=>by simp [u,hc]
 have un:∀ c o,f n c=some o->u c=some o:=fun c o hc=>by
  rcases s.dis k n (Ne.symm hne) c with h1 | h1
  ·simp [u,h1,hc]
  ·rw [h1] at hc; cases hc
 have uu:∀ c o,u c=some o->f k c=some o\/f n c=some o:=fun c o hc=>by
  simp only [u] at hc
  cases h1:f k c with
  | none=>rw [h1] at hc; exact .inr (by simpa using hc)
  | some o'=>rw [h1] at hc; exact .inl (by simpa using hc)
 have unone:∀ c,f k c=none->f n c=none->u c=none:=fun c h1 h2=>by simp [u,h1,h2]
 refine ⟨h.os,h.tape,h.output,fun i=>if n=i then (fun _=>none) else if k=i then u else f i,g,?_,s.frame,?_,s.gsub,?_,?_⟩
 ·intro i C hC
  rw [zaG,zaG] at hC
  split at hC
  ·cases hC; trivial
  ·rename_i e; rw [Zn e]
   split at hC
   ·rename_i e2; rw [Zp e2]; cases hC
    exact ⟨f k,f n,uk,un,s.dis k n (Ne.symm hne),s.holds k A hk,s.holds n B hn⟩
   ·rename_i e2; rw [Zn e2]; exact s.holds i C hC
 ·intro i c o hc
  split at hc
  ·cases hc
  ·split at hc
   ·rcases uu c o hc with h1 | h1
    ·exact s.sub k c o h1
    ·exact s.sub n c o h1
   ·exact s.sub i c o hc
 ·intro i j hij c
  by_cases hi:n=i
  ·rw [Zp hi]; exact .inl Z
  ·by_cases hj:n=j
   ·rw [Zp hj]; exact .inr Z
   ·rw [Zn hi,Zn hj]
    by_cases hki:k=i
    ·subst hki
     rw [Zp Z,Zn hij]
     rcases s.dis k j hij c with h1 | h1
     ·rcases s.dis n j hj c with h2 | h2
      ·exact .inl (unone c h1 h2)
      ·exact .inr h2
     ·exact .inr h1
    ·rw [Zn hki]
     by_cases hkj:k=j
     ·rw [Zp hkj]
      rcases s.dis k i hki c with h1 | h1
      ·rcases s.dis n i hi c with h2 | h2
       ·exact .inr (unone c h1 h2)
       ·exact .inl h2
      ·exact .inl h1
     ·rw [Zn hkj]; exact s.dis i j hij c
 ·intro i c
  split
  ·exact .inl Z
  ·split
   ·rcases s.gdis k c with h1 | h1
    ·rcases s.gdis n c with h2 | h2
     ·exact .inl (unone c h1 h2)
     ·exact .inr h2
    ·exact .inr h1
   ·exact s.gdis i c
def lab:Nat->List Assn->List (Nat×Assn)
 | _,[]=>[]
 | n,A :: r=>(n,A) :: lab (n+1) r
def labs:List Nat->List Assn->List (Nat×Assn)->List (Nat×Assn)
 | k :: ks,A :: r,L=>(k,A) :: labs ks r L
 | _,_,L=>L
def lks (L:List (Nat×Assn)):List Nat->List Assn->Prop
 | [],[]=>True
 | k :: ks,A :: r=>lk L k=some A/\lks L ks r
 | _,_=>False
def zcp:List Nat->Bool
 | []=>true
 | k :: ks=>ks.all (fun j=>!Nat.beq k j) && zcp ks
def zfe:List Nat->List Nat->Bool
 | [],_=>true
 | a :: r,b :: s=>Nat.beq a b && zfe r s
 | _ :: _,[]=>false
theorem zAd (As:List Assn):∀ n t,lk (lab n As) t=if n<=t then As[t - n]? else none:=by
 induction As with
 | nil=>intro n t; simp [lab,lk]
 | cons A r ih =>
  intro n t
  rw [lab,zaG,ih]
  by_cases h:n=t
  ·subst h; simp
  ·rw [Zn h]
   by_cases h1:n+1<=t
   ·rw [Zp h1,Zp (by omega)]
    have:t - n=(t - (n+1))+1:=by omega
    rw [this,List.getElem?_cons_succ]
   ·rw [Zn h1,Zn (by omega)]
theorem za5 (As:List Assn) (t:Nat):lk (lab 0 As) t=As[t]?:=by rw [zAd]; simp
theorem zeg:∀ {ks:List Nat},zcp ks=true->ks.Nodup
 | [],_=>List.nodup_nil
 | k :: ks,h=>by
  simp only [zcp,Bool.and_eq_true,List.all_eq_true,Bool.not_eq_true'] at h
  refine List.nodup_cons.2 ⟨fun hm=>?_,zeg h.2⟩
  have:=h.1 k hm
  rw [Nat.beq_refl] at this; cases this
theorem zlA {L:List (Nat×Assn)}:∀ {ks:List Nat} {As:List Assn},lks L ks As->ks.length=As.length/\∀ (t k:Nat),ks[t]?=some k->lk L k=As[t]?
 | [],[],_=>⟨Z,fun t k h=>by simp at h⟩
 | k :: ks,A :: r,h=>by
  obtain ⟨h1,h2⟩:=h
  obtain ⟨hl,hs⟩:=zlA h2
  refine ⟨by simp [hl],fun t k' ht=>?_⟩
  cases t with
  | zero=>simp at ht; subst ht; simpa using h1
  | succ t=>simp at ht ⊢; exact hs t k' ht
 | [],_ :: _,h=>h.elim
 | _ :: _,[],h=>h.elim
theorem zgb:∀ {a b:List Nat},zfe a b=true->∀ k∈a,k∈b
 | [],_,_,k,hk=>by cases hk
 | x :: r,y :: s,h,k,hk=>by
  simp only [zfe,Bool.and_eq_true] at h
  have e:=Nat.eq_of_beq_eq_true h.1
  rcases List.mem_cons.1 hk with rfl | hk
  ·subst e; exact List.mem_cons_self ..
  ·exact List.mem_cons_of_mem _ (zgb h.2 k hk)
 | _ :: _,[],h,_,_=>by simp [zfe] at h
def pos:List Nat->Nat->Option Nat
 | [],_=>none
 | k :: ks,j=>if k=j then some 0 else (pos ks j).map (·+1)
theorem zvi {ks:List Nat} {j:Nat}:pos ks j=none↔j∉ks:=by
 induction ks with
 | nil=>simp [pos]
 | cons k ks ih =>
  simp only [pos]
  by_cases h:k=j
  ·subst h; simp
  ·rw [Zn h]; simp [ih,Ne.symm h]
theorem zpc {ks:List Nat} {j t:Nat} (h:pos ks j=some t):ks[t]?=some j:=by
 induction ks generalizing t with
 | nil=>simp [pos] at h
 | cons k ks ih =>
  simp only [pos] at h
  by_cases hk:k=j
  ·rw [Zp hk] at h; cases h; simp [hk]
  ·rw [Zn hk] at h
   cases hp:pos ks j with
   | none=>rw [hp] at h; cases h
   | some s=>rw [hp] at h; cases h; simpa using ih hp
theorem zsy {L:List (Nat×Assn)}:∀ {ks:List Nat} {Bs:List Assn},ks.length=Bs.length->∀ j,lk (labs ks Bs L) j=match pos ks j with | some t=>Bs[t]? | none=>lk L j
 | [],[],_,j=>by simp [labs,pos]
 | k :: ks,B :: r,h,j=>by
  simp only [labs,pos]
  rw [zaG]
  by_cases hk:k=j
  ·simp [hk]
  ·rw [Zn hk,Zn hk,zsy (by simpa using h) j]
   cases pos ks j<;>simp
 | [],_ :: _,h,_=>by simp at h
 | _ :: _,[],h,_=>by simp at h
def kept (L:List (Nat×Assn)) (R:Assn) (ks:List Nat):Assn:=fun h =>
 ∃ (f:Nat->HF) (g:HF),(∀ k A,k∉ks->lk L k=some A->A (f k))/\R g/\(∀ k,(f k).sub h)/\g.sub h/\(∀ i j,i≠j->(f i).dis (f j))/\∀ i,(f i).dis g
open Classical in
theorem Sat.give {w0 w:World} {L:List (Nat×Assn)} {R:Assn} (h:Sat w0 L R w) {ks:List Nat} {As:List Assn} (hn:ks.Nodup) (hl:lks L ks As) :
  Sat w0 (lab 0 As) (kept L R ks) w:=by
 obtain ⟨hlen,hlk⟩:=zlA hl
 obtain ⟨f,g,s⟩:=h.sep
 let g':HF:=fun c=>if (∃ o,g c=some o)\/∃ k,k∉ks/\∃ o,f k c=some o then hf w c else none
 let fo:Nat->HF:=fun k=>if k∈ks then fun _=>none else f k
 let f':Nat->HF:=fun t=>match ks[t]? with | some k=>f k | none=>fun _=>none
 have f'cases:∀ t,(∃ k,ks[t]?=some k/\f' t=f k)\/(ks[t]?=none/\f' t=fun _=>none):=fun t=>by
  cases hk:ks[t]? with
  | none=>exact .inr ⟨Z,by simp [f',hk]⟩
  | some k=>exact .inl ⟨k,Z,by simp [f',hk]⟩
 refine ⟨h.os,h.tape,h.output,f',g',?_,⟨fo,g,?_,s.frame,?_,?_,?_,?_⟩,?_,?_,?_,?_⟩
 ·intro t A hA
  rw [za5] at hA
  rcases f'cases t with ⟨k,hk,e⟩ | ⟨hk,_⟩
  ·rw [e]; exact s.holds k A ((hlk t k hk).trans hA)
  ·have h1:=List.getElem?_eq_none_iff.1 hk
   have h2:=(List.getElem?_eq_some_iff.1 hA).1
   omega
 ·intro k A hk hA
  simp only [fo,hk,if_false]; exact s.holds k A hA
 ·intro k c o hc
  by_cases hk:k∈ks
  ·simp [fo,hk] at hc
  ·simp only [fo,hk,if_false] at hc
   have:g' c=hf w c:=if_pos (.inr ⟨k,hk,o,hc⟩)
   rw [this]; exact s.sub k c o hc
 ·intro c o hc
  have:g' c=hf w c:=if_pos (.inl ⟨o,hc⟩)
  rw [this]; exact s.gsub c o hc
 ·intro i j hij c
  by_cases hi:i∈ks
  ·exact .inl (by simp [fo,hi])
  ·by_cases hj:j∈ks
   ·exact .inr (by simp [fo,hj])
   ·simp only [fo,hi,hj,if_false]; exact s.dis i j hij c
 ·intro i c
  by_cases hi:i∈ks
  ·exact .inl (by simp [fo,hi])
  ·simp only [fo,hi,if_false]; exact s.gdis i c
 ·intro t c o hc
  rcases f'cases t with ⟨k,hk,e⟩ | ⟨_,e⟩
  ·rw [e] at hc; exact s.sub k c o hc
  ·rw [e] at hc; cases hc
 ·intro c o hc
  by_cases hcond:(∃ o,g c=some o)\/∃ k,k∉ks/\∃ o,f k c=some o
  ·have:g' c=hf w c:=if_pos hcond
   rw [this] at hc; exact hc
  ·have:g' c=none:=if_neg hcond
   rw [this] at hc; cases hc
 ·intro i j hij
  rcases f'cases i with ⟨k,hk,e⟩ | ⟨_,e⟩
  ·rcases f'cases j with ⟨l,hl',e'⟩ | ⟨_,e'⟩
   ·rw [e,e']
    refine s.dis k l fun hkl=>hij ?_
    subst hkl
    obtain ⟨hi',he⟩:=List.getElem?_eq_some_iff.1 hk
    obtain ⟨hj',he'⟩:=List.getElem?_eq_some_iff.1 hl'
    exact (List.getElem_inj hn).1 (he.trans he'.symm)
   ·rw [e']; exact fun c=>.inr Z
  ·rw [e]; exact fun c=>.inl Z
 ·intro t c
  rcases f'cases t with ⟨k,hk,e⟩ | ⟨_,e⟩
  ·rw [e]
   by_cases hcond:(∃ o,g c=some o)\/∃ k,k∉ks/\∃ o,f k c=some o
   ·left
    cases hfk:f k c with
    | none=>rfl
    | some o =>
     exfalso
     rcases hcond with ⟨o',ho'⟩ | ⟨l,hl',o',ho'⟩
     ·rcases s.gdis k c with h1 | h1
      ·rw [hfk] at h1; cases h1
      ·rw [ho'] at h1; cases h1
     ·have hne:k≠l:=fun e'=>hl' (e'▸List.mem_of_getElem? hk)
      rcases s.dis k l hne c with h1 | h1
      ·rw [hfk] at h1; cases h1
      ·rw [ho'] at h1; cases h1
   ·exact .inr (Zn hcond)
  ·rw [e]; exact .inl Z
theorem Sat.take {w0 w:World} {L:List (Nat×Assn)} {R:Assn} {ks:List Nat} {Bs:List Assn} (h:Sat w0 (lab 0 Bs) (kept L R ks) w)
  {ks':List Nat} (hn:ks'.Nodup) (hp:∀ k∈ks,k∈ks') (hl:ks'.length=Bs.length):Sat w0 (labs ks' Bs L) R w:=by
 obtain ⟨f',g',s⟩:=h.sep
 obtain ⟨f,g,hA,hR,hfs,hgs,hd,hgd⟩:=s.frame
 let F:Nat->HF:=fun k=>match pos ks' k with | some t=>f' t | none=>f k
 have Fs:∀ {k t},pos ks' k=some t->F k=f' t:=fun {k t} e=>by simp [F,e]
 have Fn:∀ {k},pos ks' k=none->F k=f k:=fun {k} e=>by simp [F,e]
 have cross:∀ t k,(f' t).dis (f k):=fun t k c=>by
  rcases s.gdis t c with h1 | h1
  ·exact .inl h1
  ·right
   cases hc:f k c with
   | none=>rfl
   | some o=>have:=hfs k c o hc; rw [h1] at this; cases this
 refine ⟨h.os,h.tape,h.output,F,g,?_,hR,?_,fun c o hc=>s.gsub c o (hgs c o hc),?_,?_⟩
 ·intro k A hk
  rw [zsy hl] at hk
  cases hp':pos ks' k with
  | none =>
   rw [hp'] at hk
   rw [Fn hp']
   exact hA k A (fun hm=>zvi.1 hp' (hp k hm)) hk
  | some t =>
   rw [hp'] at hk
   rw [Fs hp']
   exact s.holds t A (by rw [za5]; exact hk)
 ·intro k c o hc
  cases hp':pos ks' k with
  | none=>rw [Fn hp'] at hc; exact s.gsub c o (hfs k c o hc)
  | some t=>rw [Fs hp'] at hc; exact s.sub t c o hc
 ·intro i j hij
  cases hi:pos ks' i with
  | none =>
   rw [Fn hi]
   cases hj:pos ks' j with
   | none=>rw [Fn hj]; exact hd i j hij
   | some t=>rw [Fs hj]; exact (cross t i).symm
  | some t =>
   rw [Fs hi]
   cases hj:pos ks' j with
   | none=>rw [Fn hj]; exact cross t j
   | some u =>
    rw [Fs hj]
    refine s.dis t u fun e=>hij ?_
    subst e
    have h1:=zpc hi
    have h2:=zpc hj
    rw [h1] at h2; exact Option.some.inj h2
 ·intro i c
  cases hi:pos ks' i with
  | none=>rw [Fn hi]; exact hgd i c
  | some t =>
   rw [Fs hi]
   rcases s.gdis t c with h1 | h1
   ·exact .inl h1
   ·right
    cases hc:g c with
    | none=>rfl
    | some o=>have:=hgs c o hc; rw [h1] at this; cases this
def Fn (P:Program) (f:FuncId) (args:List Value) (As:List Assn) (Φ:Value->List Assn->Prop):Prop :=
 ∀ w0 R w,Sat w0 (lab 0 As) R w->Calls P f args.toArray w fun e w'=>∃ v Bs,e=.returned v/\Φ v Bs/\Sat w0 (lab 0 Bs) R w'
def FnD (P:Program) (f:FuncId) (args:List Value) (As:List Assn) (r:Value) (Bs:List Assn):Prop :=
 Fn P f args As fun v Bs'=>v=r/\Bs'=Bs
theorem Fn.mono {P:Program} {f:FuncId} {args:List Value} {As:List Assn} {Φ Ψ:Value->List Assn->Prop} (h:Fn P f args As Φ) (hi:∀ v Bs,Φ v Bs->Ψ v Bs):Fn P f args As Ψ :=
 fun w0 R w hs=>(h w0 R w hs).mono fun _ _ ⟨v,Bs,e,hp,hs'⟩=>⟨v,Bs,e,hi _ _ hp,hs'⟩
structure Agrees (n:Nat) (env:List (Nat×Value)) (a:Act):Prop where
 defers:a.defers=[]
 size:a.tmps.size=n
 get:∀ t v,lk env t=some v->a.tmps[t]?=some v
def setE (env:List (Nat×Value)):Option Tmp->Value->List (Nat×Value)
 | some d,v=>(d,v) :: env
 | none,_=>env
def okD (n:Nat):Option Tmp->Bool
 | some d=>Nat.blt d n
 | none=>true
def evO (env:List (Nat×Value)):Operand->Option Value
 | .tmp t=>lk env t
 | .const v=>some v
 | .global g=>some (.pointer (some ⟨g,0,none⟩))
 | .func f=>some (.func (.func f) #[] #[])
def evs (env:List (Nat×Value)):List Operand->List Value->Prop
 | [],[]=>True
 | x :: r,v :: vs=>evO env x=some v/\evs env r vs
 | _,_=>False
theorem Agrees.eval {n:Nat} {env:List (Nat×Value)} {a:Act} (h:Agrees n env a) {x:Operand} {v:Value} (hx:evO env x=some v):a.eval x=v:=by
 cases x with
 | tmp t=>have:=h.get t v hx; simp [Act.eval,Array.getD_eq_getD_getElem?,this]
 | const c=>simpa [evO,Act.eval] using hx
 | global g=>simpa [evO,Act.eval] using hx
 | func f=>simpa [evO,Act.eval] using hx
theorem Agrees.evals {n:Nat} {env:List (Nat×Value)} {a:Act} (h:Agrees n env a):∀ {xs:List Operand} {vs:List Value},evs env xs vs->xs.map a.eval=vs
 | [],[],_=>rfl
 | x :: r,v :: vs,hx=>by simp [h.eval hx.1,h.evals hx.2]
 | [],_ :: _,hx=>hx.elim
 | _ :: _,[],hx=>hx.elim
theorem Agrees.put {n:Nat} {env:List (Nat×Value)} {a:Act} (h:Agrees n env a) {d:Option Tmp} (hd:okD n d=true) (v:Value):Agrees n (setE env d v) (a.put d v):=by
 cases d with
 | none=>exact h
 | some d =>
  have hlt:d<n:=by simpa [okD,Nat.blt_eq] using hd
  refine ⟨h.defers,by simp [Act.put,h.size],fun t u ht=>?_⟩
  simp only [setE] at ht
  rw [zaG] at ht
  by_cases e:d=t
  ·subst e
   simp at ht; subst ht
   simp [Act.put,h.size,hlt]
  ·rw [Zn e] at ht
   simp only [Act.put]
   rw [Array.getElem?_setIfInBounds_ne e]; exact h.get t u ht
theorem Agrees.sub {n:Nat} {env env':List (Nat×Value)} {a:Act} (h:Agrees n env a) (hs:∀ t v,lk env' t=some v->lk env t=some v):Agrees n env' a :=
 ⟨h.defers,h.size,fun t v ht=>h.get t v (hs t v ht)⟩
def subE {α:Type _} (env:List (Nat×α)):List (Nat×α)->Prop
 | []=>True
 | (k,v) :: r=>lk env k=some v/\subE env r
theorem zcv {α:Type _} {env:List (Nat×α)}:∀ {env':List (Nat×α)},subE env env'->∀ t v,lk env' t=some v->lk env t=some v
 | [],_,t,v,h=>by simp [lk] at h
 | (k,u) :: r,hs,t,v,h=>by
  rw [zaG] at h
  by_cases e:k=t
  ·subst e; simp at h; subst h; exact hs.1
  ·rw [Zn e] at h; exact zcv hs.2 t v h
def sel (L:List (Nat×Assn)):List Nat->List (Nat×Assn)
 | []=>[]
 | k :: ks=>match lk L k with
  | some A=>(k,A) :: sel L ks
  | none=>sel L ks
def SS (w0:World) (ks:List Nat) (L0:List (Nat×Assn)) (w:World):Prop:=Sat w0 (sel L0 ks) emp w
def Keep (L0:List (Nat×Assn)) (L:List (Nat×Assn)):List Nat->Prop
 | []=>True
 | k :: ks=>lk L k=lk L0 k/\Keep L0 L ks
theorem Keep.cons {L0 L:List (Nat×Assn)} {k:Nat} {ks:List Nat} {A:Assn} (h1:lk L k=some A) (h2:lk L0 k=some A) (h:Keep L0 L ks):Keep L0 L (k :: ks):=⟨h1.trans h2.symm,h⟩
theorem zpz {L:List (Nat×Assn)}:∀ {ks:List Nat} {k:Nat} {A:Assn},lk (sel L ks) k=some A->k∈ks/\lk L k=some A
 | [],k,A,h=>by simp [sel,lk] at h
 | j :: ks,k,A,h=>by
  simp only [sel] at h
  cases hj:lk L j with
  | none=>rw [hj] at h; have:=zpz h; exact ⟨List.mem_cons_of_mem _ this.1,this.2⟩
  | some B =>
   rw [hj] at h
   simp only [zaG] at h
   by_cases e:j=k
   ·subst e; rw [Zp rfl] at h; cases h; exact ⟨List.mem_cons_self ..,hj⟩
   ·rw [Zn e] at h; have:=zpz h; exact ⟨List.mem_cons_of_mem _ this.1,this.2⟩
theorem Keep.spec {L0 L:List (Nat×Assn)}:∀ {ks:List Nat},Keep L0 L ks->∀ k∈ks,lk L k=lk L0 k
 | [],_,k,hk=>by cases hk
 | j :: ks,h,k,hk=>by
  rcases List.mem_cons.1 hk with rfl | hk
  ·exact h.1
  ·exact Keep.spec h.2 k hk
theorem Keep.refl (L:List (Nat×Assn)):∀ ks,Keep L L ks
 | []=>trivial
 | _ :: ks=>⟨Z,Keep.refl L ks⟩
theorem Sat.unframe {w0 w:World} {L:List (Nat×Assn)} {R:Assn} (h:Sat w0 L R w):Sat w0 L emp w:=by
 obtain ⟨f,g,s⟩:=h.sep
 exact ⟨h.os,h.tape,h.output,f,g,s.holds,Zt,s.sub,s.gsub,s.dis,s.gdis⟩
theorem SS.of {w0 w:World} {L L0:List (Nat×Assn)} {R:Assn} {ks:List Nat} (h:Sat w0 L R w) (hk:Keep L0 L ks):SS w0 ks L0 w :=
 h.unframe.weaken fun k A hA=>by
  obtain ⟨h1,h2⟩:=zpz hA
  rw [hk.spec k h1]; exact h2
class PanicOk (Q:Exit->Act->World->Prop):Prop where
 ok:∀ c a d v w,Q (.panic c) (a.put d v) w->Q (.panic c) a w
instance {P:Program} {fn:Func} {Rr:Ending->World->Prop}:PanicOk (bodyPost P fn Rr):=⟨fun c a d v w h=>by cases d<;>exact h⟩
instance {K:Act->World->Prop} {Q:Exit->Act->World->Prop} [h:PanicOk Q]:PanicOk (Exit.then K Q):=⟨fun c a d v w x=>h.ok c a d v w x⟩
instance {id:Nat} {Q:Exit->Act->World->Prop} [h:PanicOk Q]:PanicOk (Exit.inBlock id Q):=⟨fun c a d v w x=>h.ok c a d v w x⟩
def isLd (o:Oper):Bool :=
 match o.op with
 | .load _ _=>true
 | _=>false
theorem YieldsIf.weak {P:Program} {ops:Array Oper} {S:World->Prop} {o:Oper} {v:Value} {a:Act} (h:YieldsIf P ops (fun _=>True) o v a\/(isLd o=true/\YieldsIf P ops S o v a)):YieldsIf P ops S o v a:=by
 rcases h with h | ⟨_,h⟩
 ·exact h.imp (fun ⟨h1,h2⟩=>⟨h1,fun w _=>h2 w Zt⟩) id
 ·exact h
section
variable (P:Program) (ops:Array Oper) (Q:Exit->Act->World->Prop) (S:World->Prop)
def wpL:List (Bool×Oper)->Act->World->Prop
 | [],a,w=>Q .normal a w
 | (true,o) :: r,a,w=>∃ v,(YieldsIf P ops (fun _=>True) o v a\/(isLd o=true/\YieldsIf P ops S o v a))/\wpL r (a.put o.dst v) w
 | (false,o) :: r,a,w =>
  if Region.wanted o (yielded ops a.tmps) then o.wp P a w (fun a' w'=>S w'/\wpL r a' w') Q else wpL r (a.put o.dst undef) w
def pick (l:List Oper):List (Nat×Bool)->List (Bool×Oper)
 | []=>[]
 | (i,fl) :: r=>match l[i]? with
  | some o=>(fl,o) :: pick l r
  | none=>pick l r
def zgp (ops:Array Oper):List (Nat×Bool)->Array Bool->Bool
 | [],listed=>(Region.ready .any ops listed).isEmpty
 | (i,fl) :: r,listed =>
  (match fl with
   | true=>(Region.ready .any ops listed).contains i && Region.free .any ops listed i
   | false=>(Region.ready .any ops listed) == [i]) && (ops[i]?).isSome && zgp ops r (listed.setIfInBounds i true)
end
section
variable {P:Program} {ops:Array Oper} {Q:Exit->Act->World->Prop} {S:World->Prop}
theorem zfF [hQ:PanicOk Q] (hs:Region.noSelect ops=true):∀ (ord:List (Nat×Bool)) (fuel:Nat) (listed:Array Bool) (a:Act) (w:World),
  ord.length<=fuel->zgp ops ord listed=true->S w->wpL P ops Q S (pick ops.toList ord) a w->wpAnyH P .any ops Q S fuel listed a w
 | [],fuel,listed,a,w,_,hok,_,h=>wpAnyH_done (by simpa [zgp] using hok) h fuel
 | (i,fl) :: r,0,_,_,_,hl,_,_,_=>by simp at hl
 | (i,true) :: r,fuel+1,listed,a,w,hl,hok,hS,h=>by
  simp only [zgp,Bool.and_eq_true] at hok
  obtain ⟨⟨⟨h1,h2⟩,h3⟩,h4⟩:=hok
  obtain ⟨o,ho⟩:=Option.isSome_iff_exists.1 h3
  have ho':ops.toList[i]?=some o:=by simpa using ho
  simp only [pick,ho',wpL] at h
  obtain ⟨v,hy,hr⟩:=h
  exact wpAnyH_take ho hs h2 h1 (fun c a w=>hQ.ok c a o.dst v w) (YieldsIf.weak hy) hS (zfF hs r fuel _ _ _ (by simpa using hl) h4 hS hr)
 | (i,false) :: r,fuel+1,listed,a,w,hl,hok,hS,h=>by
  simp only [zgp,Bool.and_eq_true,beq_iff_eq] at hok
  obtain ⟨⟨h1,h3⟩,h4⟩:=hok
  obtain ⟨o,ho⟩:=Option.isSome_iff_exists.1 h3
  have ho':ops.toList[i]?=some o:=by simpa using ho
  simp only [pick,ho',wpL] at h
  refine wpAnyH_all h1 (by simp) fun j hj=>?_
  obtain rfl:j=i:=by simpa using hj
  unfold wpOp
  simp only [ho]
  split
  ·rename_i hw; rw [Zp hw] at h
   exact .inl (Oper.wp_mono (fun a' w' h'=>⟨h'.1,zfF hs r fuel _ _ _ (by simpa using hl) h4 h'.1 h'.2⟩) h)
  ·rename_i hw; rw [Zn hw] at h
   exact ⟨hS,zfF hs r fuel _ _ _ (by simpa using hl) h4 hS h⟩
end
def zfG (P:Program) (ops:Array Oper) (Q:Exit->Act->World->Prop) (S:World->Prop) (lt:Nat):Nat->Array Bool->Act->World->Prop
 | 0,listed,a,w=>Region.ready .any ops listed=[]/\Q .normal a w
 | fuel+1,listed,a,w =>
  (Region.ready .any ops listed=[]->Q .normal a w) /\
  ∀ i∈Region.ready .any ops listed,wpOp P ops Q i (fun a' w'=>((listed.setIfInBounds i true).getD lt false=true\/S w')/\zfG P ops Q S lt fuel (listed.setIfInBounds i true) a' w') a w
section
variable {P:Program} {ops:Array Oper} {Q:Exit->Act->World->Prop} {S:World->Prop} {lt:Nat}
theorem zkh:∀ (fuel:Nat) (listed:Array Bool) (a:Act) (w:World),zfG P ops Q S lt fuel listed a w->wpAny P .any ops Q fuel listed a w
 | 0,_,_,_,h=>h
 | fuel+1,_,_,_,h=>⟨h.1,fun i hi=>wpOp_mono (fun a' w' h'=>zkh fuel _ a' w' h'.2) (h.2 i hi)⟩
theorem zcE {l:Array Bool} {i k:Nat} (h:l.getD k false=true):(l.setIfInBounds i true).getD k false=true:=by
 rw [Array.getD_eq_getD_getElem?] at *
 rw [Array.getElem?_setIfInBounds]
 split
 ·split<;>simp_all
 ·exact h
theorem zeA {l:Array Bool} {i k:Nat} (h:i≠k):(l.setIfInBounds i true).getD k false=l.getD k false:=by
 rw [Array.getD_eq_getD_getElem?,Array.getD_eq_getD_getElem?,Array.getElem?_setIfInBounds_ne h]
def zmh (ops:Array Oper) (lt i:Nat):Bool :=
 match ops[lt]? with
 | some o=>o.after.any fun e=>Region.binds .any e && e.on == i
 | none=>false
theorem zq1 {i j:Nat} {listed:Array Bool} (hw:zmh ops lt i=true) (hi:listed.getD i true=false) (hj:j∈Region.ready .any ops listed):j≠lt:=by
 rintro rfl
 obtain ⟨_,oj,hoj,hall⟩:=mem_ready.1 hj
 unfold zmh at hw
 rw [hoj] at hw
 simp only [Array.any_eq_true'] at hw
 obtain ⟨e,he,h2⟩:=hw
 simp only [Bool.and_eq_true,beq_iff_eq] at h2
 have h1:=hall e he h2.1
 rw [h2.2] at h1
 rcases Nat.lt_or_ge i listed.size with h' | h'
 ·simp [h'] at hi h1; rw [hi] at h1; cases h1
 ·simp [Array.getElem?_eq_none h'] at h1
theorem zme {i:Nat} {oi:Oper} {v:Value} (ld:Bool) (hi:ops[i]?=some oi) (hsel:∀ (j:Nat) (o:Oper) cs b,ops[j]?=some o->o.op≠.select cs b)
  (hQ:∀ c a w,Q (.panic c) (a.put oi.dst v) w->Q (.panic c) a w) (hne:i≠lt) (hld:ld=true->zmh ops lt i=true) :
  ∀ (fuel:Nat) (listed:Array Bool) (a:Act) (w:World),
   (∀ j oj,ops[j]?=some oj->j≠i->listed.getD j true=false->(∀ e∈oj.after,Region.binds .any e=true->e.on≠i)->oi.apart ops oj=true) ->
   i∈Region.ready .any ops listed->YieldsIf P ops (fun w=>ld=true->S w) oi v a->(listed.getD lt false=true\/S w)->(ld=true->listed.getD lt false=false) ->
   zfG P ops Q S lt fuel (listed.setIfInBounds i true) (a.put oi.dst v) w->zfG P ops Q S lt (fuel+1) listed a w:=by
 intro fuel
 have tw:∀ {listed:Array Bool} {w:World},(listed.getD lt false=true\/S w)->(ld=true->listed.getD lt false=false)->(ld=true->S w):=fun h1 h2 h3=>by
  rcases h1 with h1 | h1
  ·rw [h2 h3] at h1; cases h1
  ·exact h1
 have self:∀ {listed:Array Bool} {w:World},(listed.getD lt false=true\/S w)->((listed.setIfInBounds i true).getD lt false=true\/S w):=fun h=>h.imp (fun h=>zcE h) id
 induction fuel with
 | zero =>
  intro listed a w _ hr hy hS hc H
  refine ⟨fun h=>(by rw [h] at hr; cases hr),fun j hj=>?_⟩
  by_cases hji:j=i
  ·subst hji; exact hy.wpOp hi (tw hS hc) ⟨self hS,H⟩
  ·have:=ready_mono hj hji
   rw [H.1] at this
   cases this
 | succ fuel ih =>
  intro listed a w hfree hr hy hS hc H
  refine ⟨fun h=>(by rw [h] at hr; cases hr),fun j hj=>?_⟩
  by_cases hji:j=i
  ·subst hji; exact hy.wpOp hi (tw hS hc) ⟨self hS,H⟩
  ·have h1:=H.2 j (ready_mono hj hji)
   obtain ⟨hjun,oj,hoj,hall⟩:=mem_ready.1 hj
   have hnot:∀ e∈oj.after,Region.binds .any e=true->e.on≠i:=fun e he hb heq=>by
    have h1:=hall e he hb
    have h0:=(mem_ready.1 hr).1
    rw [heq] at h1
    rcases Nat.lt_or_ge i listed.size with h' | h'
    ·simp [h'] at h0 h1; rw [h0] at h1; cases h1
    ·simp [Array.getElem?_eq_none h'] at h1
   have h2:=wpOp_putIf hoj (hfree j oj hoj hji hjun hnot) (fun cs b=>hsel i oi cs b hi) (fun cs b=>hsel j oj cs b hoj) hQ hy h1
   have hfree':∀ k ok,ops[k]?=some ok->k≠i->(listed.setIfInBounds j true).getD k true=false ->
     (∀ e∈ok.after,Region.binds .any e=true->e.on≠i)->oi.apart ops ok=true:=fun k ok hk hki hun hno=>by
    refine hfree k ok hk hki ?_ hno
    by_cases hjk:j=k
    ·subst hjk; exact hjun
    ·rw [getD_set_ne true hjk] at hun; exact hun
   have hc':ld=true->(listed.setIfInBounds j true).getD lt false=false:=fun h=>by
    rw [zeA (zq1 (hld h) (mem_ready.1 hr).1 hj)]; exact hc h
   refine wpOp_mono (fun a' w' h3=>?_) h2
   have h4:(listed.setIfInBounds j true).getD lt false=true\/S w':=h3.2.1.imp (fun h=>by
    rw [Array.setIfInBounds_comm _ _ (Ne.symm hji),zeA hne] at h; exact h) id
   refine ⟨h4,ih (listed.setIfInBounds j true) a' w' hfree' (ready_mono hr (Ne.symm hji)) h3.1 h4 hc' ?_⟩
   rw [Array.setIfInBounds_comm _ _ hji]
   exact h3.2.2
theorem zgA {i:Nat} {oi:Oper} {v:Value} {fuel:Nat} {listed:Array Bool} {a:Act} {w:World} (ld:Bool) (hi:ops[i]?=some oi)
  (hs:Region.noSelect ops=true) (hf:Region.free .any ops listed i=true) (hr:(Region.ready .any ops listed).contains i=true)
  (hQ:∀ c a w,Q (.panic c) (a.put oi.dst v) w->Q (.panic c) a w) (hne:i≠lt) (hld:ld=true->zmh ops lt i=true) (hy:YieldsIf P ops (fun w=>ld=true->S w) oi v a)
  (hS:listed.getD lt false=true\/S w) (hc:ld=true->listed.getD lt false=false)
  (h:zfG P ops Q S lt fuel (listed.setIfInBounds i true) (a.put oi.dst v) w):zfG P ops Q S lt (fuel+1) listed a w :=
 zme ld hi (Region.noSelect_spec hs) hQ hne hld fuel listed a w (Region.free_spec hi hf) (by simpa using hr) hy hS hc h
theorem znq {listed:Array Bool} {a:Act} {w:World} (hr:Region.ready .any ops listed=[]) (h:Q .normal a w) :
  ∀ fuel,zfG P ops Q S lt fuel listed a w
 | 0=>⟨hr,h⟩
 | _+1=>⟨fun _=>h,by rw [hr]; simp⟩
theorem zhy {i:Nat} {fuel:Nat} {listed:Array Bool} {a:Act} {w:World} (hr:Region.ready .any ops listed=[i])
  (h:wpOp P ops Q i (fun a' w'=>((listed.setIfInBounds i true).getD lt false=true\/S w')/\zfG P ops Q S lt fuel (listed.setIfInBounds i true) a' w') a w):zfG P ops Q S lt (fuel+1) listed a w :=
 by
 refine ⟨fun h0=>(by rw [hr] at h0; cases h0),fun j hj=>?_⟩
 rw [hr] at hj; simp at hj; subst hj; exact h
def noLd (ops:Array Oper) (lt:Nat):List (Nat×Bool)->Bool
 | []=>true
 | (i,fl) :: r=>!(fl && (Nat.beq i lt || match ops[i]? with | some o=>isLd o | none=>false)) && noLd ops lt r
def zsf (ops:Array Oper) (lt:Nat):List (Nat×Bool)->Bool
 | []=>true
 | (i,fl) :: r=>!Nat.beq i lt && (!(fl && match ops[i]? with | some o=>isLd o | none=>false) || zmh ops lt i) && zsf ops lt r
theorem zmD [hQ:PanicOk Q] {S2:World->Prop} (hs:Region.noSelect ops=true):∀ (ord:List (Nat×Bool)) (fuel:Nat) (listed:Array Bool) (a:Act) (w:World),
  ord.length<=fuel->zgp ops ord listed=true->noLd ops lt ord=true->listed.getD lt false=true->wpL P ops Q S2 (pick ops.toList ord) a w->zfG P ops Q S lt fuel listed a w
 | [],fuel,listed,a,w,_,hok,_,_,h=>znq (by simpa [zgp] using hok) h fuel
 | (i,fl) :: r,0,_,_,_,hl,_,_,_,_=>by simp at hl
 | (i,true) :: r,fuel+1,listed,a,w,hl,hok,hn,hL,h=>by
  simp only [zgp,Bool.and_eq_true] at hok
  obtain ⟨⟨⟨h1,h2⟩,h3⟩,h4⟩:=hok
  obtain ⟨o,ho⟩:=Option.isSome_iff_exists.1 h3
  have ho':ops.toList[i]?=some o:=by simpa using ho
  simp only [noLd,ho,Bool.true_and,Bool.and_eq_true,Bool.not_eq_true',Bool.or_eq_false_iff] at hn
  simp only [pick,ho',wpL] at h
  obtain ⟨v,hy,hr⟩:=h
  have hy':YieldsIf P ops (fun w=>false=true->S w) o v a:=by
   rcases hy with hy | ⟨hy,_⟩
   ·exact hy.imp (fun ⟨h1,h2⟩=>⟨h1,fun w _=>h2 w Zt⟩) id
   ·rw [hn.1.2] at hy; cases hy
  exact zgA false ho hs h2 h1 (fun c a w=>hQ.ok c a o.dst v w) (fun e=>by subst e; rw [Nat.beq_refl] at hn; cases hn.1.1) (fun e=>by cases e) hy' (.inl hL) (fun e=>by cases e)
   (zmD hs r fuel _ _ _ (by simpa using hl) h4 hn.2 (zcE hL) hr)
 | (i,false) :: r,fuel+1,listed,a,w,hl,hok,hn,hL,h=>by
  simp only [zgp,Bool.and_eq_true,beq_iff_eq] at hok
  obtain ⟨⟨h1,h3⟩,h4⟩:=hok
  obtain ⟨o,ho⟩:=Option.isSome_iff_exists.1 h3
  have ho':ops.toList[i]?=some o:=by simpa using ho
  simp only [noLd,Bool.false_and,Bool.not_false,Bool.true_and] at hn
  simp only [pick,ho',wpL] at h
  refine zhy h1 ?_
  unfold wpOp
  simp only [ho]
  split
  ·rename_i hw; rw [Zp hw] at h
   exact .inl (Oper.wp_mono (fun a' w' h'=>⟨.inl (zcE hL),zmD hs r fuel _ _ _ (by simpa using hl) h4 hn (zcE hL) h'.2⟩) h)
  ·rename_i hw; rw [Zn hw] at h
   exact ⟨.inl (zcE hL),zmD hs r fuel _ _ _ (by simpa using hl) h4 hn (zcE hL) h⟩
def Q2 (P:Program) (ops:Array Oper) (Q:Exit->Act->World->Prop) (S2:World->Prop) (rest:List (Bool×Oper)):Exit->Act->World->Prop
 | .normal,a,w=>wpL P ops Q S2 rest a w
 | e,a,w=>Q e a w
theorem Oper.wp_q2 {S2:World->Prop} {rest:List (Bool×Oper)} {o:Oper} {a:Act} {w:World} {K:Act->World->Prop} (hh:o.wp P a w K (Q2 P ops Q S2 rest)):o.wp P a w K Q:=by
 unfold Oper.wp at *
 generalize (execOp a.eval o).run P w=r at *
 cases r with
 | ok n w' =>
  cases n<;>simp only [Oper.upon] at hh ⊢ <;>
   first
    | exact hh
    | exact Calls.mono hh (fun e w'' he=>by cases e<;>exact he)
 | halt x w'=>cases x<;>simp only [Oper.upon] at hh ⊢<;>exact hh
theorem zd2 {l:Array Bool} {i:Nat} (h:i<l.size):(l.setIfInBounds i true).getD i false=true:=by
 rw [Array.getD_eq_getD_getElem?,Array.getElem?_setIfInBounds_self_of_lt h]; rfl
theorem zmE [hQ:PanicOk Q] {S2:World->Prop} (hs:Region.noSelect ops=true) (r2:List (Nat×Bool)) (hn2:noLd ops lt r2=true):∀ (ord:List (Nat×Bool)) (fuel:Nat) (listed:Array Bool) (a:Act) (w:World),
  (ord++(lt,false) :: r2).length<=fuel->zgp ops (ord++(lt,false) :: r2) listed=true->zsf ops lt ord=true->listed.getD lt false=false->S w->wpL P ops (Q2 P ops Q S2 (pick ops.toList ((lt,false) :: r2))) S (pick ops.toList ord) a w->zfG P ops Q S lt fuel listed a w
 | [],0,_,_,_,hl,_,_,_,_,_=>by simp at hl
 | [],fuel+1,listed,a,w,hl,hok,_,hL,hSw,h=>by
  change wpL P ops Q S2 (pick ops.toList ((lt,false) :: r2)) a w at h
  simp only [List.nil_append,zgp,Bool.and_eq_true,beq_iff_eq] at hok
  obtain ⟨⟨h1,h3⟩,h4⟩:=hok
  obtain ⟨o,ho⟩:=Option.isSome_iff_exists.1 h3
  have ho':ops.toList[lt]?=some o:=by simpa using ho
  simp only [pick,ho',wpL] at h
  have hlt:lt<listed.size:=by
   have hm:lt∈Region.ready .any ops listed:=by rw [h1]; simp
   have:=(mem_ready.1 hm).1
   rcases Nat.lt_or_ge lt listed.size with h' | h'
   ·exact h'
   ·simp [Array.getD_eq_getD_getElem?,Array.getElem?_eq_none h'] at this
  refine zhy h1 ?_
  unfold wpOp
  simp only [ho]
  split
  ·rename_i hw; rw [Zp hw] at h
   exact .inl (Oper.wp_mono (fun a' w' h'=>⟨.inl (zd2 hlt),zmD hs r2 fuel _ _ _ (by simpa using hl) h4 hn2 (zd2 hlt) h'.2⟩) h)
  ·rename_i hw; rw [Zn hw] at h
   exact ⟨.inl (zd2 hlt),zmD hs r2 fuel _ _ _ (by simpa using hl) h4 hn2 (zd2 hlt) h⟩
 | (i,fl) :: r,0,_,_,_,hl,_,_,_,_,_=>by simp at hl
 | (i,true) :: r,fuel+1,listed,a,w,hl,hok,hn,hL,hSw,h=>by
  simp only [List.cons_append,zgp,Bool.and_eq_true] at hok
  obtain ⟨⟨⟨h1,h2⟩,h3⟩,h4⟩:=hok
  obtain ⟨o,ho⟩:=Option.isSome_iff_exists.1 h3
  have ho':ops.toList[i]?=some o:=by simpa using ho
  simp only [zsf,ho,Bool.true_and,Bool.and_eq_true,Bool.not_eq_true'] at hn
  have hne:i≠lt:=fun e=>by subst e; rw [Nat.beq_refl] at hn; cases hn.1.1
  simp only [pick,ho',wpL] at h
  obtain ⟨v,hy,hr⟩:=h
  have hL':(listed.setIfInBounds i true).getD lt false=false:=by rw [zeA hne]; exact hL
  cases hld:isLd o with
  | false =>
   have hy':YieldsIf P ops (fun w=>false=true->S w) o v a:=by
    rcases hy with hy | ⟨hy,_⟩
    ·exact hy.imp (fun ⟨h1,h2⟩=>⟨h1,fun w _=>h2 w Zt⟩) id
    ·rw [hld] at hy; cases hy
   exact zgA false ho hs h2 h1 (fun c a w=>hQ.ok c a o.dst v w) hne (fun e=>by cases e) hy' (.inr hSw) (fun e=>by cases e)
    (zmE hs r2 hn2 r fuel _ _ _ (by simpa using hl) h4 hn.2 hL' hSw hr)
  | true =>
   rw [hld] at hn
   have hy':YieldsIf P ops (fun w=>true=true->S w) o v a:=(YieldsIf.weak hy).imp (fun ⟨h1,h2⟩=>⟨h1,fun w hw=>h2 w (hw Z)⟩) id
   exact zgA true ho hs h2 h1 (fun c a w=>hQ.ok c a o.dst v w) hne (fun _=>by simpa using hn.1.2) hy' (.inr hSw) (fun _=>hL)
    (zmE hs r2 hn2 r fuel _ _ _ (by simpa using hl) h4 hn.2 hL' hSw hr)
 | (i,false) :: r,fuel+1,listed,a,w,hl,hok,hn,hL,hSw,h=>by
  simp only [List.cons_append,zgp,Bool.and_eq_true,beq_iff_eq] at hok
  obtain ⟨⟨h1,h3⟩,h4⟩:=hok
  obtain ⟨o,ho⟩:=Option.isSome_iff_exists.1 h3
  have ho':ops.toList[i]?=some o:=by simpa using ho
  simp only [zsf,Bool.false_and,Bool.not_false,Bool.true_or,Bool.and_true,Bool.and_eq_true,Bool.not_eq_true'] at hn
  have hne:i≠lt:=fun e=>by subst e; rw [Nat.beq_refl] at hn; cases hn.1
  have hL':(listed.setIfInBounds i true).getD lt false=false:=by rw [zeA hne]; exact hL
  simp only [pick,ho',wpL] at h
  refine zhy h1 ?_
  unfold wpOp
  simp only [ho]
  split
  ·rename_i hw; rw [Zp hw] at h
   exact .inl (Oper.wp_mono (fun a' w' h'=>⟨.inr h'.1,zmE hs r2 hn2 r fuel _ _ _ (by simpa using hl) h4 hn.2 hL' h'.1 h'.2⟩) (Oper.wp_q2 h))
  ·rename_i hw; rw [Zn hw] at h
   exact ⟨.inr hSw,zmE hs r2 hn2 r fuel _ _ _ (by simpa using hl) h4 hn.2 hL' hSw h⟩
end
section
variable (P:Program) (w0:World) (R:Assn) (n:Nat)
def TC (c:Code) (Q:Exit->Act->World->Prop) (env:List (Nat×Value)) (L:List (Nat×Assn)):Prop :=
 ∀ a w,Agrees n env a->Sat w0 L R w->c.wp P Q a w
def TQ (Q:Exit->Act->World->Prop) (e:Exit) (env:List (Nat×Value)) (L:List (Nat×Assn)):Prop :=
 ∀ a w,Agrees n env a->Sat w0 L R w->Q e a w
def TL (ks:List Nat) (L0:List (Nat×Assn)) (ops:Array Oper) (Q:Exit->Act->World->Prop) (rest:List (Bool×Oper)) (env:List (Nat×Value)) (L:List (Nat×Assn)):Prop :=
 ∀ a w,Agrees n env a->Sat w0 L R w->SS w0 ks L0 w->wpL P ops Q (SS w0 ks L0) rest a w
def FQ (fn:Func) (Φ:Value->List Assn->Prop):Exit->Act->World->Prop :=
 bodyPost P fn fun e w'=>∃ v Bs,e=.returned v/\Φ v Bs/\Sat w0 (lab 0 Bs) R w'
end
def ztW:Nat->List Value->List (Nat×Value)
 | _,[]=>[]
 | n,v :: r=>(n,v) :: ztW (n+1) r
theorem zvD (vs:List Value):∀ n t,lk (ztW n vs) t=if n<=t then vs[t - n]? else none:=by
 induction vs with
 | nil=>intro n t; simp [ztW,lk]
 | cons v r ih =>
  intro n t
  rw [ztW,zaG,ih]
  by_cases h:n=t
  ·subst h; simp
  ·rw [Zn h]
   by_cases h1:n+1<=t
   ·rw [Zp h1,Zp (by omega)]
    have:t - n=(t - (n+1))+1:=by omega
    rw [this,List.getElem?_cons_succ]
   ·rw [Zn h1,Zn (by omega)]
theorem Fn.enter {P:Program} {f:FuncId} {fn:Func} {c:Code} {args:List Value} {As:List Assn} {Φ:Value->List Assn->Prop} (hf:P.funcs[f]?=some fn) (hb:fn.body=some c)
  (hn:Nat.ble args.length fn.ntmps=true)
  (h:∀ w0 R,TC P w0 R fn.ntmps c (FQ P w0 R fn Φ) (ztW 0 args) (lab 0 As)):Fn P f args As Φ:=by
 intro w0 R w hs
 refine calls_of_wp hf hb (h w0 R _ w ?_ hs)
 have hle:args.length<=fn.ntmps:=by simpa [Nat.ble_eq] using hn
 refine ⟨Z,by simp; omega,fun t v ht=>?_⟩
 rw [zvD] at ht
 simp only [Nat.zero_le,if_true,Nat.sub_zero] at ht
 have hlt:=(List.getElem?_eq_some_iff.1 ht).1
 rw [Array.getElem?_append_left (by simpa using hlt)]
 simpa using ht
section
variable {P:Program} {w0:World} {R:Assn} {n:Nat} {Q:Exit->Act->World->Prop} {env:List (Nat×Value)} {L:List (Nat×Assn)}
theorem TC.seq {x y:Code} (h:TC P w0 R n x (Exit.then (y.wp P Q) Q) env L):TC P w0 R n (.seq x y) Q env L:=fun a w ha hs=>wp_seq (h a w ha hs)
theorem TC.skip (h:TQ w0 R n Q .normal env L):TC P w0 R n .skip Q env L:=fun a w ha hs=>wp_skip (h a w ha hs)
theorem TC.ret (h:TQ w0 R n Q .ret env L):TC P w0 R n .ret Q env L:=fun a w ha hs=>wp_ret (h a w ha hs)
theorem TC.exit {id:Nat} (h:TQ w0 R n Q (.exit id) env L):TC P w0 R n (.exit id) Q env L:=fun a w ha hs=>wp_exit (h a w ha hs)
theorem TC.block {id:Nat} {c:Code} (h:TC P w0 R n c (Exit.inBlock id Q) env L):TC P w0 R n (.block id c) Q env L:=fun a w ha hs=>wp_block (h a w ha hs)
theorem TC.condT {c:Operand} {x y:Code} (hc:evO env c=some (.bool true)) (h:TC P w0 R n x Q env L):TC P w0 R n (.cond c x y) Q env L :=
 fun a w ha hs=>wp_cond_true (ha.eval hc) (h a w ha hs)
theorem TC.condF {c:Operand} {x y:Code} (hc:evO env c=some (.bool false)) (h:TC P w0 R n y Q env L):TC P w0 R n (.cond c x y) Q env L :=
 fun a w ha hs=>wp_cond_false (ha.eval hc) (h a w ha hs)
theorem TC.cond {c:Operand} {x y:Code} {b:Bool} (hc:evO env c=some (.bool b)) (ht:b=true->TC P w0 R n x Q env L) (hf:b=false->TC P w0 R n y Q env L):TC P w0 R n (.cond c x y) Q env L :=
 fun a w ha hs=>wp_cond_split (ha.eval hc) (fun e=>ht e a w ha hs) (fun e=>hf e a w ha hs)
theorem TQ.then {y:Code} (h:TC P w0 R n y Q env L):TQ w0 R n (Exit.then (y.wp P Q) Q) .normal env L:=fun a w ha hs=>h a w ha hs
theorem TQ.thenRet {K:Act->World->Prop} (h:TQ w0 R n Q .ret env L):TQ w0 R n (Exit.then K Q) .ret env L:=fun a w ha hs=>h a w ha hs
theorem TQ.thenExit {K:Act->World->Prop} {id:Nat} (h:TQ w0 R n Q (.exit id) env L):TQ w0 R n (Exit.then K Q) (.exit id) env L:=fun a w ha hs=>h a w ha hs
theorem TQ.inBlock {id:Nat} (h:TQ w0 R n Q .normal env L):TQ w0 R n (Exit.inBlock id Q) .normal env L:=fun a w ha hs=>h a w ha hs
theorem TQ.blockRet {id:Nat} (h:TQ w0 R n Q .ret env L):TQ w0 R n (Exit.inBlock id Q) .ret env L:=fun a w ha hs=>h a w ha hs
theorem TQ.blockHere {id:Nat} (h:TQ w0 R n Q .normal env L):TQ w0 R n (Exit.inBlock id Q) (.exit id) env L:=fun a w ha hs=>by
 simp only [Exit.inBlock,if_true]; exact h a w ha hs
theorem TQ.blockOut {id id':Nat} (hne:Nat.beq id' id=false) (h:TQ w0 R n Q (.exit id') env L):TQ w0 R n (Exit.inBlock id Q) (.exit id') env L:=fun a w ha hs=>by
 have:id'≠id:=fun e=>by subst e; rw [Nat.beq_refl] at hne; cases hne
 simp only [Exit.inBlock,Zn this]; exact h a w ha hs
theorem TC.sub {c:Code} {env':List (Nat×Value)} {L':List (Nat×Assn)} (he:subE env env') (hL:subE L L') (h:TC P w0 R n c Q env' L'):TC P w0 R n c Q env L :=
 fun a w ha hs=>h a w (ha.sub (zcv he)) (hs.weaken (zcv hL))
theorem TC.loop {X:Type} {c:Code} (E:X->List (Nat×Value)) (M:X->List (Nat×Assn)) (I:X->Prop) (μ:X->Nat) (x0:X) (hI:I x0) (he:subE env (E x0)) (hL:subE L (M x0))
  (round:∀ x,I x->TC P w0 R n c (Exit.then (fun a w=>∃ x',(I x'/\μ x'<μ x)/\Agrees n (E x') a/\Sat w0 (M x') R w) Q) (E x) (M x)):TC P w0 R n (.loop c) Q env L:=by
 intro a w ha hs b k cs
 have key:∀ m x a w,μ x=m->I x->Agrees n (E x) a->Sat w0 (M x) R w->∃ e a' w',Q e a' w'/\Arrives P (lone (b.at a (.code c :: .inLoop c :: k)) cs w) b k cs e a' w':=by
  intro m
  induction m using Nat.strongRecOn with
  | _ m ih =>
   intro x a w hm hIx ha hs
   obtain ⟨e,a₁,w₁,hq,harr⟩:=round x hIx a w ha hs b (.inLoop c :: k) cs
   cases e with
   | normal =>
    obtain ⟨x',⟨hI',hlt⟩,ha',hs'⟩:=hq
    obtain ⟨e₂,a₂,w₂,hq₂,harr₂⟩:=ih (μ x') (hm▸hlt) x' a₁ w₁ rfl hI' ha' hs'
    exact ⟨e₂,a₂,w₂,hq₂,.of_steps (Steps.trans harr (.one step_inLoop)) harr₂⟩
   | exit id=>exact ⟨_,a₁,w₁,hq,.pass (x:=.inLoop c) Z (fun _ _=>.inl (by simp)) harr⟩
   | goto l=>exact ⟨_,a₁,w₁,hq,.pass (x:=.inLoop c) Z (fun _ _=>.inl (by simp)) harr⟩
   | ret=>exact ⟨_,a₁,w₁,hq,.pass (x:=.inLoop c) Z (fun _ _=>.inl (by simp)) harr⟩
   | panic ch=>exact ⟨_,a₁,w₁,hq,.pass (x:=.inLoop c) Z (fun _ _=>.inl (by simp)) harr⟩
   | outgrown=>exact ⟨_,a₁,w₁,hq,.pass (x:=.inLoop c) Z (fun _ _=>.inl (by simp)) harr⟩
 obtain ⟨e,a',w',hq,harr⟩:=key _ x0 a w rfl hI (ha.sub (zcv he)) (hs.weaken (zcv hL))
 exact ⟨e,a',w',hq,.of_steps (.one step_loop) harr⟩
theorem Sat.back {w:World} {ks:List Nat} {Bs:List Assn} (hs:Sat w0 L R w) (hn:zcp ks=true) (h:lks L ks Bs):Sat w0 (lab 0 Bs) R w:=by
 obtain ⟨hlen,hlk⟩:=zlA h
 obtain ⟨f,g,s⟩:=hs.sep
 refine ⟨hs.os,hs.tape,hs.output,fun t=>match ks[t]? with | some k=>f k | none=>fun _=>none,g,?_,s.frame,?_,s.gsub,?_,?_⟩
 ·intro t A hA
  rw [za5] at hA
  have h2:=(List.getElem?_eq_some_iff.1 hA).1
  have hk:ks[t]?=some (ks[t]'(by omega)):=List.getElem?_eq_getElem (by omega)
  simp only [hk]
  exact s.holds _ A ((hlk t _ hk).trans hA)
 ·intro t c o hc
  cases hk:ks[t]? with
  | none=>simp only [hk] at hc; cases hc
  | some k=>simp only [hk] at hc; exact s.sub k c o hc
 ·intro i j hij c
  cases hi:ks[i]? with
  | none=>exact .inl (by simp [hi])
  | some k =>
   cases hj:ks[j]? with
   | none=>exact .inr (by simp [hj])
   | some l =>
    simp only [hi,hj]
    refine s.dis k l (fun e=>hij ?_) c
    subst e
    obtain ⟨hi',he⟩:=List.getElem?_eq_some_iff.1 hi
    obtain ⟨hj',he'⟩:=List.getElem?_eq_some_iff.1 hj
    exact (List.getElem_inj (zeg hn)).1 (he.trans he'.symm)
 ·intro i c
  cases hi:ks[i]? with
  | none=>exact .inl (by simp [hi])
  | some k=>simp only [hi]; exact s.gdis k c
theorem FQ.of {fn:Func} {Φ:Value->List Assn->Prop} {e:Exit} (he:e=.ret\/e=.normal) {v:Value} {Bs:List Assn} (ks:List Nat)
  (hv:∀ a w,Agrees n env a->Sat w0 L R w->(results fn a.tmps).run P w=.ok v w) (hn:zcp ks=true) (hΦ:Φ v Bs) (hB:lks L ks Bs):TQ w0 R n (FQ P w0 R fn Φ) e env L:=by
 intro a w ha hs
 have:bodyPost P fn (fun e w'=>∃ v Bs,e=.returned v/\Φ v Bs/\Sat w0 (lab 0 Bs) R w') .ret a w:=⟨ha.defers,v,hv a w ha hs,v,Bs,Z,hΦ,hs.back hn hB⟩
 rcases he with rfl | rfl
 ·exact this
 ·exact this
theorem zjv {a:Act} {t:Nat} {v:Value} (ha:Agrees n env a) (h:lk env t=some v):a.tmps.getD t undef=v:=by
 rw [Array.getD_eq_getD_getElem?,ha.get t v h]; rfl
theorem FQ.ret0 {fn:Func} {Φ:Value->List Assn->Prop} (ks:List Nat) {Bs:List Assn} (hr:fn.results=#[]) (hn:zcp ks=true) (hB:lks L ks Bs) (hΦ:Φ (.tuple #[]) Bs):TQ w0 R n (FQ P w0 R fn Φ) .ret env L :=
 FQ.of (.inl Z) ks (fun a w _ _=>results_none hr _ _ _) hn hΦ hB
theorem FQ.end0 {fn:Func} {Φ:Value->List Assn->Prop} (ks:List Nat) {Bs:List Assn} (hr:fn.results=#[]) (hn:zcp ks=true) (hB:lks L ks Bs) (hΦ:Φ (.tuple #[]) Bs):TQ w0 R n (FQ P w0 R fn Φ) .normal env L :=
 FQ.of (.inr Z) ks (fun a w _ _=>results_none hr _ _ _) hn hΦ hB
theorem FQ.ret1 {fn:Func} {Φ:Value->List Assn->Prop} {t:Nat} {v:Value} (ks:List Nat) {Bs:List Assn} (hr:fn.results=#[.tmp t]) (hv:lk env t=some v) (hn:zcp ks=true) (hB:lks L ks Bs) (hΦ:Φ v Bs):TQ w0 R n (FQ P w0 R fn Φ) .ret env L :=
 FQ.of (.inl Z) ks (fun a w ha _=>by rw [results_tmp hr,zjv ha hv]) hn hΦ hB
theorem FQ.ret2 {fn:Func} {Φ:Value->List Assn->Prop} {t u:Nat} {v x:Value} (ks:List Nat) {Bs:List Assn} (hr:fn.results=#[.tmp t,.tmp u]) (hv:lk env t=some v) (hx:lk env u=some x) (hn:zcp ks=true) (hB:lks L ks Bs)
  (hΦ:Φ (.tuple #[v,x]) Bs):TQ w0 R n (FQ P w0 R fn Φ) .ret env L :=
 FQ.of (.inl Z) ks (fun a w ha _=>by rw [results_tmp2 hr,zjv ha hv,zjv ha hx]) hn hΦ hB
theorem FQ.ret3 {fn:Func} {Φ:Value->List Assn->Prop} {t u s:Nat} {v x y:Value} (ks:List Nat) {Bs:List Assn} (hr:fn.results=#[.tmp t,.tmp u,.tmp s]) (hv:lk env t=some v) (hx:lk env u=some x) (hy:lk env s=some y) (hn:zcp ks=true) (hB:lks L ks Bs)
  (hΦ:Φ (.tuple #[v,x,y]) Bs):TQ w0 R n (FQ P w0 R fn Φ) .ret env L :=
 FQ.of (.inl Z) ks (fun a w ha _=>by simp [results,hr,ha.get t v hv,ha.get u x hx,ha.get s y hy]) hn hΦ hB
def text (l:List Oper):List (Bool×Oper):=l.map fun o=>(false,o)
theorem zqY {ops:Array Oper} {S:World->Prop} (l:List Oper):∀ a w,wpL P ops Q S (text l) a w->wpList P ops Q l a w:=by
 induction l with
 | nil=>exact fun a w h=>h
 | cons o r ih =>
  intro a w h
  simp only [text,List.map_cons,wpL] at h
  unfold wpList
  split
  ·rename_i hw; rw [Zp hw] at h
   exact .inl (Oper.wp_mono (fun a' w' h'=>ih a' w' h'.2) h)
  ·rename_i hw; rw [Zn hw] at h; exact ih _ _ h
theorem TC.region {id:Nat} {l:List Oper} (h:TL P w0 R n [] [] l.toArray Q (text l) env L):TC P w0 R n (.region id l.toArray false) Q env L :=
 fun a w ha hs=>wp_region_lit (zqY l a w (h a w ha hs (SS.of hs Zt)))
def zz2 (l:List Oper) (ord:List (Nat×Bool)):Bool :=
 Region.noSelect l.toArray && Nat.ble ord.length l.length && zgp l.toArray ord (Array.replicate l.length false)
theorem TC.draw {id:Nat} {l:List Oper} (ord:List (Nat×Bool)) (ks:List Nat) (hm:P.follows .mixedOrders=true) (hok:zz2 l ord=true) [PanicOk Q]
  (h:TL P w0 R n ks L l.toArray Q (pick l ord) env L):TC P w0 R n (.region id l.toArray true) Q env L:=by
 intro a w ha hs
 simp only [zz2,Bool.and_eq_true] at hok
 obtain ⟨⟨h1,h2⟩,h3⟩:=hok
 have hs':=hs.drawn (w.drawn+1)
 refine wp_region_held hm (S:=SS w0 ks L) (zfF h1 ord _ _ _ _ ?_ (by simpa using h3) (SS.of hs' (Keep.refl L ks)) ?_)
 ·simpa [Nat.ble_eq] using h2
 ·simpa using h a _ ha hs' (SS.of hs' (Keep.refl L ks))
def zwx (l:List Oper) (ord:List (Nat×Bool)) (lt:Nat) (r2:List (Nat×Bool)):Bool :=
 Region.noSelect l.toArray && Nat.ble (ord++(lt,false) :: r2).length l.length && zgp l.toArray (ord++(lt,false) :: r2) (Array.replicate l.length false) && noLd l.toArray lt r2 && zsf l.toArray lt ord
theorem TC.draw2 {id:Nat} {l:List Oper} (ord:List (Nat×Bool)) (lt:Nat) (r2:List (Nat×Bool)) (ks:List Nat) (hm:P.follows .mixedOrders=true) (hok:zwx l ord lt r2=true) [PanicOk Q]
  (h:TL P w0 R n ks L l.toArray (Q2 P l.toArray Q (SS w0 [] []) (pick l ((lt,false) :: r2))) (pick l ord) env L):TC P w0 R n (.region id l.toArray true) Q env L:=by
 intro a w ha hs
 simp only [zwx,Bool.and_eq_true] at hok
 obtain ⟨⟨⟨⟨h1,h2⟩,h3⟩,h4⟩,h5⟩:=hok
 have hs':=hs.drawn (w.drawn+1)
 refine wp_region_any hm (zkh (S:=SS w0 ks L) (lt:=lt) _ _ _ _ (zmE (S2:=SS w0 [] []) h1 r2 h4 ord _ _ _ _ ?_ (by simpa using h3) h5 ?_ (SS.of hs' (Keep.refl L ks)) ?_))
 ·simpa [Nat.ble_eq] using h2
 ·rw [Array.getD_eq_getD_getElem?,Array.getElem?_replicate]; split<;>rfl
 ·simpa using h a _ ha hs' (SS.of hs' (Keep.refl L ks))
theorem TL.late {ops:Array Oper} {rest:List (Bool×Oper)} {ks:List Nat} {L0:List (Nat×Assn)} (h:TL P w0 R n [] [] ops Q rest env L):TL P w0 R n ks L0 ops (Q2 P ops Q (SS w0 [] []) rest) [] env L :=
 fun a w ha hs _=>h a w ha hs (SS.of hs Zt)
variable {ks:List Nat} {L0:List (Nat×Assn)} {ops:Array Oper} {rest:List (Bool×Oper)}
theorem TL.done (h:TQ w0 R n Q .normal env L):TL P w0 R n ks L0 ops Q [] env L:=fun a w ha hs _=>h a w ha hs
def zag (ops:Array Oper) (env:List (Nat×Value)):Option (Nat×Bool)->Option Bool
 | none=>some true
 | some (j,want)=>match (ops.toList[j]?).bind (·.dst) with
  | some t=>match lk env t with
   | some (.bool b)=>some (b == want)
   | some _=>some false
   | none=>none
  | none=>none
theorem zel {o:Oper} {a:Act} {b:Bool} (ha:Agrees n env a) (h:zag ops env o.guard=some b):Region.wanted o (yielded ops a.tmps)=b:=by
 unfold Region.wanted
 cases hg:o.guard with
 | none=>rw [hg] at h; simpa [zag] using h
 | some p =>
  obtain ⟨j,want⟩:=p
  rw [hg] at h
  simp only [zag] at h
  cases ht:(ops.toList[j]?).bind (·.dst) with
  | none=>rw [ht] at h; cases h
  | some t =>
   rw [ht] at h
   dsimp only at h
   have ht':(ops[j]?).bind (·.dst)=some t:=by simpa using ht
   dsimp only
   cases hl:lk env t with
   | none=>rw [hl] at h; cases h
   | some v =>
    have hv:=ha.get t v hl
    rw [hl] at h
    simp only [yielded,ht',Option.bind_some,hv]
    cases v<;>simp_all
theorem TL.off {fl:Bool} {o:Oper} (hg:zag ops env o.guard=some false) (hd:okD n o.dst=true) (h:TL P w0 R n ks L0 ops Q rest (setE env o.dst undef) L) :
  TL P w0 R n ks L0 ops Q ((fl,o) :: rest) env L:=by
 intro a w ha hs hS
 have hw:=zel ha hg
 cases fl with
 | true=>exact ⟨undef,.inl (.inr ⟨hw,Z⟩),h _ w (ha.put hd _) hs hS⟩
 | false=>simp only [wpL,hw]; exact h _ w (ha.put hd _) hs hS
theorem TL.val {fl:Bool} {o:Oper} {v:Value} (hl:isLd o=true) (hg:zag ops env o.guard=some true) (hd:okD n o.dst=true)
  (hrun:∀ a w,Agrees n env a->(fl=false->Sat w0 L R w)->(fl=true->SS w0 ks L0 w)->(execOp a.eval o).run P w=.ok (.value v) w)
  (h:TL P w0 R n ks L0 ops Q rest (setE env o.dst v) L):TL P w0 R n ks L0 ops Q ((fl,o) :: rest) env L:=by
 intro a w ha hs hS
 have hw:=zel ha hg
 cases fl with
 | true=>exact ⟨v,.inr ⟨hl,.inl ⟨hw,fun w' hS'=>hrun a w' ha (fun e=>by cases e) (fun _=>hS')⟩⟩,h _ w (ha.put hd _) hs hS⟩
 | false =>
  simp only [wpL,hw,if_true,Oper.wp,hrun a w ha (fun _=>hs) (fun e=>by cases e),Oper.upon]
  exact ⟨hS,h _ w (ha.put hd _) hs hS⟩
theorem TL.pure {fl:Bool} {o:Oper} {v:Value} (hg:zag ops env o.guard=some true) (hd:okD n o.dst=true)
  (hrun:∀ a w,Agrees n env a->(execOp a.eval o).run P w=.ok (.value v) w)
  (h:TL P w0 R n ks L0 ops Q rest (setE env o.dst v) L):TL P w0 R n ks L0 ops Q ((fl,o) :: rest) env L :=
 fun a w ha hs hS=>by
 have hw:=zel ha hg
 cases fl with
 | true=>exact ⟨v,.inl (.inl ⟨hw,fun w' _=>hrun a w' ha⟩),h _ w (ha.put hd _) hs hS⟩
 | false =>
  simp only [wpL,hw,if_true,Oper.wp,hrun a w ha,Oper.upon]
  exact ⟨hS,h _ w (ha.put hd _) hs hS⟩
theorem TL.act {o:Oper} (hg:zag ops env o.guard=some true) (hd:okD n o.dst=true)
  (hrun:∀ a w,Agrees n env a->Sat w0 L R w->∃ v w' L',((execOp a.eval o).run P w=.ok (.value v) w'\/(v=undef/\(execOp a.eval o).run P w=.ok .skip w'))/\Sat w0 L' R w'/\Keep L0 L' ks /\
   TL P w0 R n ks L0 ops Q rest (setE env o.dst v) L'):TL P w0 R n ks L0 ops Q ((false,o) :: rest) env L:=by
 intro a w ha hs hS
 have hw:=zel ha hg
 obtain ⟨v,w',L',hr,hs',hk,h⟩:=hrun a w ha hs
 have hS':=SS.of hs' hk
 rcases hr with hr | ⟨rfl,hr⟩
 ·simp only [wpL,hw,if_true,Oper.wp,hr,Oper.upon]
  exact ⟨hS',h _ w' (ha.put hd _) hs' hS'⟩
 ·simp only [wpL,hw,if_true,Oper.wp,hr,Oper.upon]
  exact ⟨hS',h _ w' (ha.put hd _) hs' hS'⟩
theorem TL.enter {o:Oper} {f:FuncId} {args:List Value} {As:List Assn} {Φ:Value->List Assn->Prop} (ids ids':List Nat) (hg:zag ops env o.guard=some true) (hd:okD n o.dst=true)
  (hrun:∀ a w,Agrees n env a->Sat w0 L R w->(execOp a.eval o).run P w=.ok (.enter f args.toArray) w) (hc:Fn P f args As Φ)
  (hn:zcp ids'=true) (hp:zfe ids ids'=true) (hAs:lks L ids As)
  (h:∀ v Bs,Φ v Bs->ids'.length=Bs.length/\Keep L0 (labs ids' Bs L) ks/\TL P w0 R n ks L0 ops Q rest (setE env o.dst v) (labs ids' Bs L)) :
  TL P w0 R n ks L0 ops Q ((false,o) :: rest) env L:=by
 intro a w ha hs hS
 have hw:=zel ha hg
 have hnd:=zeg hn
 have hids:ids.Nodup:=by
  have sp:∀ {x y:List Nat},zfe x y=true->y.Nodup->x.Nodup:=by
   intro x
   induction x with
   | nil=>intro y _ _; exact List.nodup_nil
   | cons k r ih =>
    intro y hxy hy
    cases y with
    | nil=>simp [zfe] at hxy
    | cons b s =>
     simp only [zfe,Bool.and_eq_true] at hxy
     have e:=Nat.eq_of_beq_eq_true hxy.1
     subst e
     obtain ⟨h1,h2⟩:=List.nodup_cons.1 hy
     exact List.nodup_cons.2 ⟨fun hm=>h1 (zgb hxy.2 k hm),ih hxy.2 h2⟩
  exact sp hp hnd
 have hgive:=hs.give hids hAs
 simp only [wpL,hw,if_true,Oper.wp,hrun a w ha hs,Oper.upon]
 refine Calls.mono (hc w0 _ w hgive) ?_
 rintro e w' ⟨v,Bs,rfl,hΦ,hs'⟩
 obtain ⟨hl,hk,ht⟩:=h v Bs hΦ
 have hs2:=Sat.take hs' hnd (zgb hp) hl
 have hS2:=SS.of hs2 hk
 exact ⟨hS2,ht _ w' (ha.put hd _) hs2 hS2⟩
end
def zmZ:TypeDesc->Bool
 | .struct _ | .array _ _=>true
 | _=>false
def zcK (P:Program) (T:TypeId):Bool :=
 match P.underlying T,P.info? T with
 | some d,some i=>!zmZ d && Nat.beq i.size 1
 | _,_=>false
def aggB (P:Program) (T:TypeId) (n:Nat):Bool :=
 match P.underlying T,P.info? T with
 | some d,some i=>zmZ d && Nat.beq i.size n
 | _,_=>false
def fldB (P:Program) (T:TypeId) (f off:Nat):Bool :=
 match P.underlying T with
 | some (.struct fs)=>match fs[f]? with
  | some fd=>Nat.beq fd.offset off && (match P.info? fd.type with | some i=>!Nat.beq i.size 0 | none=>false)
  | none=>false
 | _=>false
def zm3 (P:Program) (T:TypeId) (f off t:Nat):Bool :=
 match P.underlying T with
 | some (.struct fs)=>match fs[f]? with
  | some fd=>Nat.beq fd.offset off && Nat.beq fd.type t
  | none=>false
 | _=>false
def zcI (P:Program) (T E size:Nat):Bool :=
 match P.underlying T,P.info? E with
 | some (.slice e),some i=>Nat.beq e E && Nat.beq i.size size
 | _,_=>false
def znk (P:Program) (T len E size:Nat):Bool :=
 match P.underlying T,P.info? E with
 | some (.array m e),some i=>Nat.beq m len && Nat.beq e E && Nat.beq i.size size
 | _,_=>false
def intB (P:Program) (T:TypeId) (k:IntKind):Bool :=
 match P.underlying T with
 | some (.int j)=>decide (j=k)
 | _=>false
def zum (P:Program) (T:TypeId):Bool :=
 match P.underlying T with
 | some .bool=>true
 | _=>false
def ptrB (P:Program) (T:TypeId):Bool :=
 match P.underlying T with
 | some (.pointer e)=>match P.info? e with | some i=>!Nat.beq i.size 0 | none=>false
 | _=>false
def one:Value->Bool
 | .agg _ | .tuple _=>false
 | _=>true
section
variable {P:Program}
theorem zdi {T:TypeId} (h:zcK P T=true):∃ d i,P.underlying T=some d/\zmZ d=false/\P.info? T=some i/\i.size=1:=by
 unfold zcK at h
 split at h
 ·rename_i d i hd hi
  simp only [Bool.and_eq_true,Bool.not_eq_true'] at h
  exact ⟨d,i,hd,h.1,hi,Nat.eq_of_beq_eq_true h.2⟩
 ·cases h
theorem zf4 {T:TypeId} {n:Nat} (h:aggB P T n=true):∃ d i,P.underlying T=some d/\zmZ d=true/\P.info? T=some i/\i.size=n:=by
 unfold aggB at h
 split at h
 ·rename_i d i hd hi
  simp only [Bool.and_eq_true] at h
  exact ⟨d,i,hd,h.1,hi,Nat.eq_of_beq_eq_true h.2⟩
 ·cases h
theorem zsV {T:TypeId} {f off:Nat} (h:fldB P T f off=true):∃ fs fd i,P.underlying T=some (.struct fs)/\fs[f]?=some fd/\fd.offset=off/\P.info? fd.type=some i/\i.size≠0:=by
 unfold fldB at h
 split at h
 ·rename_i fs hd
  split at h
  ·rename_i fd hf
   simp only [Bool.and_eq_true] at h
   obtain ⟨h1,h2⟩:=h
   split at h2
   ·rename_i i hi
    refine ⟨fs,fd,i,hd,hf,Nat.eq_of_beq_eq_true h1,hi,fun e=>?_⟩
    rw [e] at h2; cases h2
   ·cases h2
  ·cases h
 ·cases h
theorem zkD {T:TypeId} {f off t:Nat} (h:zm3 P T f off t=true):∃ fs fd,P.underlying T=some (.struct fs)/\fs[f]?=some fd/\fd.offset=off/\fd.type=t:=by
 unfold zm3 at h
 split at h
 ·rename_i fs hd
  split at h
  ·rename_i fd hf
   simp only [Bool.and_eq_true] at h
   exact ⟨fs,fd,hd,hf,Nat.eq_of_beq_eq_true h.1,Nat.eq_of_beq_eq_true h.2⟩
  ·cases h
 ·cases h
theorem zbP {T E size:Nat} (h:zcI P T E size=true):∃ i,P.underlying T=some (.slice E)/\P.info? E=some i/\i.size=size:=by
 unfold zcI at h
 split at h
 ·rename_i e i hd hi
  simp only [Bool.and_eq_true] at h
  have:=Nat.eq_of_beq_eq_true h.1; subst this
  exact ⟨i,hd,hi,Nat.eq_of_beq_eq_true h.2⟩
 ·cases h
theorem zj3 {T len E size:Nat} (h:znk P T len E size=true):∃ i,P.underlying T=some (.array len E)/\P.info? E=some i/\i.size=size:=by
 unfold znk at h
 split at h
 ·rename_i m e i hd hi
  simp only [Bool.and_eq_true] at h
  have:=Nat.eq_of_beq_eq_true h.1.1; subst this
  have:=Nat.eq_of_beq_eq_true h.1.2; subst this
  exact ⟨i,hd,hi,Nat.eq_of_beq_eq_true h.2⟩
 ·cases h
theorem zjp {T:TypeId} {k:IntKind} (h:intB P T k=true):P.underlying T=some (.int k):=by
 unfold intB at h
 split at h
 ·rename_i j hd; have:=of_decide_eq_true h; subst this; exact hd
 ·cases h
theorem zqQ {T:TypeId} (h:zum P T=true):P.underlying T=some .bool:=by
 unfold zum at h
 split at h
 ·assumption
 ·cases h
theorem zrW {T:TypeId} (h:ptrB P T=true):∃ e i,P.underlying T=some (.pointer e)/\P.info? e=some i/\i.size≠0:=by
 unfold ptrB at h
 split at h
 ·rename_i e he
  split at h
  ·rename_i i hi; exact ⟨e,i,he,hi,fun e=>by rw [e] at h; cases h⟩
  ·cases h
 ·cases h
@[simp] theorem run_pure {α:Type} (a:α) (w:World):(Pure.pure a:Sem α).run P w=.ok a w:=rfl
theorem run_bind {α β : Type} (s : Sem α) (f : α -> Sem β) (w : World) :
    (s >>= f).run P w = match s.run P w with
      | .ok a w' => (f a).run P w'
      | .halt h w' => .halt h w' := by
  show (Sem.bind s f).run P w = _
  induction s generalizing w with
  | pure a => rfl
  | load m a k ih =>
    simp only [Sem.bind, Sem.run]
    cases w.cell? a with
    | some v => exact ih v w
    | none => dsimp only; cases w.farLoad P a (m == .atomic) with
      | ok r => obtain ⟨v, t⟩ := r; exact ih v w
      | error h => rfl
  | store m a v k ih =>
    have gen : ∀ (hv : ∀ cs, v ≠ .agg cs) (hv' : ∀ cs, v ≠ .tuple cs), (Sem.bind (.store m a v k) f).run P w = match (Sem.store m a v k).run P w with | .ok a w' => (f a).run P w' | .halt h w' => .halt h w' := by
      intro hv hv'
      simp only [Sem.bind]
      cases v <;> first
        | exact absurd Z (hv _)
        | exact absurd Z (hv' _)
        | (simp only [Sem.run]
           cases w.cell? a with
           | some u => dsimp only; split; · rfl
                       · exact ih _
           | none => dsimp only; cases w.farStore P a _ (m == .atomic) with
             | ok r => obtain ⟨w', t⟩ := r; exact ih w'
             | error h => rfl)
    cases v
    case agg => rfl
    case tuple => rfl
    all_goals exact gen (by intro _ h; cases h) (by intro _ h; cases h)
  | new o k ih => exact ih _ _
  | shape r k ih => exact ih _ _
  | freeze a n k ih => exact ih _
  | frozen a k ih => exact ih _ _
  | getObj r k ih =>
    simp only [Sem.bind, Sem.run]
    split
    · rfl
    · exact ih _ _
    · rfl
  | setObj r o k ih =>
    simp only [Sem.bind, Sem.run]
    split
    · rfl
    · exact ih _
    · rfl
  | choose q k ih =>
    simp only [Sem.bind, Sem.run]
    split
    · exact ih _ _
    · exact ih _ _
  | sys c k ih => exact ih _ _
  | program k ih => exact ih _ _
  | mark m k ih => exact ih _
  | halt h => rfl
theorem zaj {T:TypeId} {d:TypeDesc} (h:P.underlying T=some d) (w:World):(underlying T).run P w=.ok d w:=by
 simp [underlying,run_bind,program,Sem.run,h]
theorem zes {T:TypeId} {i:TypeInfo} (h:P.info? T=some i) (w:World):(typeInfo T).run P w=.ok i w:=by
 simp [typeInfo,run_bind,program,Sem.run,h]
theorem za8 {T:TypeId} {i:TypeInfo} (h:P.info? T=some i) (w:World):(sizeOf T).run P w=.ok i.size w:=by
 simp [sizeOf,run_bind,zes h]
theorem zc5 {T:TypeId} {d:TypeDesc} (h:P.underlying T=some d) (w:World):(isAgg T).run P w=.ok (zmZ d) w:=by
 simp only [isAgg,run_bind,zaj h]
 cases d<;>rfl
theorem zu7 {a:Addr} {v:Value} {w:World} (h:w.cell? a=some v):(load a).run P w=.ok v w:=by
 simp [load,Sem.run,h]
theorem zjb {a:Addr} {v u:Value} {w:World} (h:w.cell? a=some u) (hf:w.frozen? a=false) (hv:one v=true):(store a v).run P w=.ok () (w.setCell a v):=by
 cases v
 case agg=>cases hv
 case tuple=>cases hv
 all_goals simp [store,Sem.run,h,hf]
theorem zg6 {v:Value} (hv:one v=true):v.cells=#[v]:=by
 cases v
 case agg=>cases hv
 all_goals rfl
def nth {α:Type _}:List α->Nat->Option α
 | [],_=>none
 | v :: _,0=>some v
 | _ :: r,n+1=>nth r n
theorem zg8 {α:Type _}:∀ (l:List α) (n:Nat),nth l n=l[n]?
 | [],_=>by simp [nth]
 | v :: r,0=>by simp [nth]
 | v :: r,n+1=>by simp [nth,zg8 r n]
theorem nthA {cs:Array Value} {off:Nat} {v:Value} (h:nth cs.toList off=some v):cs[off]?=some v:=by rw [zg8] at h; simpa using h
def lkCs (cs:Array Value):Nat->Nat->Option (List Value)
 | _,0=>some []
 | off,n+1=>match nth cs.toList off,lkCs cs (off+1) n with
  | some v,some r=>some (v :: r)
  | _,_=>none
end
section
variable {P:Program} {w0:World} {R:Assn} {n:Nat} {Q:Exit->Act->World->Prop} {env:List (Nat×Value)} {L:List (Nat×Assn)}
variable {ks:List Nat} {L0:List (Nat×Assn)} {ops:Array Oper} {rest:List (Bool×Oper)}
variable {fl:Bool} {d:Option Tmp} {x y z:Operand} {ty T z':TypeId} {ps:String} {af:Array Edge} {g:Option (Nat×Bool)} {v u:Value}
theorem TL.mv (v:Value) (hx:evO env x=some v) (hg:zag ops env g=some true) (hd:okD n d=true) (h:TL P w0 R n ks L0 ops Q rest (setE env d v) L) :
  TL P w0 R n ks L0 ops Q ((fl,⟨d,.move x,ty,ps,af,g⟩) :: rest) env L :=
 TL.pure hg hd (fun a w ha=>by simp [execOp,ha.eval hx]) h
theorem TL.asg (v:Value) (hx:evO env x=some v) (hg:zag ops env g=some true) (hd:okD n d=true) (h:TL P w0 R n ks L0 ops Q rest (setE env d v) L) :
  TL P w0 R n ks L0 ops Q ((fl,⟨d,.assign x,ty,ps,af,g⟩) :: rest) env L :=
 TL.pure hg hd (fun a w ha=>by simp [execOp,ha.eval hx]) h
theorem TL.pickT (v:Value) (hx:evO env x=some (.bool true)) (hy:evO env y=some v) (hg:zag ops env g=some true) (hd:okD n d=true) (h:TL P w0 R n ks L0 ops Q rest (setE env d v) L) :
  TL P w0 R n ks L0 ops Q ((fl,⟨d,.pick x y z,ty,ps,af,g⟩) :: rest) env L :=
 TL.pure hg hd (fun a w ha=>by simp [execOp,ha.eval hx,ha.eval hy,run_bind,asBool]) h
theorem TL.pickF (v:Value) (hx:evO env x=some (.bool false)) (hz:evO env z=some v) (hg:zag ops env g=some true) (hd:okD n d=true) (h:TL P w0 R n ks L0 ops Q rest (setE env d v) L) :
  TL P w0 R n ks L0 ops Q ((fl,⟨d,.pick x y z,ty,ps,af,g⟩) :: rest) env L :=
 TL.pure hg hd (fun a w ha=>by simp [execOp,ha.eval hx,ha.eval hz,run_bind,asBool]) h
theorem zrC {w:World} (T:TypeId) (v:Value):(Instr.box T v).run P w=.ok (.pointer (some ⟨w.heap.size,0,none⟩)) { w with heap:=w.heap.push (.cells v.cells T) }:=by
 simp [Instr.box,newVar,newRow,newObj,run_bind,Sem.run]
theorem TL.boxA (k:Nat) {cs:Array Value} (hx:evO env x=some (.agg cs)) (hg:zag ops env g=some true) (hd:okD n d=true) (hk:∀ b,Keep L0 ((k,pt b (.cells cs T)) :: L) ks)
  (h:∀ b,TL P w0 R n ks L0 ops Q rest (setE env d (.pointer (some ⟨b,0,none⟩))) ((k,pt b (.cells cs T)) :: L)) :
  TL P w0 R n ks L0 ops Q ((false,⟨d,.box T x,ty,ps,af,g⟩) :: rest) env L :=
 TL.act hg hd fun a w ha hs=>⟨_,_,_,.inl (by simp [execOp,ha.eval hx,run_bind,zrC,Value.cells]),hs.alloc k _,hk _,h _⟩
theorem TL.box1 (k:Nat) (v:Value) (hx:evO env x=some v) (h1:one v=true) (hg:zag ops env g=some true) (hd:okD n d=true) (hk:∀ b,Keep L0 ((k,pt b (.cells #[v] T)) :: L) ks)
  (h:∀ b,TL P w0 R n ks L0 ops Q rest (setE env d (.pointer (some ⟨b,0,none⟩))) ((k,pt b (.cells #[v] T)) :: L)) :
  TL P w0 R n ks L0 ops Q ((false,⟨d,.box T x,ty,ps,af,g⟩) :: rest) env L :=
 TL.act hg hd fun a w ha hs=>⟨_,_,_,.inl (by simp [execOp,ha.eval hx,run_bind,zrC,zg6 h1]),hs.alloc k _,hk _,h _⟩
def zbI (P:Program) (T:TypeId):Option Value:=(P.info? T).bind (·.zero)
theorem zb6 {w:World} (h:zbI P T=some v):(zeroValue T).run P w=.ok v w:=by
 unfold zbI at h
 cases hi:P.info? T with
 | none=>rw [hi] at h; cases h
 | some i=>rw [hi] at h; simp at h; simp [zeroValue,run_bind,zes hi,h]
theorem TL.alloc (k:Nat) {cs:Array Value} (hz:zbI P T=some v) (hc:v.cells=cs) (hg:zag ops env g=some true) (hd:okD n d=true) (hk:∀ b,Keep L0 ((k,pt b (.cells cs T)) :: L) ks)
  (h:∀ b,TL P w0 R n ks L0 ops Q rest (setE env d (.pointer (some ⟨b,0,none⟩))) ((k,pt b (.cells cs T)) :: L)) :
  TL P w0 R n ks L0 ops Q ((false,⟨d,.alloc T,ty,ps,af,g⟩) :: rest) env L :=
 TL.act hg hd fun a w ha hs=>⟨_,_,_,.inl (by simp [execOp,run_bind,Instr.alloc,zb6 hz,newVar,newRow,newObj,Sem.run,hc]),hs.alloc k _,hk _,h _⟩
theorem zfj {w:World} {b off:Nat} {cs:Array Value} {T':TypeId} {fz:Nat×Nat} (hb:w.heap[b]?=some (.cells cs T' fz)) :
  ∀ (m i:Nat) (acc vs:List Value),lkCs cs (off+i) m=some vs->(loadCellsFrom ⟨b,off,none⟩ i m acc.toArray).run P w=.ok (acc++vs).toArray w:=by
 intro m
 induction m with
 | zero=>intro i acc vs h; simp [lkCs] at h; subst h; simp [loadCellsFrom]
 | succ m ih =>
  intro i acc vs h
  simp only [lkCs] at h
  cases hc':nth cs.toList (off+i) with
  | none=>rw [hc'] at h; cases h
  | some v =>
   rw [hc'] at h
   have hc:=nthA hc'
   cases hr:lkCs cs (off+i+1) m with
   | none=>rw [hr] at h; cases h
   | some r =>
    rw [hr] at h
    cases h
    have hadd:(⟨b,off,none⟩:Addr).add i=⟨b,off+i,none⟩:=by
     unfold Addr.add; split
     ·rename_i e; subst e; rfl
     ·rfl
    have hcell:w.cell? ⟨b,off+i,none⟩=some v:=by simp [World.cell?,hb,hc]
    simp only [loadCellsFrom,run_bind,hadd,zu7 hcell]
    have:=ih (i+1) (acc++[v]) r (by rw [<-Nat.add_assoc]; exact hr)
    simpa using this
theorem TL.ld (k:Nat) {b off:Nat} {cs:Array Value} {T':TypeId} {fz:Nat×Nat} (v:Value) (hx:evO env x=some (.pointer (some ⟨b,off,none⟩)))
  (hL:lk (bif fl then sel L0 ks else L) k=some (pt b (.cells cs T' fz))) (hv':nth cs.toList off=some v) (hT:zcK P T=true) (hg:zag ops env g=some true) (hd:okD n d=true)
  (h:TL P w0 R n ks L0 ops Q rest (setE env d v) L):TL P w0 R n ks L0 ops Q ((fl,⟨d,.load T x,ty,ps,af,g⟩) :: rest) env L:=by
 have hv:=nthA hv'
 refine TL.val (v:=v) Z hg hd (fun a w ha h1 h2=>?_) h
 have hb:w.heap[b]?=some (.cells cs T' fz):=by
  cases fl with
  | true=>exact (h2 Z).read hL
  | false=>exact (h1 Z).read hL
 have hcell:w.cell? ⟨b,off,none⟩=some v:=by simp [World.cell?,hb,hv]
 obtain ⟨dd,i,h3,h4,h5,h6⟩:=zdi hT
 simp [execOp,run_bind,Instr.loadAt,Instr.sureAddr,ha.eval hx,loadVar,zc5 h3,h4,load,Sem.run,hcell]
theorem TL.ldA (k m:Nat) {b off:Nat} {cs:Array Value} {T':TypeId} {fz:Nat×Nat} (vs:List Value) (hx:evO env x=some (.pointer (some ⟨b,off,none⟩)))
  (hL:lk (bif fl then sel L0 ks else L) k=some (pt b (.cells cs T' fz))) (hv:lkCs cs off m=some vs) (hT:aggB P T m=true) (hg:zag ops env g=some true) (hd:okD n d=true)
  (h:TL P w0 R n ks L0 ops Q rest (setE env d (.agg vs.toArray)) L):TL P w0 R n ks L0 ops Q ((fl,⟨d,.load T x,ty,ps,af,g⟩) :: rest) env L:=by
 refine TL.val (v:=.agg vs.toArray) Z hg hd (fun a w ha h1 h2=>?_) h
 have hb:w.heap[b]?=some (.cells cs T' fz):=by
  cases fl with
  | true=>exact (h2 Z).read hL
  | false=>exact (h1 Z).read hL
 obtain ⟨dd,i,h3,h4,h5,h6⟩:=zf4 hT
 have hl:=zfj (P:=P) (off:=off) hb m 0 [] vs (by simpa using hv)
 simp only [List.nil_append] at hl
 simp [execOp,run_bind,Instr.loadAt,Instr.sureAddr,ha.eval hx,loadVar,zc5 h3,h4,za8 h5,h6,loadCells,hl]
theorem zjz {w:World} {b off:Nat} {cs:Array Value} {T':TypeId} (hb:w.heap[b]?=some (.cells cs T')):w.frozen? ⟨b,off,none⟩=false:=by
 simp [World.frozen?,hb]
theorem TL.st (k:Nat) {b off:Nat} {cs:Array Value} {T':TypeId} (cs':Array Value) (v:Value) (hx:evO env x=some (.pointer (some ⟨b,off,none⟩))) (hy:evO env y=some v) (h1:one v=true)
  (hL:lk L k=some (pt b (.cells cs T'))) (hb:Nat.blt off cs.size=true) (hc:cs.setIfInBounds off v=cs') (hT:zcK P T=true) (hg:zag ops env g=some true) (hd:okD n d=true)
  (hk:Keep L0 ((k,pt b (.cells cs' T')) :: L) ks)
  (h:TL P w0 R n ks L0 ops Q rest (setE env d undef) ((k,pt b (.cells cs' T')) :: L)):TL P w0 R n ks L0 ops Q ((false,⟨d,.store T x y,ty,ps,af,g⟩) :: rest) env L:=by
 subst hc
 refine TL.act hg hd fun a w ha hs=>?_
 have hread:=hs.read hL
 have hlt:off<cs.size:=by simpa [Nat.blt_eq] using hb
 have hcell:w.cell? ⟨b,off,none⟩=some cs[off]:=by simp [World.cell?,hread,hlt]
 obtain ⟨dd,i,h3,h4,h5,h6⟩:=zdi hT
 have hadd:(⟨b,off,none⟩:Addr).add 0=⟨b,off,none⟩:=rfl
 refine ⟨undef,_,_,.inr ⟨Z,?_⟩,hs.setCell hL off v,hk,h⟩
 simp [execOp,run_bind,Instr.storeAt,Instr.sureAddr,ha.eval hx,ha.eval hy,storeVar,za8 h5,h6,zg6 h1,storeCells,hadd,zjb hcell (zjz hread) h1]
def ziq (cs:Array Value) (off:Nat):List Value->Array Value
 | []=>cs
 | v :: r=>ziq (cs.setIfInBounds off v) (off+1) r
theorem zko {cs:Array Value} {off:Nat} {vs:List Value}:(ziq cs off vs).size=cs.size:=by
 induction vs generalizing cs off with
 | nil=>rfl
 | cons v r ih=>rw [ziq,ih]; simp
theorem zgw {w0:World} {R:Assn} {b off k:Nat} {T':TypeId}:∀ (vs:List Value) (i:Nat) (w:World) (cs:Array Value) (L:List (Nat×Assn)),Sat w0 L R w->lk L k=some (pt b (.cells cs T'))->(∀ v∈vs,one v=true) ->
  off+i+vs.length<=cs.size->∃ w',(storeCells ⟨b,off,none⟩ vs i).run P w=.ok () w'/\Sat w0 ((k,pt b (.cells (ziq cs (off+i) vs) T')) :: L) R w':=by
 intro vs
 induction vs with
 | nil=>intro i w cs L hs hL _ _; exact ⟨w,rfl,hs.conseq hL (fun _ h=>h)⟩
 | cons v r ih =>
  intro i w cs L hs hL h1 hlen
  have hread:=hs.read hL
  have hlt:off+i<cs.size:=by simp at hlen; omega
  have hcell:w.cell? ⟨b,off+i,none⟩=some cs[off+i]:=by simp [World.cell?,hread,hlt]
  have hadd:(⟨b,off,none⟩:Addr).add i=⟨b,off+i,none⟩:=by
   unfold Addr.add; split
   ·rename_i e; subst e; rfl
   ·rfl
  have hs1:=hs.setCell hL (off+i) v
  obtain ⟨w',hr,hs2⟩:=ih (i+1) _ _ _ hs1 zas (fun u hu=>h1 u (List.mem_cons_of_mem _ hu)) (by simp at hlen ⊢; omega)
  refine ⟨w',?_,hs2.weaken ?_⟩
  ·simp only [storeCells,run_bind,hadd,zjb hcell (zjz hread) (h1 v (List.mem_cons_self ..))]
   exact hr
  ·intro j A hA
   rw [zaG] at hA ⊢
   by_cases e:k=j
   ·subst e; simp at hA ⊢; rw [<-hA,ziq,Nat.add_assoc]
   ·rw [Zn e] at hA ⊢; rw [zan e]; exact hA
def ones:List Value->Bool
 | []=>true
 | v :: r=>one v && ones r
theorem zjl:∀ {vs:List Value},ones vs=true->∀ v∈vs,one v=true
 | [],_,v,hv=>by cases hv
 | u :: r,h,v,hv=>by
  simp only [ones,Bool.and_eq_true] at h
  rcases List.mem_cons.1 hv with rfl | hv
  ·exact h.1
  ·exact zjl h.2 v hv
theorem TL.stA (k m:Nat) {b off:Nat} {cs:Array Value} {T':TypeId} (cs':Array Value) (vs:List Value) (hx:evO env x=some (.pointer (some ⟨b,off,none⟩))) (hy:evO env y=some (.agg vs.toArray)) (h1:ones vs=true) (hm:vs.length=m)
  (hL:lk L k=some (pt b (.cells cs T'))) (hb:Nat.ble (off+m) cs.size=true) (hc:ziq cs off vs=cs') (hT:aggB P T m=true) (hg:zag ops env g=some true) (hd:okD n d=true)
  (hk:Keep L0 ((k,pt b (.cells cs' T')) :: L) ks)
  (h:TL P w0 R n ks L0 ops Q rest (setE env d undef) ((k,pt b (.cells cs' T')) :: L)):TL P w0 R n ks L0 ops Q ((false,⟨d,.store T x y,ty,ps,af,g⟩) :: rest) env L:=by
 subst hc
 refine TL.act hg hd fun a w ha hs=>?_
 obtain ⟨dd,i,h3,h4,h5,h6⟩:=zf4 hT
 have hle:off+m<=cs.size:=by simpa [Nat.ble_eq] using hb
 obtain ⟨w',hr,hs'⟩:=zgw (P:=P) (off:=off) vs 0 w cs L hs hL (zjl h1) (by simp; omega)
 refine ⟨undef,w',_,.inr ⟨Z,?_⟩,hs',hk,h⟩
 simp [execOp,run_bind,Instr.storeAt,Instr.sureAddr,ha.eval hx,ha.eval hy,storeVar,za8 h5,h6,Value.cells,hm,hr]
theorem zgn (b o f:Nat):(⟨b,o,none⟩:Addr).add f=⟨b,o+f,none⟩:=by
 unfold Addr.add; split
 ·rename_i e; subst e; rfl
 ·rfl
theorem TL.fa (off:Nat) {f b o:Nat} {S:TypeId} (hx:evO env x=some (.pointer (some ⟨b,o,none⟩))) (hF:fldB P S f off=true) (hg:zag ops env g=some true) (hd:okD n d=true)
  (h:TL P w0 R n ks L0 ops Q rest (setE env d (.pointer (some ⟨b,o+off,none⟩))) L):TL P w0 R n ks L0 ops Q ((fl,⟨d,.fieldAddr S x f,ty,ps,af,g⟩) :: rest) env L:=by
 obtain ⟨fs,fd,i,h1,h2,h3,h4,h5⟩:=zsV hF
 refine TL.pure hg hd (fun a w ha=>?_) h
 simp [execOp,run_bind,Instr.fieldAt,zaj h1,h2,ha.eval hx,Instr.sureAddr,fieldPlace,za8 h4,h5,zgn,h3]
theorem TL.fv (off:Nat) (t:TypeId) {f:Nat} {S:TypeId} {cs:Array Value} (v:Value) (hx:evO env x=some (.agg cs)) (hF:zm3 P S f off t=true) (hT:zcK P t=true) (hv':nth cs.toList off=some v) (hg:zag ops env g=some true) (hd:okD n d=true)
  (h:TL P w0 R n ks L0 ops Q rest (setE env d v) L):TL P w0 R n ks L0 ops Q ((fl,⟨d,.field S x f,ty,ps,af,g⟩) :: rest) env L:=by
 have hv:=nthA hv'
 obtain ⟨fs,fd,h1,h2,h3,h4⟩:=zkD hF
 obtain ⟨dd,i,h5,h6,h7,h8⟩:=zdi hT
 refine TL.pure hg hd (fun a w ha=>?_) h
 subst h4
 simp [execOp,run_bind,Instr.field,zaj h1,h2,ha.eval hx,asAgg,part,zc5 h5,h6,h3,hv]
theorem TL.ia {b o len cap E size:Nat} {k:IntKind} {i:Int} (o':Nat) (hx:evO env x=some (.slice (some ⟨b,o,none⟩) len cap)) (hy:evO env y=some (.int k i)) (hS:zcI P T E size=true) (h0:0<=i) (h1:i<len)
  (ho:o+i.toNat * size=o') (hg:zag ops env g=some true) (hd:okD n d=true)
  (h:TL P w0 R n ks L0 ops Q rest (setE env d (.pointer (some ⟨b,o',none⟩))) L):TL P w0 R n ks L0 ops Q ((fl,⟨d,.indexAddr T x y,ty,ps,af,g⟩) :: rest) env L:=by
 obtain ⟨ii,h2,h3,h4⟩:=zbP hS
 subst ho
 refine TL.pure hg hd (fun a w ha=>?_) h
 simp [execOp,run_bind,Instr.indexAt,zaj h2,ha.eval hx,ha.eval hy,asIntOf,za8 h3,h4,h0,h1,zgn]
theorem TL.ixA {len E:Nat} {k:IntKind} {i:Int} {cs:Array Value} (v:Value) (hx:evO env x=some (.agg cs)) (hy:evO env y=some (.int k i)) (hS:znk P T len E 1=true) (hE:zcK P E=true) (h0:0<=i) (h1:i<len)
  (hv':nth cs.toList i.toNat=some v) (hg:zag ops env g=some true) (hd:okD n d=true)
  (h:TL P w0 R n ks L0 ops Q rest (setE env d v) L):TL P w0 R n ks L0 ops Q ((fl,⟨d,.index T x y,ty,ps,af,g⟩) :: rest) env L:=by
 have hv:=nthA hv'
 obtain ⟨ii,h2,h3,h4⟩:=zj3 hS
 obtain ⟨dd,i',h5,h6,h7,h8⟩:=zdi hE
 refine TL.pure hg hd (fun a w ha=>?_) h
 simp [execOp,run_bind,Instr.index,zaj h2,ha.eval hx,ha.eval hy,asIntOf,za8 h3,h4,h0,h1,part,zc5 h5,h6,hv]
theorem TL.nc {a':Addr} (hx:evO env x=some (.pointer (some a'))) (hg:zag ops env g=some true) (hd:okD n d=true)
  (h:TL P w0 R n ks L0 ops Q rest (setE env d (.pointer (some a'))) L):TL P w0 R n ks L0 ops Q ((fl,⟨d,.nilCheck x,ty,ps,af,g⟩) :: rest) env L :=
 TL.pure hg hd (fun a w ha=>by simp [execOp,ha.eval hx]) h
theorem TL.ncI {t:TypeId} (hx:evO env x=some (.iface t v)) (hg:zag ops env g=some true) (hd:okD n d=true)
  (h:TL P w0 R n ks L0 ops Q rest (setE env d (.iface t v)) L):TL P w0 R n ks L0 ops Q ((fl,⟨d,.nilCheck x,ty,ps,af,g⟩) :: rest) env L :=
 TL.pure hg hd (fun a w ha=>by simp [execOp,ha.eval hx]) h
theorem TL.ext {i:Nat} {vs:Array Value} (v:Value) (hx:evO env x=some (.tuple vs)) (hv':nth vs.toList i=some v) (hg:zag ops env g=some true) (hd:okD n d=true)
  (h:TL P w0 R n ks L0 ops Q rest (setE env d v) L):TL P w0 R n ks L0 ops Q ((fl,⟨d,.extract x i,ty,ps,af,g⟩) :: rest) env L :=
 TL.pure hg hd (fun a w ha=>by have hv:=nthA hv'; simp [execOp,run_bind,ha.eval hx,Instr.extract,hv]) h
theorem TL.mi {D:TypeDesc} (hx:evO env x=some v) (hT:P.underlying T=some D) (hD:∀ ms,D≠.interface ms) (hg:zag ops env g=some true) (hd:okD n d=true)
  (h:TL P w0 R n ks L0 ops Q rest (setE env d (.iface T v)) L):TL P w0 R n ks L0 ops Q ((fl,⟨d,.makeInterface T x,ty,ps,af,g⟩) :: rest) env L :=
 TL.pure hg hd (fun a w ha=>by
  simp only [execOp,run_bind,ha.eval hx,Instr.makeInterface,zaj hT]
  cases D<;>first | rfl | exact absurd rfl (hD _)) h
theorem TL.mf {fn:Go.Fn} {xs ys:List Operand} (vs us:List Value) (hx:evs env xs vs) (hy:evs env ys us) (hg:zag ops env g=some true) (hd:okD n d=true)
  (h:TL P w0 R n ks L0 ops Q rest (setE env d (.func fn vs.toArray us.toArray)) L):TL P w0 R n ks L0 ops Q ((fl,⟨d,.makeFunc fn xs.toArray ys.toArray,ty,ps,af,g⟩) :: rest) env L :=
 TL.pure hg hd (fun a w ha=>by simp [execOp,run_bind,ha.evals hx,ha.evals hy,Instr.makeFunc]) h
section
variable {k:IntKind} {a b:Int}
theorem zce {op:BinOp} {w:World} {j:IntKind}:(eqGuard op T x y (.int k a) (.int j b)).run P w=.ok () w:=by
 unfold eqGuard
 split<;>rfl
theorem wr64 {t:Int} (h:-9223372036854775808<=t/\t<9223372036854775808):IntKind.i64.wrap t=t:=by
 unfold IntKind.wrap IntKind.bits IntKind.signed; simp only [Bool.true_and,decide_eq_true_eq]; split<;>omega
theorem zuJ {t:Int} (h:0<=t/\t<18446744073709551616):IntKind.u64.wrap t=t:=by
 unfold IntKind.wrap IntKind.bits IntKind.signed; simp only [Bool.false_and,Bool.false_eq_true,if_false]; omega
theorem wru8 {t:Int} (h:0<=t/\t<256):IntKind.u8.wrap t=t:=by
 unfold IntKind.wrap IntKind.bits IntKind.signed; simp only [Bool.false_and,Bool.false_eq_true,if_false]; omega
theorem TL.add (c:Int) (hx:evO env x=some (.int k a)) (hy:evO env y=some (.int k b)) (hc:k.wrap (a+b)=c) (hg:zag ops env g=some true) (hd:okD n d=true)
  (h:TL P w0 R n ks L0 ops Q rest (setE env d (.int k c)) L):TL P w0 R n ks L0 ops Q ((fl,⟨d,.binOp .add T x y z',ty,ps,af,g⟩) :: rest) env L :=
 TL.pure hg hd (fun a' w ha=>by simp [execOp,ha.eval hx,ha.eval hy,zce,binOp,Op.intArith,hc]) h
theorem TL.sub (c:Int) (hx:evO env x=some (.int k a)) (hy:evO env y=some (.int k b)) (hc:k.wrap (a - b)=c) (hg:zag ops env g=some true) (hd:okD n d=true)
  (h:TL P w0 R n ks L0 ops Q rest (setE env d (.int k c)) L):TL P w0 R n ks L0 ops Q ((fl,⟨d,.binOp .sub T x y z',ty,ps,af,g⟩) :: rest) env L :=
 TL.pure hg hd (fun a' w ha=>by simp [execOp,ha.eval hx,ha.eval hy,zce,binOp,Op.intArith,hc]) h
theorem TL.mul (c:Int) (hx:evO env x=some (.int k a)) (hy:evO env y=some (.int k b)) (hc:k.wrap (a * b)=c) (hg:zag ops env g=some true) (hd:okD n d=true)
  (h:TL P w0 R n ks L0 ops Q rest (setE env d (.int k c)) L):TL P w0 R n ks L0 ops Q ((fl,⟨d,.binOp .mul T x y z',ty,ps,af,g⟩) :: rest) env L :=
 TL.pure hg hd (fun a' w ha=>by simp [execOp,ha.eval hx,ha.eval hy,zce,binOp,Op.intArith,hc]) h
theorem TL.quo (c:Int) (hx:evO env x=some (.int k a)) (hy:evO env y=some (.int k b)) (hb:b≠0) (hc:k.wrap (a.tdiv b)=c) (hg:zag ops env g=some true) (hd:okD n d=true)
  (h:TL P w0 R n ks L0 ops Q rest (setE env d (.int k c)) L):TL P w0 R n ks L0 ops Q ((fl,⟨d,.binOp .quo T x y z',ty,ps,af,g⟩) :: rest) env L :=
 TL.pure hg hd (fun a' w ha=>by simp [execOp,ha.eval hx,ha.eval hy,zce,binOp,Op.intDiv,hb,hc]) h
theorem TL.rem (c:Int) (hx:evO env x=some (.int k a)) (hy:evO env y=some (.int k b)) (hb:b≠0) (hc:a.tmod b=c) (hg:zag ops env g=some true) (hd:okD n d=true)
  (h:TL P w0 R n ks L0 ops Q rest (setE env d (.int k c)) L):TL P w0 R n ks L0 ops Q ((fl,⟨d,.binOp .rem T x y z',ty,ps,af,g⟩) :: rest) env L :=
 TL.pure hg hd (fun a' w ha=>by simp [execOp,ha.eval hx,ha.eval hy,zce,binOp,Op.intDiv,hb,hc]) h
def zgv (op:BinOp) (k:IntKind) (a b:Int):Int :=
 match op with
 | .and=>k.wrap (BitVec.ofInt k.bits a &&& BitVec.ofInt k.bits b).toNat
 | .or=>k.wrap (BitVec.ofInt k.bits a ||| BitVec.ofInt k.bits b).toNat
 | .xor=>k.wrap (BitVec.ofInt k.bits a ^^^ BitVec.ofInt k.bits b).toNat
 | _=>k.wrap (BitVec.ofInt k.bits a &&& ~~~BitVec.ofInt k.bits b).toNat
theorem TL.and (c:Int) (hx:evO env x=some (.int k a)) (hy:evO env y=some (.int k b)) (hc:zgv .and k a b=c) (hg:zag ops env g=some true) (hd:okD n d=true)
  (h:TL P w0 R n ks L0 ops Q rest (setE env d (.int k c)) L):TL P w0 R n ks L0 ops Q ((fl,⟨d,.binOp .and T x y z',ty,ps,af,g⟩) :: rest) env L:=by
 subst hc; exact TL.pure hg hd (fun a' w ha=>by simp [execOp,ha.eval hx,ha.eval hy,zce,binOp,Op.intBits,zgv]) h
theorem TL.or (c:Int) (hx:evO env x=some (.int k a)) (hy:evO env y=some (.int k b)) (hc:zgv .or k a b=c) (hg:zag ops env g=some true) (hd:okD n d=true)
  (h:TL P w0 R n ks L0 ops Q rest (setE env d (.int k c)) L):TL P w0 R n ks L0 ops Q ((fl,⟨d,.binOp .or T x y z',ty,ps,af,g⟩) :: rest) env L:=by
 subst hc; exact TL.pure hg hd (fun a' w ha=>by simp [execOp,ha.eval hx,ha.eval hy,zce,binOp,Op.intBits,zgv]) h
theorem TL.xor (c:Int) (hx:evO env x=some (.int k a)) (hy:evO env y=some (.int k b)) (hc:zgv .xor k a b=c) (hg:zag ops env g=some true) (hd:okD n d=true)
  (h:TL P w0 R n ks L0 ops Q rest (setE env d (.int k c)) L):TL P w0 R n ks L0 ops Q ((fl,⟨d,.binOp .xor T x y z',ty,ps,af,g⟩) :: rest) env L:=by
 subst hc; exact TL.pure hg hd (fun a' w ha=>by simp [execOp,ha.eval hx,ha.eval hy,zce,binOp,Op.intBits,zgv]) h
theorem TL.andNot (c:Int) (hx:evO env x=some (.int k a)) (hy:evO env y=some (.int k b)) (hc:zgv .andNot k a b=c) (hg:zag ops env g=some true) (hd:okD n d=true)
  (h:TL P w0 R n ks L0 ops Q rest (setE env d (.int k c)) L):TL P w0 R n ks L0 ops Q ((fl,⟨d,.binOp .andNot T x y z',ty,ps,af,g⟩) :: rest) env L:=by
 subst hc; exact TL.pure hg hd (fun a' w ha=>by simp [execOp,ha.eval hx,ha.eval hy,zce,binOp,Op.intBits,zgv]) h
theorem TL.shl (c:Int) {j:IntKind} (hx:evO env x=some (.int k a)) (hy:evO env y=some (.int j b)) (hb:0<=b) (hc:k.wrap (a * 2 ^ (min b.toNat k.bits))=c) (hg:zag ops env g=some true) (hd:okD n d=true)
  (h:TL P w0 R n ks L0 ops Q rest (setE env d (.int k c)) L):TL P w0 R n ks L0 ops Q ((fl,⟨d,.binOp .shl T x y z',ty,ps,af,g⟩) :: rest) env L :=
 TL.pure hg hd (fun a' w ha=>by
  have:¬b<0:=by omega
  simp [execOp,ha.eval hx,ha.eval hy,zce,binOp,Op.shift,this,hc]) h
theorem TL.shr (c:Int) {j:IntKind} (hx:evO env x=some (.int k a)) (hy:evO env y=some (.int j b)) (hb:0<=b) (hc:a.fdiv (2 ^ (min b.toNat k.bits))=c) (hg:zag ops env g=some true) (hd:okD n d=true)
  (h:TL P w0 R n ks L0 ops Q rest (setE env d (.int k c)) L):TL P w0 R n ks L0 ops Q ((fl,⟨d,.binOp .shr T x y z',ty,ps,af,g⟩) :: rest) env L :=
 TL.pure hg hd (fun a' w ha=>by
  have:¬b<0:=by omega
  simp [execOp,ha.eval hx,ha.eval hy,zce,binOp,Op.shift,this,hc]) h
def cmpP (op:BinOp) (a b:Int):Prop :=
 match op with
 | .eql=>a=b
 | .neq=>a≠b
 | .lss=>a<b
 | .leq=>a<=b
 | .gtr=>b<a
 | _=>b<=a
instance {op:BinOp} {a b:Int}:Decidable (cmpP op a b):=by unfold cmpP; split<;>infer_instance
def zsK:BinOp->Bool
 | .eql | .neq | .lss | .leq | .gtr | .geq=>true
 | _=>false
theorem zxF {op : BinOp} {w : World} (h : zsK op = true) : (binOp op T (.int k a) (.int k b)).run P w = .ok (.bool (decide (cmpP op a b))) w := by
  cases op <;> first
    | (cases h; done)
    | (simp only [binOp, ne_eq, not_true, if_false, Op.intCmp, run_pure]
       refine congrArg (fun c => Result.ok (Value.bool c) w) ?_
       rw [Bool.eq_iff_iff]
       constructor <;> intro h
       · exact decide_eq_true (by simpa [cmpP] using h)
       · have h2 := of_decide_eq_true h; simpa [cmpP] using h2)
theorem TL.cmpV {op:BinOp} (hx:evO env x=some (.int k a)) (hy:evO env y=some (.int k b)) (ho:zsK op=true) (hg:zag ops env g=some true) (hd:okD n d=true)
  (h:TL P w0 R n ks L0 ops Q rest (setE env d (.bool (decide (cmpP op a b)))) L):TL P w0 R n ks L0 ops Q ((fl,⟨d,.binOp op T x y z',ty,ps,af,g⟩) :: rest) env L :=
 TL.pure hg hd (fun a' w ha=>by simp [execOp,ha.eval hx,ha.eval hy,zce,zxF ho]) h
theorem TL.cmp {op:BinOp} (hx:evO env x=some (.int k a)) (hy:evO env y=some (.int k b)) (ho:zsK op=true) (hg:zag ops env g=some true) (hd:okD n d=true)
  (ht:cmpP op a b->TL P w0 R n ks L0 ops Q rest (setE env d (.bool true)) L) (hf:¬cmpP op a b->TL P w0 R n ks L0 ops Q rest (setE env d (.bool false)) L) :
  TL P w0 R n ks L0 ops Q ((fl,⟨d,.binOp op T x y z',ty,ps,af,g⟩) :: rest) env L :=
 TL.cmpV hx hy ho hg hd (by
  by_cases hp:cmpP op a b
  ·rw [decide_eq_true hp]; exact ht hp
  ·rw [decide_eq_false hp]; exact hf hp)
theorem TL.cmpT {op:BinOp} (hx:evO env x=some (.int k a)) (hy:evO env y=some (.int k b)) (ho:zsK op=true) (hp:cmpP op a b) (hg:zag ops env g=some true) (hd:okD n d=true)
  (ht:TL P w0 R n ks L0 ops Q rest (setE env d (.bool true)) L):TL P w0 R n ks L0 ops Q ((fl,⟨d,.binOp op T x y z',ty,ps,af,g⟩) :: rest) env L :=
 TL.cmpV hx hy ho hg hd (by rw [decide_eq_true hp]; exact ht)
theorem TL.cmpF {op:BinOp} (hx:evO env x=some (.int k a)) (hy:evO env y=some (.int k b)) (ho:zsK op=true) (hp:¬cmpP op a b) (hg:zag ops env g=some true) (hd:okD n d=true)
  (ht:TL P w0 R n ks L0 ops Q rest (setE env d (.bool false)) L):TL P w0 R n ks L0 ops Q ((fl,⟨d,.binOp op T x y z',ty,ps,af,g⟩) :: rest) env L :=
 TL.cmpV hx hy ho hg hd (by rw [decide_eq_false hp]; exact ht)
theorem TL.not (b c:Bool) (hx:evO env x=some (.bool b)) (hc:(!b)=c) (hg:zag ops env g=some true) (hd:okD n d=true)
  (h:TL P w0 R n ks L0 ops Q rest (setE env d (.bool c)) L):TL P w0 R n ks L0 ops Q ((fl,⟨d,.unOp .not T x,ty,ps,af,g⟩) :: rest) env L :=
 TL.pure hg hd (fun a' w ha=>by simp [execOp,ha.eval hx,Op.unary,hc]) h
theorem TL.conv (c:Int) {S:TypeId} {j:IntKind} (hx:evO env x=some (.int k a)) (hS:(P.underlying S).isSome=true) (hT:intB P T j=true) (hc:j.wrap a=c) (hg:zag ops env g=some true) (hd:okD n d=true)
  (h:TL P w0 R n ks L0 ops Q rest (setE env d (.int j c)) L):TL P w0 R n ks L0 ops Q ((fl,⟨d,.convert S T x,ty,ps,af,g⟩) :: rest) env L :=
 by
 obtain ⟨D,hD⟩:=Option.isSome_iff_exists.1 hS
 exact TL.pure hg hd (fun a' w ha=>by simp [execOp,ha.eval hx,convert,zaj hD,zaj (zjp hT),Conv.intToInt,hc]) h
theorem TL.cases {b:Bool} {t:Nat} {env':List (Nat×Value)} (he:env=(t,.bool b) :: env')
  (ht:b=true->TL P w0 R n ks L0 ops Q rest ((t,.bool true) :: env') L) (hf:b=false->TL P w0 R n ks L0 ops Q rest ((t,.bool false) :: env') L):TL P w0 R n ks L0 ops Q rest env L:=by
 subst he
 cases b
 ·exact hf Z
 ·exact ht Z
end
def zai (P:Program) (f:FuncId):Bool :=
 match P.funcs[f]? with
 | some fn=>fn.name != "runtime.NumGoroutine" && fn.body.isSome
 | none=>false
theorem zet {f:FuncId} {args:Array Value} {w:World} (h:zai P f=true):(callFunc f args).run P w=.ok (.enter f args) w:=by
 unfold zai at h
 split at h
 ·rename_i fn hf
  simp only [Bool.and_eq_true,bne_iff_ne,ne_eq] at h
  obtain ⟨c,hc⟩:=Option.isSome_iff_exists.1 h.2
  simp [callFunc,program,Sem.run,hf,h.1,hc]
 ·cases h
theorem TL.call {f:FuncId} {xs:List Operand} {at':Array TypeId} {vs:List Value} {As:List Assn} {Φ:Value->List Assn->Prop} (ids ids':List Nat) (hc:Fn P f vs As Φ) (hvs:evs env xs vs) (hAs:lks L ids As)
  (hf:zai P f=true) (hn:zcp ids'=true) (hp:zfe ids ids'=true) (hg:zag ops env g=some true) (hd:okD n d=true)
  (h:∀ v Bs,Φ v Bs->ids'.length=Bs.length/\Keep L0 (labs ids' Bs L) ks/\TL P w0 R n ks L0 ops Q rest (setE env d v) (labs ids' Bs L)) :
  TL P w0 R n ks L0 ops Q ((false,⟨d,.call ⟨.value (.func f),xs.toArray,at'⟩,ty,ps,af,g⟩) :: rest) env L :=
 TL.enter ids ids' hg hd (fun a w ha _=>by
  simp [execOp,resolve,Deferred.ofValue,Act.eval,invoke,ha.evals hvs,zet hf]) hc hn hp hAs h
theorem TL.callD {f:FuncId} {xs:List Operand} {at':Array TypeId} {vs:List Value} {As Bs:List Assn} {r:Value} (ids ids':List Nat) (hc:FnD P f vs As r Bs) (hvs:evs env xs vs) (hAs:lks L ids As)
  (hf:zai P f=true) (hn:zcp ids'=true) (hp:zfe ids ids'=true) (hl:ids'.length=Bs.length) (hg:zag ops env g=some true) (hd:okD n d=true)
  (hk:Keep L0 (labs ids' Bs L) ks) (h:TL P w0 R n ks L0 ops Q rest (setE env d r) (labs ids' Bs L)) :
  TL P w0 R n ks L0 ops Q ((false,⟨d,.call ⟨.value (.func f),xs.toArray,at'⟩,ty,ps,af,g⟩) :: rest) env L :=
 TL.call ids ids' hc hvs hAs hf hn hp hg hd (by rintro v Bs' ⟨rfl,rfl⟩; exact ⟨hl,hk,h⟩)
theorem TL.lenS {a:Option Addr} {m c:Nat} {E size:Nat} (hx:evO env x=some (.slice a m c)) (hS:zcI P T E size=true) (hg:zag ops env g=some true) (hd:okD n d=true)
  (h:TL P w0 R n ks L0 ops Q rest (setE env d (.int .i64 m)) L):TL P w0 R n ks L0 ops Q ((fl,⟨d,.call ⟨.builtin .len,#[x],#[T]⟩,ty,ps,af,g⟩) :: rest) env L:=by
 obtain ⟨i,h1,h2,h3⟩:=zbP hS
 exact TL.pure hg hd (fun a' w ha=>by simp [execOp,resolve,invoke,builtin,Builtin.len_,ha.eval hx,zaj h1,goInt]) h
theorem TL.min2 {k:IntKind} {a b:Int} {at':Array TypeId} (hx:evO env x=some (.int k a)) (hy:evO env y=some (.int k b)) (hg:zag ops env g=some true) (hd:okD n d=true)
  (h:TL P w0 R n ks L0 ops Q rest (setE env d (.int k (min a b))) L):TL P w0 R n ks L0 ops Q ((fl,⟨d,.call ⟨.builtin .min,#[x,y],at'⟩,ty,ps,af,g⟩) :: rest) env L :=
 TL.pure hg hd (fun a' w ha=>by
  have:(if b<a then b else a)=min a b:=by simp only [Int.min_def]; split<;>split<;>omega
  simp [execOp,resolve,invoke,builtin,Builtin.min_,Builtin.min2,ha.eval hx,ha.eval hy,this]) h
theorem TL.max2 {k:IntKind} {a b:Int} {at':Array TypeId} (hx:evO env x=some (.int k a)) (hy:evO env y=some (.int k b)) (hg:zag ops env g=some true) (hd:okD n d=true)
  (h:TL P w0 R n ks L0 ops Q rest (setE env d (.int k (max a b))) L):TL P w0 R n ks L0 ops Q ((fl,⟨d,.call ⟨.builtin .max,#[x,y],at'⟩,ty,ps,af,g⟩) :: rest) env L :=
 TL.pure hg hd (fun a' w ha=>by
  have:(if a<b then b else a)=max a b:=by simp only [Int.max_def]; split<;>split<;>omega
  simp [execOp,resolve,invoke,builtin,Builtin.max_,Builtin.max2,ha.eval hx,ha.eval hy,this]) h
end
end Go.Eng
namespace Go.Tm
class MemLike (S:Type) where
 get:S->Int->Int
 ld:S->Int->S
 st:S->Int->Int->S
 rng:∀ σ i,0<=get σ i/\get σ i<18446744073709551616
 sz:S->Nat
 sz_ld:∀ σ i,sz (ld σ i)<=sz σ+1
 sz_st:∀ σ i v,sz (st σ i v)<=sz σ+1
open MemLike Eng
def andU (a b:Int):Int:=zgv .and .u64 a b
def orU (a b:Int):Int:=zgv .or .u64 a b
def zuw (a b:Int):Int:=zgv .andNot .u64 a b
def andS (a b:Int):Int:=zgv .and .i64 a b
def orS (a b:Int):Int:=zgv .or .i64 a b
def shlU (a n:Int):Int:=IntKind.u64.wrap (a * 2 ^ (min n.toNat IntKind.u64.bits))
def shrU (a n:Int):Int:=a.fdiv (2 ^ (min n.toNat IntKind.u64.bits))
def shlS (a n:Int):Int:=IntKind.i64.wrap (a * 2 ^ (min n.toNat IntKind.i64.bits))
def shrS (a n:Int):Int:=a.fdiv (2 ^ (min n.toNat IntKind.i64.bits))
def levI (x:Int):Int:=if x<1 then 0 else if x<2 then 1 else if x<4 then 2 else if x<8 then 3 else if x<16 then 4 else 5
structure Lay where
 V:Nat
 S:Nat
 T:Nat
def Lay.Ok (l:Lay):Prop:=1<=l.V/\l.V<=16/\l.S<=48/\1<=l.T/\l.T<=8
abbrev below (n m:Int):Prop:=0<=n/\n<m
def Lay.lev (l:Lay):Int:=levI l.V
def Lay.arcs (l:Lay):Int:=2 * l.lev
def Lay.nodes (l:Lay):Int:=l.lev * l.V+l.S * l.arcs
def Lay.vertex (l:Lay) (i v:Int):Int:=if below i l.lev/\below v l.V then 1+i * l.V+v else 0
def Lay.arc (l:Lay) (s i d:Int):Int:=if below s l.S/\below i l.lev/\below d 2 then 1+l.lev * l.V+s * l.arcs+2 * i+d else 0
structure Thing where
 arc:Bool
 level:Int
 vertex:Int
 slot:Int
 side:Int
def Lay.node (l:Lay) (x:Int):Thing×Bool :=
 let y:=IntKind.i64.wrap (x - 1)
 if below y l.nodes then
  if y<l.lev * l.V then (⟨false,y / l.V,y % l.V,0,0⟩,true)
  else
   let z:=y - l.lev * l.V
   (⟨true,z % l.arcs / 2,0,z / l.arcs,z % 2⟩,true)
 else (⟨false,0,0,0,0⟩,false)
def Lay.state (l:Lay) (t:Int):Int:=if below (IntKind.i64.wrap (t - 1)) l.T then IntKind.i64.wrap (t - 1) else -1
def Lay.free (l:Lay):Int:=l.T
def Lay.of (l:Lay) (s f:Int):Int:=if below s l.S then l.T+1+s * 7+f else -1
def Lay.ends (l:Lay) (s:Int):Int:=l.of s 1
def Lay.level (l:Lay) (s:Int):Int:=l.of s 2
def Lay.next (l:Lay) (s d:Int):Int:=if below d 2 then l.of s (3+d) else -1
def Lay.prev (l:Lay) (s d:Int):Int:=if below d 2 then l.of s (5+d) else -1
def Lay.heads (l:Lay):Int:=l.T+1+l.S * 7
def Lay.head (l:Lay) (v i:Int):Int:=if below v l.V/\below i l.lev then l.heads+v * l.lev+i else -1
def Lay.edges (l:Lay):Int:=l.heads+l.V * l.lev
def Lay.edge (l:Lay) (a b:Int):Int :=
 let x:=min a b
 let y:=max a b
 if x=y\/¬below x l.V\/¬below y l.V then -1 else l.edges+x * (2 * l.V - x - 1) / 2+y - x - 1
def Lay.base (l:Lay):Int:=l.edges+(l.V:Int) * (l.V - 1) / 2
def Lay.field (l:Lay) (x f:Int):Int:=if below (IntKind.i64.wrap (x - 1)) l.nodes/\below f 7 then l.base+IntKind.i64.wrap (x - 1) * 7+f else -1
def Lay.cells (l:Lay):Int:=l.base+l.nodes * 7
structure Wd where
 old:Int
 new:Int
 thread:Int
 tag:Int
abbrev zoJ (n m:Int):Prop:=0<=n/\n<=m
def Wd.right (w:Wd):Bool :=
 if zoJ w.old 65535/\zoJ w.new 65535/\zoJ w.thread 8/\zoJ w.tag 16777215 then
  (if w.thread=0 then (if w.old=w.new then decide (w.tag=0) else false) else true) else false
def Wd.pack (w:Wd):Int:=orU (orU (orU (IntKind.u64.wrap w.new) (shlU (IntKind.u64.wrap w.old) 16)) (shlU (IntKind.u64.wrap w.thread) 32)) (shlU (IntKind.u64.wrap w.tag) 40)
def zkf (v a n:Int):Int:=IntKind.i64.wrap (andU (shrU v a) (IntKind.u64.wrap (shlU 1 n - 1)))
def zc1 (v:Int):Wd:=⟨zkf v 16 16,zkf v 0 16,zkf v 32 8,IntKind.i64.wrap (shrU v 40)⟩
def zae (v:Int):Wd×Bool:=if (zc1 v).right then (zc1 v,true) else (⟨0,0,0,0⟩,false)
variable {S:Type} [MemLike S]
structure Pen where
 thread:Int
 tag:Int
def Pen.to (p:Pen) (x:Int) (w:Wd):Wd :=
 ⟨if w.thread≠p.thread\/w.tag≠p.tag then w.new else w.old,x,p.thread,p.tag⟩
def Pen.write (p:Pen) (σ:S) (c x:Int):S :=
 if (zae (get σ c)).2 then
  (if (p.to x (zae (get σ c)).1).right then st (ld σ c) c (p.to x (zae (get σ c)).1).pack else ld σ c)
 else ld σ c
def pnew (σ:S) (c:Int):Int:=(zae (get σ c)).1.new
section
variable (l:Lay) (p:Pen)
def tget (σ:S) (x f:Int):Int:=IntKind.i64.wrap (get σ (l.field x f))
def zdY (σ:S) (x f:Int):S:=ld σ (l.field x f)
def tput (σ:S) (x f v:Int):S:=st σ (l.field x f) (IntKind.u64.wrap v)
def zbJ (x:Int):Bool:=decide ((l.node x).1.level=0)
def parent (σ:S) (x:Int):Int:=if zbJ l x then pnew σ (l.field x 2) else tget l σ x 2
def zcL (σ:S) (x:Int):S:=ld σ (l.field x 2)
def hang (σ:S) (x q:Int):S:=if x=0 then σ else if zbJ l x then p.write σ (l.field x 2) q else tput l σ x 2 q
def tsum (σ:S) (x:Int):Int:=if x=0 then 0 else get σ (l.field x 6)
def zb5 (σ:S) (x:Int):S:=if x=0 then σ else ld σ (l.field x 6)
def zfD (x m:Int):Int :=
 if (l.node x).1.arc then orU (orU 1 (shlU m 32)) (shlU m 34) else orU (orU (orU 1 (shlU m 32)) (shlU m 34)) 65536
def zpT (v:Int):Int:=andU v 4294967295
def zkY (v c:Int):Int:=orU (IntKind.u64.wrap (v+zpT c)) (shlU (andU (shrU c 34) 3) 34)
def zcd (σ:S) (x m:Int):Nat->Int×S
 | 0=>(zfD l x m,σ)
 | i+1 =>
  let r:=zcd σ x m i
  let f:Int:=3+i
  let c:=tget l r.2 x f
  let σ1:=zdY l r.2 x f
  (zkY r.1 (tsum l σ1 c),zb5 l σ1 c)
def zfc (σ:S) (x m:Int):S:=st (zcd l σ x m 2).2 (l.field x 6) (zcd l σ x m 2).1
def marks (σ:S) (x:Int):Int:=andU (shrU (tsum l σ x) 32) 3
def zfQ (σ:S) (x:Int):S:=zb5 l σ x
def alone (σ:S) (x:Int):S:=st (hang l p (tput l (tput l σ x 3 0) x 4 0) x 0) (l.field x 6) (zfD l x 0)
def size (σ:S) (x:Int):Int:=IntKind.i64.wrap (andU (tsum l σ x) 65535)
def verts (σ:S) (x:Int):Int:=IntKind.i64.wrap (andU (shrU (tsum l σ x) 16) 65535)
def root:Nat->S->Int->Option (Int×S)
 | 0,_,_=>none
 | k+1,σ,x=>if x≠0 then (if parent l σ x=0 then some (x,zcL l σ x) else root k (zcL l σ x) (parent l σ x)) else some (x,σ)
def zb0:Nat->S->Int->Int->Option (Int×S)
 | 0,_,_,_=>none
 | k+1,σ,x,n =>
  if parent l σ x=0 then some (n,zcL l σ x) else
  let q:=parent l σ x
  let σ1:=zcL l σ x
  let σ2:=zdY l σ1 q 4
  if tget l σ1 q 4=x then
   let c:=tget l σ2 q 3
   let σ3:=zdY l σ2 q 3
   zb0 k (zb5 l σ3 c) q (IntKind.i64.wrap (n+IntKind.i64.wrap (1+size l σ3 c)))
  else zb0 k σ2 q n
def index (k:Nat) (σ:S) (x:Int):Option (Int×S) :=
 let c:=tget l σ x 3
 let σ1:=zdY l σ x 3
 zb0 l k (zb5 l σ1 c) x (size l σ1 c)
def setC (σ:S) (x f c:Int):S :=
 let σ2:=hang l p (tput l σ x f c) c x
 zfc l (zfQ l σ2 x) x (marks l σ2 x)
def split:Nat->S->Int->Int->Option ((Int×Int)×S)
 | 0,_,_,_=>none
 | k+1,σ,x,n =>
  if x=0 then some ((0,0),σ) else
  let c:=tget l σ x 3
  let σ1:=zdY l σ x 3
  let m:=size l σ1 c
  let σ2:=zb5 l σ1 c
  if n<=m then (split k σ2 c n).bind fun r=>some ((r.1.1,x),setC l p r.2 x 3 r.1.2)
  else
   let d:=tget l σ2 x 4
   let σ3:=zdY l σ2 x 4
   (split k σ3 d (IntKind.i64.wrap (IntKind.i64.wrap (n - m) - 1))).bind fun r=>some ((x,r.1.2),setC l p r.2 x 4 r.1.1)
def zeb (k:Nat) (σ:S) (x n:Int):Option ((Int×Int)×S) :=
 (split l p k (zb5 l σ x) x (min (max n 0) (size l σ x))).bind fun r=>some (r.1,hang l p (hang l p r.2 r.1.1 0) r.1.2 0)
def above (σ:S) (x y:Int):Bool :=
 let a:=get σ (l.field x 5)
 let b:=get (ld σ (l.field x 5)) (l.field y 5)
 if b<a then true else if a=b then decide (x<y) else false
def zkZ (σ:S) (x y:Int):S:=ld (ld σ (l.field x 5)) (l.field y 5)
def merge:Nat->S->Int->Int->Option (Int×S)
 | 0,_,_,_=>none
 | k+1,σ,a,b =>
  if a=0 then some (b,σ) else if b=0 then some (a,σ) else
  let σ1:=zkZ l σ a b
  if above l σ a b then (merge k (zdY l σ1 a 4) (tget l σ1 a 4) b).bind fun r=>some (a,setC l p r.2 a 4 r.1)
  else (merge k (zdY l σ1 b 3) a (tget l σ1 b 3)).bind fun r=>some (b,setC l p r.2 b 3 r.1)
def zei (k:Nat) (σ:S) (a b:Int):Option (Int×S):=(merge l p k σ a b).bind fun r=>some (r.1,hang l p r.2 r.1 0)
def zbO:Nat->S->Int->Option S
 | 0,_,_=>none
 | k+1,σ,q =>
  if q≠0 then
   let σ1:=zfc l (zfQ l σ q) q (marks l σ q)
   zbO k (zcL l σ1 q) (parent l σ1 q)
  else some σ
def zkd (m k:Int) (on:Bool):Int:=if on then orU (zuw m (shlU 1 k)) (shlU 1 k) else zuw m (shlU 1 k)
def zgq (k:Nat) (σ:S) (x:Int) (m:Int) (on:Bool):Option S :=
 let σ1:=zfc l (zfQ l σ x) x (zkd (marks l σ x) m on)
 zbO l k (zcL l σ1 x) (parent l σ1 x)
def marked (σ:S) (x:Int) (m:Int):Bool:=decide (andU (shrU (marks l σ x) m) 1=1)
def has (σ:S) (x:Int) (m:Int):Bool:=decide (andU (shrU (shrU (tsum l σ x) 34) m) 1=1)
def zcO (m:Int):Nat->S->Int->Option (Int×S)
 | 0,_,_=>none
 | k+1,σ,x =>
  let c:=tget l σ x 3
  let σ1:=zdY l σ x 3
  if has l σ1 c m then zcO m k (zb5 l σ1 c) c else
  let σ2:=zb5 l σ1 c
  if marked l σ2 x m then some (x,zb5 l σ2 x) else
  let σ3:=zb5 l σ2 x
  zcO m k (zdY l σ3 x 4) (tget l σ3 x 4)
def first (k:Nat) (σ:S) (x:Int) (m:Int):Option (Int×S) :=
 if has l σ x m then zcO l m k (zb5 l σ x) x else some (0,zb5 l σ x)
def ze5 (k:Nat) (σ:S) (i u:Int):Option (Int×S) :=
 let x:=l.vertex i u
 (root l k σ x).bind fun r=>(index l k r.2 x).bind fun j=>(zeb l p k j.2 r.1 j.1).bind fun s=>zei l p k s.2 s.1.2 s.1.1
def same (k:Nat) (σ:S) (i u v:Int):Option (Bool×S) :=
 (root l k σ (l.vertex i u)).bind fun a=>(root l k a.2 (l.vertex i v)).bind fun b=>some (decide (a.1=b.1),b.2)
def count (k:Nat) (σ:S) (i u:Int):Option (Int×S):=(root l k σ (l.vertex i u)).bind fun a=>some (verts l a.2 a.1,zb5 l a.2 a.1)
def link (k:Nat) (σ:S) (i s u v:Int):Option (Int×S) :=
 (ze5 l p k σ i u).bind fun a=>(zei l p k a.2 a.1 (l.arc s i 0)).bind fun x=>(ze5 l p k x.2 i v).bind fun b =>
  (zei l p k b.2 x.1 b.1).bind fun y=>zei l p k y.2 y.1 (l.arc s i 1)
def zlB (k:Nat) (σ:S) (i s:Int):Option (Bool×S) :=
 (root l k σ (l.arc s i 0)).bind fun a=>(root l k a.2 (l.arc s i 1)).bind fun b=>some (decide (a.1=b.1),b.2)
def cut (k:Nat) (σ:S) (i s:Int):Option ((Int×Int)×S) :=
 let there:=l.arc s i 0
 let back:=l.arc s i 1
 (index l k σ there).bind fun i0=>(index l k i0.2 back).bind fun j0 =>
  let a:=if j0.1<i0.1 then j0.1 else i0.1
  let b:=if j0.1<i0.1 then i0.1 else j0.1
  (root l k j0.2 there).bind fun r=>(zeb l p k r.2 r.1 b).bind fun s1=>(zeb l p k s1.2 s1.1.2 1).bind fun s2 =>
   (zeb l p k s2.2 s1.1.1 a).bind fun s3=>(zeb l p k s3.2 s3.1.2 1).bind fun s4 =>
    (zei l p k (alone l p (alone l p s4.2 there) back) s3.1.1 s2.1.2).bind fun m=>some ((s4.1.2,m.1),m.2)
structure Fnd where
 slot:Int
 tree:Bool
 ok:Bool
def find (σ:S) (u v:Int):Fnd :=
 let x:=get σ (l.edge u v)
 if x=0 then ⟨0,false,false⟩ else ⟨IntKind.i64.wrap (IntKind.i64.wrap (shrU x 1) - 1),decide (andU x 1=1),true⟩
def zm4 (σ:S) (u v:Int):S:=ld σ (l.edge u v)
def bit (b:Bool):Int:=if b then 1 else 0
def zvR (s:Int) (t:Bool):Int:=orU (shlU (IntKind.u64.wrap (IntKind.i64.wrap (s+1))) 1) (bit t)
def eput (σ:S) (s u v i:Int) (t:Bool):S :=
 st (st (st σ (l.ends s) (IntKind.u64.wrap (orS (shlS (min u v) 8) (max u v)))) (l.level s) (IntKind.u64.wrap i)) (l.edge u v) (zvR s t)
def zbW (σ:S) (u v:Int):S:=st σ (l.edge u v) 0
def endsU (σ:S) (s:Int):Int:=shrS (IntKind.i64.wrap (get σ (l.ends s))) 8
def endsV (σ:S) (s:Int):Int:=andS (IntKind.i64.wrap (get σ (l.ends s))) 255
def zhr (σ:S) (s:Int):S:=ld σ (l.ends s)
structure Edg where
 u:Int
 v:Int
 level:Int
 tree:Bool
def eget (σ:S) (s:Int):Edg :=
 let u:=endsU l σ s
 let v:=endsV l σ s
 let σ2:=zm4 l (zhr l σ s) u v
 ⟨u,v,IntKind.i64.wrap (get σ2 (l.level s)),(find l (zhr l σ s) u v).tree⟩
def zeH (σ:S) (s:Int):S:=ld (zm4 l (zhr l σ s) (endsU l σ s) (endsV l σ s)) (l.level s)
def zgs (σ:S) (s:Int) (t:Bool):S:=st (zhr l σ s) (l.edge (endsU l σ s) (endsV l σ s)) (zvR s t)
def zgt (σ:S) (s i:Int):S:=st σ (l.level s) (IntKind.u64.wrap i)
def aget (σ:S) (c:Int):Int:=IntKind.i64.wrap (get σ c)
def side (s d:Int):Int:=IntKind.i64.wrap (IntKind.i64.wrap (IntKind.i64.wrap (2 * s)+d)+1)
def za7 (x:Int):Int:=l.next ((IntKind.i64.wrap (x - 1)).tdiv 2) ((IntKind.i64.wrap (x - 1)).tmod 2)
def zaR (x:Int):Int:=l.prev ((IntKind.i64.wrap (x - 1)).tdiv 2) ((IntKind.i64.wrap (x - 1)).tmod 2)
def ze7 (k:Nat) (σ:S) (v i:Int):Option S :=
 let x:=l.vertex i v
 let h:=decide (aget σ (l.head v i)≠0)
 let σ1:=ld σ (l.head v i)
 if h≠marked l σ1 x 0 then zgq l k (zb5 l σ1 x) x 0 h else some (zb5 l σ1 x)
def push (k:Nat) (σ:S) (x v i:Int):Option S :=
 let h:=l.head v i
 let f:=aget σ h
 let σ1:=st (st (ld σ h) (za7 l x) (IntKind.u64.wrap f)) (zaR l x) 0
 let σ2:=if f≠0 then st σ1 (zaR l f) (IntKind.u64.wrap x) else σ1
 ze7 l k (st σ2 h (IntKind.u64.wrap x)) v i
def pull (k:Nat) (σ:S) (x v i:Int):Option S :=
 let a:=aget σ (zaR l x)
 let σ1:=ld σ (zaR l x)
 let b:=aget σ1 (za7 l x)
 let σ2:=ld σ1 (za7 l x)
 let σ3:=if a=0 then st σ2 (l.head v i) (IntKind.u64.wrap b) else st σ2 (za7 l a) (IntKind.u64.wrap b)
 let σ4:=if b≠0 then st σ3 (zaR l b) (IntKind.u64.wrap a) else σ3
 ze7 l k σ4 v i
def add (k:Nat) (σ:S) (s:Int):Option S :=
 let e:=eget l σ s
 (push l k (zeH l σ s) (side s 0) e.u e.level).bind fun σ1=>push l k σ1 (side s 1) e.v e.level
def remove (k:Nat) (σ:S) (s:Int):Option S :=
 let e:=eget l σ s
 (pull l k (zeH l σ s) (side s 0) e.u e.level).bind fun σ1=>pull l k σ1 (side s 1) e.v e.level
def afirst (σ:S) (v i:Int):Int×Bool :=
 let x:=aget σ (l.head v i)
 if x=0 then (0,false) else ((IntKind.i64.wrap (x - 1)).tdiv 2,true)
def zf5 (σ:S) (v i:Int):S:=ld σ (l.head v i)
def lmark (k:Nat) (σ:S) (s i:Int) (on:Bool):Option S:=zgq l k σ (l.arc s i 0) 1 on
def zco (s u v:Int):Nat->Nat->S->Int->Int->Option S
 | 0,_,_,_,_=>none
 | k+1,m,σ,i,n=>if i<n then (link l p m σ i s u v).bind fun r=>zco s u v k m r.2 (IntKind.i64.wrap (i+1)) n else some σ
def plant (k:Nat) (σ:S) (s:Int):Option S :=
 let e:=eget l σ s
 (zco l p s e.u e.v k k (zgs l (zeH l σ s) s true) 0 (IntKind.i64.wrap (e.level+1))).bind fun σ1=>lmark l k σ1 s e.level true
def zeq (s:Int):Nat->Nat->S->Int->Int->Option S
 | 0,_,_,_,_=>none
 | k+1,m,σ,i,n=>if i<n then (cut l p m σ i s).bind fun r=>zeq s k m r.2 (IntKind.i64.wrap (i+1)) n else some σ
def fell (k:Nat) (σ:S) (s:Int):Option S:=zeq l p s k k (zeH l σ s) 0 (IntKind.i64.wrap ((eget l σ s).level+1))
def treeUp (k:Nat) (σ:S) (s:Int):Option S :=
 let e:=eget l σ s
 (lmark l k (zeH l σ s) s e.level false).bind fun σ1 =>
  (link l p k (zgt l σ1 s (IntKind.i64.wrap (e.level+1))) (IntKind.i64.wrap (e.level+1)) s e.u e.v).bind fun r=>lmark l k r.2 s (IntKind.i64.wrap (e.level+1)) true
def plain (k:Nat) (σ:S) (s:Int):Option S :=
 let i:=(eget l σ s).level
 (remove l k (zeH l σ s) s).bind fun σ1=>add l k (zgt l σ1 s (IntKind.i64.wrap (i+1))) s
def lfirst (k:Nat) (σ:S) (i v:Int) (m:Int):Option (Int×S):=(root l k σ (l.vertex i v)).bind fun r=>first l k r.2 r.1 m
def zcn (i v:Int):Nat->Nat->S->Int->Option S
 | 0,_,_,_=>none
 | k+1,m,σ,x=>if x≠0 then (treeUp l p m σ (l.node x).1.slot).bind fun σ1=>(lfirst l m σ1 i v 1).bind fun r=>zcn i v k m r.2 r.1 else some σ
def trees (k:Nat) (σ:S) (i v:Int):Option S:=(lfirst l k σ i v 1).bind fun r=>zcn l p i v k k r.2 r.1
def zde (i v:Int):Nat->Nat->S->Int->Option ((Int×Bool)×S)
 | 0,_,_,_=>none
 | k+1,m,σ,x =>
  if x≠0 then
   let w:=(l.node x).1.vertex
   let s:=(afirst l σ w i).1
   let σ1:=zf5 l σ w i
   let e:=eget l σ1 s
   (same l m (zeH l σ1 s) i e.u e.v).bind fun b =>
    if b.1 then (plain l m b.2 s).bind fun σ2=>(lfirst l m σ2 i v 0).bind fun r=>zde i v k m r.2 r.1
    else some ((s,true),b.2)
  else some ((0,false),σ)
def seek (k:Nat) (σ:S) (i v:Int):Option ((Int×Bool)×S):=(lfirst l k σ i v 0).bind fun r=>zde l i v k k r.2 r.1
def smaller (k:Nat) (σ:S) (i u v:Int):Option (Int×S) :=
 (count l k σ i v).bind fun a=>(count l k a.2 i u).bind fun b=>some (if a.1<b.1 then v else u,b.2)
def zbf (k:Nat) (σ:S) (s u v:Int):Option (Bool×S) :=
 (same l k σ 0 u v).bind fun j =>
  let σ1:=eput l j.2 s u v 0 false
  if j.1 then (add l k σ1 s).bind fun σ2=>some (false,σ2) else (plant l p k σ1 s).bind fun σ2=>some (true,σ2)
def replace (k:Nat) (σ:S) (i u v:Int):Option ((Int×Bool)×S) :=
 if IntKind.i64.wrap (i+1)>=l.lev then some ((0,false),σ) else
 (smaller l k σ i u v).bind fun w=>(trees l p k w.2 i w.1).bind fun σ1=>(seek l k σ1 i w.1).bind fun r =>
  if r.1.2 then (remove l k r.2 r.1.1).bind fun σ2=>(plant l p k σ2 r.1.1).bind fun σ3=>some ((r.1.1,true),σ3) else some ((r.1.1,false),r.2)
def zbb (u v:Int):Nat->Nat->S->Int->Int×Bool->Option ((Int×Bool)×S)
 | 0,_,_,_,_=>none
 | k+1,m,σ,i,b =>
  if i>=0 then (replace l p m σ i u v).bind fun r=>if r.1.2 then some r else zbb u v k m r.2 (IntKind.i64.wrap (i - 1)) r.1
  else some (b,σ)
def zbk (k:Nat) (σ:S) (s:Int):Option ((Bool×Int×Bool)×S) :=
 let e:=eget l σ s
 if e.tree then
  (fell l p k (zeH l σ s) s).bind fun σ1=>(zbb l p e.u e.v k k (zbW l σ1 e.u e.v) e.level (0,false)).bind fun r=>some ((true,r.1.1,r.1.2),r.2)
 else (remove l k (zeH l σ s) s).bind fun σ1=>some ((false,0,false),zbW l σ1 e.u e.v)
end
end Go.Tm
namespace Go.Tm
open MemLike
section
variable {S:Type} [MemLike S] {l:Lay} {p:Pen} {σ τ:S} {n m:Nat}
def Room (n:Nat) (σ:S):Prop:=sz σ+n<=137438953471
theorem Room.le (h:Room m σ) (hn:n<=m):Room n σ:=Nat.le_trans (Nat.add_le_add_left hn _) h
theorem Room.any (h:∀ σ:S,sz σ=0) (hn:n<=137438953471):Room n σ:=by unfold Room; rw [h]; omega
theorem ld_f {i:Int} (h:Room (n+1) σ):Room n (ld σ i):=by have:=sz_ld σ i; unfold Room at *; omega
theorem st_f {i v:Int} (h:Room (n+1) σ):Room n (st σ i v):=by have:=sz_st σ i v; unfold Room at *; omega
theorem zsI {c:Prop} [Decidable c] (h:Room n σ) (h2:Room n τ):Room n (if c then σ else τ):=by split<;>assumption
theorem zcS {x f:Int} (h:Room (n+1) σ):Room n (zdY l σ x f):=ld_f h
theorem zmo {x f v:Int} (h:Room (n+1) σ):Room n (tput l σ x f v):=st_f h
theorem zdF {x:Int} (h:Room (n+1) σ):Room n (zcL l σ x):=ld_f h
theorem znp {c x:Int} (h:Room (n+2) σ):Room n (p.write σ c x):=by
 unfold Pen.write
 split
 ·split
  ·exact st_f (ld_f h)
  ·exact ld_f (h.le (by omega))
 ·exact ld_f (h.le (by omega))
theorem zkC {x q:Int} (h:Room (n+2) σ):Room n (hang l p σ x q):=by
 unfold hang
 split
 ·exact h.le (by omega)
 ·split
  ·exact znp h
  ·exact zmo (h.le (by omega))
theorem zcm {x:Int} (h:Room (n+1) σ):Room n (zb5 l σ x):=by
 unfold zb5; split
 ·exact h.le (by omega)
 ·exact ld_f h
theorem ziG {x:Int} (h:Room (n+1) σ):Room n (zfQ l σ x):=zcm h
theorem zlh {x m:Int}:∀ {i n:Nat},Room (n+2 * i) σ->Room n (zcd l σ x m i).2
 | 0,_,h=>h
 | i+1,_,h=>zcm (zcS (zlh (h.le (by omega))))
theorem zlg {x m:Int} (h:Room (n+5) σ):Room n (zfc l σ x m):=st_f (zlh (h.le (by omega)))
theorem zoD {x:Int} (h:Room (n+5) σ):Room n (alone l p σ x):=st_f (zkC (zmo (zmo (h.le (by omega)))))
theorem zmu {x f c:Int} (h:Room (n+9) σ):Room n (setC l p σ x f c):=zlg (ziG (zkC (zmo (h.le (by omega)))))
theorem zla:∀ {k n:Nat} {σ τ:S} {x i:Int} {r:Int×Int},split l p k σ x i=some (r,τ)->Room (n+12 * k) σ->Room n τ
 | 0,_,_,_,_,_,_,e,_=>by simp [split] at e
 | k+1,n,σ,τ,x,i,r,e,h=>by
  rw [split] at e
  split at e
  ·cases e; exact h.le (by omega)
  ·dsimp only at e
   split at e
   ·obtain ⟨⟨a,b⟩,h1,h2⟩:=Zb e
    cases h2
    exact zmu (zla h1 (zcm (zcS (h.le (by omega)))))
   ·obtain ⟨⟨a,b⟩,h1,h2⟩:=Zb e
    cases h2
    exact zmu (zla h1 (zcS (zcm (zcS (h.le (by omega))))))
theorem zga {k:Nat} {x i:Int} {r:Int×Int} (e:zeb l p k σ x i=some (r,τ)) (h:Room (n+(12 * k+5)) σ):Room n τ:=by
 obtain ⟨⟨a,b⟩,h1,h2⟩:=Zb e
 cases h2
 exact zkC (zkC (zla h1 (zcm (h.le (by omega)))))
theorem zma {x y:Int} (h:Room (n+2) σ):Room n (zkZ l σ x y):=ld_f (ld_f h)
theorem zls:∀ {k n:Nat} {σ τ:S} {a b r:Int},merge l p k σ a b=some (r,τ)->Room (n+12 * k) σ->Room n τ
 | 0,_,_,_,_,_,_,e,_=>by simp [merge] at e
 | k+1,n,σ,τ,a,b,r,e,h=>by
  rw [merge] at e
  split at e
  ·cases e; exact h.le (by omega)
  ·split at e
   ·cases e; exact h.le (by omega)
   ·dsimp only at e
    split at e
    ·obtain ⟨⟨c,d⟩,h1,h2⟩:=Zb e
     cases h2
     exact zmu (zls h1 (zcS (zma (h.le (by omega)))))
    ·obtain ⟨⟨c,d⟩,h1,h2⟩:=Zb e
     cases h2
     exact zmu (zls h1 (zcS (zma (h.le (by omega)))))
theorem zge {k:Nat} {a b r:Int} (e:zei l p k σ a b=some (r,τ)) (h:Room (n+(12 * k+2)) σ):Room n τ:=by
 obtain ⟨⟨c,d⟩,h1,h2⟩:=Zb e
 cases h2
 exact zkC (zls h1 (h.le (by omega)))
theorem zlv:∀ {k n:Nat} {σ τ:S} {q:Int},zbO l k σ q=some τ->Room (n+7 * k) σ->Room n τ
 | 0,_,_,_,_,e,_=>by simp [zbO] at e
 | k+1,n,σ,τ,q,e,h=>by
  rw [zbO] at e
  split at e
  ·exact zlv e (zdF (zlg (ziG (h.le (by omega)))))
  ·cases e; exact h.le (by omega)
theorem znT {k:Nat} {x m:Int} {on:Bool} (e:zgq l k σ x m on=some τ) (h:Room (n+(7 * k+7)) σ):Room n τ:=zlv e (zdF (zlg (ziG (h.le (by omega)))))
theorem ziP {m:Int}:∀ {k n:Nat} {σ τ:S} {x r:Int},zcO l m k σ x=some (r,τ)->Room (n+4 * k) σ->Room n τ
 | 0,_,_,_,_,_,e,_=>by simp [zcO] at e
 | k+1,n,σ,τ,x,r,e,h=>by
  rw [zcO] at e
  dsimp only at e
  split at e
  ·exact ziP e (zcm (zcS (h.le (by omega))))
  ·split at e
   ·cases e; exact zcm (zcm (zcS (h.le (by omega))))
   ·exact ziP e (zcS (zcm (zcm (zcS (h.le (by omega))))))
theorem zsX {k:Nat} {x m r:Int} (e:first l k σ x m=some (r,τ)) (h:Room (n+(4 * k+1)) σ):Room n τ:=by
 unfold first at e
 split at e
 ·exact ziP e (zcm (h.le (by omega)))
 ·cases e; exact zcm (h.le (by omega))
theorem zdS:∀ {k n:Nat} {σ τ:S} {x r:Int},root l k σ x=some (r,τ)->Room (n+k) σ->Room n τ
 | 0,_,_,_,_,_,e,_=>by simp [root] at e
 | k+1,n,σ,τ,x,r,e,h=>by
  rw [root] at e
  split at e
  ·split at e
   ·cases e; exact zdF (h.le (by omega))
   ·exact zdS e (zdF (h.le (by omega)))
  ·cases e; exact h.le (by omega)
theorem ziN:∀ {k n:Nat} {σ τ:S} {x i r:Int},zb0 l k σ x i=some (r,τ)->Room (n+4 * k) σ->Room n τ
 | 0,_,_,_,_,_,_,e,_=>by simp [zb0] at e
 | k+1,n,σ,τ,x,i,r,e,h=>by
  rw [zb0] at e
  split at e
  ·cases e; exact zdF (h.le (by omega))
  ·dsimp only at e
   split at e
   ·exact ziN e (zcm (zcS (zcS (zdF (h.le (by omega))))))
   ·exact ziN e (zcS (zdF (h.le (by omega))))
theorem zlF {k:Nat} {x r:Int} (e:index l k σ x=some (r,τ)) (h:Room (n+(4 * k+2)) σ):Room n τ:=ziN e (zcm (zcS (h.le (by omega))))
theorem zoz {k:Nat} {i u r:Int} (e:ze5 l p k σ i u=some (r,τ)) (h:Room (n+(29 * k+9)) σ):Room n τ:=by
 obtain ⟨⟨_,a⟩,h1,e⟩:=Zb e
 obtain ⟨⟨_,b⟩,h2,e⟩:=Zb e
 obtain ⟨⟨_,c⟩,h3,e⟩:=Zb e
 exact zge e (zga h3 (zlF h2 (zdS h1 (h.le (by omega)))))
theorem zmx {k:Nat} {i u v:Int} {r:Bool} (e:same l k σ i u v=some (r,τ)) (h:Room (n+2 * k) σ):Room n τ:=by
 obtain ⟨⟨_,a⟩,h1,e⟩:=Zb e
 obtain ⟨⟨_,b⟩,h2,e⟩:=Zb e
 cases e
 exact zdS h2 (zdS h1 (h.le (by omega)))
theorem zou {k:Nat} {i u r:Int} (e:count l k σ i u=some (r,τ)) (h:Room (n+(k+1)) σ):Room n τ:=by
 obtain ⟨⟨_,a⟩,h1,e⟩:=Zb e
 cases e
 exact zcm (zdS h1 (h.le (by omega)))
theorem zsB {k:Nat} {i s u v r:Int} (e:link l p k σ i s u v=some (r,τ)) (h:Room (n+(94 * k+24)) σ):Room n τ:=by
 obtain ⟨⟨_,a⟩,h1,e⟩:=Zb e
 obtain ⟨⟨_,b⟩,h2,e⟩:=Zb e
 obtain ⟨⟨_,c⟩,h3,e⟩:=Zb e
 obtain ⟨⟨_,d⟩,h4,e⟩:=Zb e
 exact zge e (zge h4 (zoz h3 (zge h2 (zoz h1 (h.le (by omega))))))
theorem zsz {k:Nat} {i s:Int} {r:Bool} (e:zlB l k σ i s=some (r,τ)) (h:Room (n+2 * k) σ):Room n τ:=by
 obtain ⟨⟨_,a⟩,h1,e⟩:=Zb e
 obtain ⟨⟨_,b⟩,h2,e⟩:=Zb e
 cases e
 exact zdS h2 (zdS h1 (h.le (by omega)))
theorem zAV {k:Nat} {i s:Int} {r:Int×Int} (e:cut l p k σ i s=some (r,τ)) (h:Room (n+(69 * k+36)) σ):Room n τ:=by
 obtain ⟨⟨_,a⟩,h1,e⟩:=Zb e
 obtain ⟨⟨_,b⟩,h2,e⟩:=Zb e
 obtain ⟨⟨_,c⟩,h3,e⟩:=Zb e
 obtain ⟨⟨_,d⟩,h4,e⟩:=Zb e
 obtain ⟨⟨_,f⟩,h5,e⟩:=Zb e
 obtain ⟨⟨_,g⟩,h6,e⟩:=Zb e
 obtain ⟨⟨_,q⟩,h7,e⟩:=Zb e
 obtain ⟨⟨_,t⟩,h8,e⟩:=Zb e
 cases e
 exact zge h8 (zoD (zoD (zga h7 (zga h6 (zga h5 (zga h4 (zdS h3 (zlF h2 (zlF h1 (h.le (by omega)))))))))))
theorem zyp {u v:Int} (h:Room (n+1) σ):Room n (zm4 l σ u v):=ld_f h
theorem zzv {s:Int} (h:Room (n+1) σ):Room n (zhr l σ s):=ld_f h
theorem zj8 {v i:Int} (h:Room (n+1) σ):Room n (zf5 l σ v i):=ld_f h
theorem ztV {s u v i:Int} {t:Bool} (h:Room (n+3) σ):Room n (eput l σ s u v i t):=st_f (st_f (st_f h))
theorem zjU {u v:Int} (h:Room (n+1) σ):Room n (zbW l σ u v):=st_f h
theorem zeo {s:Int} (h:Room (n+3) σ):Room n (zeH l σ s):=ld_f (ld_f (ld_f h))
theorem ztR {s:Int} {t:Bool} (h:Room (n+2) σ):Room n (zgs l σ s t):=st_f (ld_f h)
theorem zor {s i:Int} (h:Room (n+1) σ):Room n (zgt l σ s i):=st_f h
theorem zoC {k:Nat} {v i:Int} (e:ze7 l k σ v i=some τ) (h:Room (n+(7 * k+9)) σ):Room n τ:=by
 unfold ze7 at e
 dsimp only at e
 split at e
 ·exact znT e (zcm (ld_f (h.le (by omega))))
 ·cases e; exact zcm (ld_f (h.le (by omega)))
theorem zrQ {k:Nat} {x v i:Int} (e:push l k σ x v i=some τ) (h:Room (n+(7 * k+14)) σ):Room n τ:=by
 unfold push at e
 dsimp only at e
 exact zoC e (st_f (zsI (st_f (st_f (st_f (ld_f (h.le (by omega)))))) (st_f (st_f (ld_f (h.le (by omega)))))))
theorem zrU {k:Nat} {x v i:Int} (e:pull l k σ x v i=some τ) (h:Room (n+(7 * k+13)) σ):Room n τ:=by
 unfold pull at e
 dsimp only at e
 refine zoC e (zsI (st_f (zsI ?_ ?_)) (zsI ?_ ?_))<;>exact st_f (ld_f (ld_f (h.le (by omega))))
theorem zzK {k:Nat} {s:Int} (e:add l k σ s=some τ) (h:Room (n+(14 * k+31)) σ):Room n τ:=by
 obtain ⟨a,h1,e⟩:=Zb e
 exact zrQ e (zrQ h1 (zeo (h.le (by omega))))
theorem ziB {k:Nat} {s:Int} (e:remove l k σ s=some τ) (h:Room (n+(14 * k+29)) σ):Room n τ:=by
 obtain ⟨a,h1,e⟩:=Zb e
 exact zrU e (zrU h1 (zeo (h.le (by omega))))
theorem zlz {k:Nat} {s i:Int} {on:Bool} (e:lmark l k σ s i on=some τ) (h:Room (n+(7 * k+7)) σ):Room n τ:=znT e h
theorem zlk {s u v:Int} {m:Nat}:∀ {k n:Nat} {σ τ:S} {i j:Int},zco l p s u v k m σ i j=some τ->Room (n+k * (94 * m+24)) σ->Room n τ
 | 0,_,_,_,_,_,e,_=>by simp [zco] at e
 | k+1,n,σ,τ,i,j,e,h=>by
  rw [zco] at e
  rw [Nat.add_one_mul] at h
  split at e
  ·obtain ⟨⟨_,a⟩,h1,e⟩:=Zb e
   exact zlk e (zsB h1 (h.le (by omega)))
  ·cases e; exact h.le (by omega)
theorem znO {k:Nat} {s:Int} (e:plant l p k σ s=some τ) (h:Room (n+(7 * k+12+k * (94 * k+24))) σ):Room n τ:=by
 obtain ⟨a,h1,e⟩:=Zb e
 exact zlz e (zlk h1 (ztR (zeo (h.le (by omega)))))
theorem zoa {s:Int} {m:Nat}:∀ {k n:Nat} {σ τ:S} {i j:Int},zeq l p s k m σ i j=some τ->Room (n+k * (69 * m+36)) σ->Room n τ
 | 0,_,_,_,_,_,e,_=>by simp [zeq] at e
 | k+1,n,σ,τ,i,j,e,h=>by
  rw [zeq] at e
  rw [Nat.add_one_mul] at h
  split at e
  ·obtain ⟨⟨_,a⟩,h1,e⟩:=Zb e
   exact zoa e (zAV h1 (h.le (by omega)))
  ·cases e; exact h.le (by omega)
theorem zwQ {k:Nat} {s:Int} (e:fell l p k σ s=some τ) (h:Room (n+(3+k * (69 * k+36))) σ):Room n τ:=zoa e (zeo (h.le (by omega)))
theorem zoS {k:Nat} {s:Int} (e:treeUp l p k σ s=some τ) (h:Room (n+(108 * k+42)) σ):Room n τ:=by
 obtain ⟨a,h1,e⟩:=Zb e
 obtain ⟨⟨_,b⟩,h2,e⟩:=Zb e
 exact zlz e (zsB h2 (zor (zlz h1 (zeo (h.le (by omega))))))
theorem zr9 {k:Nat} {s:Int} (e:plain l k σ s=some τ) (h:Room (n+(28 * k+64)) σ):Room n τ:=by
 obtain ⟨a,h1,e⟩:=Zb e
 exact zzK e (zor (ziB h1 (zeo (h.le (by omega)))))
theorem zhj {k:Nat} {i v m r:Int} (e:lfirst l k σ i v m=some (r,τ)) (h:Room (n+(5 * k+1)) σ):Room n τ:=by
 obtain ⟨⟨_,a⟩,h1,e⟩:=Zb e
 exact zsX e (zdS h1 (h.le (by omega)))
theorem zk5 {i v:Int} {m:Nat}:∀ {k n:Nat} {σ τ:S} {x:Int},zcn l p i v k m σ x=some τ->Room (n+k * (113 * m+43)) σ->Room n τ
 | 0,_,_,_,_,e,_=>by simp [zcn] at e
 | k+1,n,σ,τ,x,e,h=>by
  rw [zcn] at e
  rw [Nat.add_one_mul] at h
  split at e
  ·obtain ⟨a,h1,e⟩:=Zb e
   obtain ⟨⟨_,b⟩,h2,e⟩:=Zb e
   exact zk5 e (zhj h2 (zoS h1 (h.le (by omega))))
  ·cases e; exact h.le (by omega)
theorem znx {k:Nat} {i v:Int} (e:trees l p k σ i v=some τ) (h:Room (n+(5 * k+1+k * (113 * k+43))) σ):Room n τ:=by
 obtain ⟨⟨_,a⟩,h1,e⟩:=Zb e
 exact zk5 e (zhj h1 (h.le (by omega)))
theorem znF {i v:Int} {m:Nat}:∀ {k n:Nat} {σ τ:S} {x:Int} {r:Int×Bool},zde l i v k m σ x=some (r,τ)->Room (n+k * (35 * m+69)) σ->Room n τ
 | 0,_,_,_,_,_,e,_=>by simp [zde] at e
 | k+1,n,σ,τ,x,r,e,h=>by
  rw [zde] at e
  rw [Nat.add_one_mul] at h
  split at e
  ·obtain ⟨⟨_,a⟩,h1,e⟩:=Zb e
   dsimp only at e
   split at e
   ·obtain ⟨b,h2,e⟩:=Zb e
    obtain ⟨⟨_,c⟩,h3,e⟩:=Zb e
    exact znF e (zhj h3 (zr9 h2 (zmx h1 (zeo (zj8 (h.le (by omega)))))))
   ·cases e; exact zmx h1 (zeo (zj8 (h.le (by omega))))
  ·cases e; exact h.le (by omega)
theorem zrv {k:Nat} {i v:Int} {r:Int×Bool} (e:seek l k σ i v=some (r,τ)) (h:Room (n+(5 * k+1+k * (35 * k+69))) σ):Room n τ:=by
 obtain ⟨⟨_,a⟩,h1,e⟩:=Zb e
 exact znF e (zhj h1 (h.le (by omega)))
theorem zi8 {k:Nat} {i u v r:Int} (e:smaller l k σ i u v=some (r,τ)) (h:Room (n+(2 * k+2)) σ):Room n τ:=by
 obtain ⟨⟨_,a⟩,h1,e⟩:=Zb e
 obtain ⟨⟨_,b⟩,h2,e⟩:=Zb e
 cases e
 exact zou h2 (zou h1 (h.le (by omega)))
theorem zju {k:Nat} {s u v:Int} {r:Bool} (e:zbf l p k σ s u v=some (r,τ)) (h:Room (n+(23 * k+46+k * (94 * k+24))) σ):Room n τ:=by
 obtain ⟨⟨_,a⟩,h1,e⟩:=Zb e
 dsimp only at e
 split at e
 ·obtain ⟨b,h2,e⟩:=Zb e
  cases e
  exact zzK h2 (ztV (zmx h1 (h.le (by omega))))
 ·obtain ⟨b,h2,e⟩:=Zb e
  cases e
  exact znO h2 (ztV (zmx h1 (h.le (by omega))))
theorem zjc {k:Nat} {i u v:Int} {r:Int×Bool} (e:replace l p k σ i u v=some (r,τ)) (h:Room (n+(33 * k+45+k * (113 * k+43)+k * (35 * k+69)+k * (94 * k+24))) σ):Room n τ:=by
 unfold replace at e
 split at e
 ·cases e; exact h.le (by omega)
 ·obtain ⟨⟨_,a⟩,h1,e⟩:=Zb e
  obtain ⟨b,h2,e⟩:=Zb e
  obtain ⟨⟨_,c⟩,h3,e⟩:=Zb e
  dsimp only at e h2 h3
  split at e
  ·obtain ⟨d,h4,e⟩:=Zb e
   obtain ⟨f,h5,e⟩:=Zb e
   cases e
   exact znO h5 (ziB h4 (zrv h3 (znx h2 (zi8 h1 (h.le (by omega))))))
  ·cases e
   exact zrv h3 (znx h2 (zi8 h1 (h.le (by omega))))
theorem zhF {u v:Int} {m:Nat}:∀ {k n:Nat} {σ τ:S} {i:Int} {b r:Int×Bool},zbb l p u v k m σ i b=some (r,τ)->Room (n+k * (33 * m+45+m * (113 * m+43)+m * (35 * m+69)+m * (94 * m+24))) σ->Room n τ
 | 0,_,_,_,_,_,_,e,_=>by simp [zbb] at e
 | k+1,n,σ,τ,i,b,r,e,h=>by
  rw [zbb] at e
  rw [Nat.add_one_mul] at h
  split at e
  ·obtain ⟨⟨_,a⟩,h1,e⟩:=Zb e
   dsimp only at e
   split at e
   ·cases e; exact zjc h1 (h.le (by omega))
   ·exact zhF e (zjc h1 (h.le (by omega)))
  ·cases e; exact h.le (by omega)
theorem zjy {k:Nat} {s:Int} {r:Bool×Int×Bool} (e:zbk l p k σ s=some (r,τ)) (h:Room (n+(14 * k+37+k * (69 * k+36)+k * (33 * k+45+k * (113 * k+43)+k * (35 * k+69)+k * (94 * k+24)))) σ):Room n τ:=by
 unfold zbk at e
 dsimp only at e
 split at e
 ·obtain ⟨a,h1,e⟩:=Zb e
  obtain ⟨⟨_,b⟩,h2,e⟩:=Zb e
  cases e
  exact zhF h2 (zjU (zwQ h1 (zeo (h.le (by omega)))))
 ·obtain ⟨a,h1,e⟩:=Zb e
  cases e
  exact zjU (ziB h1 (zeo (h.le (by omega))))
theorem zaD (h:Room n σ:=by first | exact Room.any (fun _=>Z) (by omega) | ((try dsimp only); (repeat' (with_reducible first | refine zcS ?_ | refine zmo ?_ | refine zdF ?_ | refine znp ?_ | refine zkC ?_ | refine zcm ?_ | refine ziG ?_ | refine zlg ?_ | refine zoD ?_ | refine zmu ?_ | refine zma ?_ | refine zyp ?_ | refine zzv ?_ | refine zj8 ?_ | refine ztV ?_ | refine zjU ?_ | refine zeo ?_ | refine ztR ?_ | refine zor ?_ | refine ld_f ?_ | refine st_f ?_ | refine zlh ?_ | refine zsI ?_ ?_ | refine zla (by assumption) ?_ | refine zga (by assumption) ?_ | refine zls (by assumption) ?_ | refine zge (by assumption) ?_ | refine zlv (by assumption) ?_ | refine znT (by assumption) ?_ | refine ziP (by assumption) ?_ | refine zsX (by assumption) ?_ | refine zdS (by assumption) ?_ | refine ziN (by assumption) ?_ | refine zlF (by assumption) ?_ | refine zoz (by assumption) ?_ | refine zmx (by assumption) ?_ | refine zou (by assumption) ?_ | refine zsB (by assumption) ?_ | refine zsz (by assumption) ?_ | refine zAV (by assumption) ?_ | refine zoC (by assumption) ?_ | refine zrQ (by assumption) ?_ | refine zrU (by assumption) ?_ | refine zzK (by assumption) ?_ | refine ziB (by assumption) ?_ | refine zlz (by assumption) ?_ | refine zlk (by assumption) ?_ | refine znO (by assumption) ?_ | refine zoa (by assumption) ?_ | refine zwQ (by assumption) ?_ | refine zoS (by assumption) ?_ | refine zr9 (by assumption) ?_ | refine zhj (by assumption) ?_ | refine zk5 (by assumption) ?_ | refine znx (by assumption) ?_ | refine znF (by assumption) ?_ | refine zrv (by assumption) ?_ | refine zi8 (by assumption) ?_ | refine zju (by assumption) ?_ | refine zjc (by assumption) ?_ | refine zhF (by assumption) ?_ | refine zjy (by assumption) ?_)); all_goals (refine Room.le (by assumption) ?_; omega))):Room n σ:=h
end
end Go.Tm
namespace Go.Eng
section
variable {P:Program} {w0:World} {R:Assn} {n:Nat} {Q:Exit->Act->World->Prop} {env:List (Nat×Value)} {L:List (Nat×Assn)}
instance {fn:Func} {Φ:Value->List Assn->Prop}:PanicOk (FQ P w0 R fn Φ):=⟨fun c a d v w h=>by cases d<;>exact h⟩
def rvs (P:Program) (env:List (Nat×Value)) (L:List (Nat×Assn)):List ResultVar->List Value->Prop
 | [],[]=>True
 | .tmp t :: r,v :: vs=>lk env t=some v/\rvs P env L r vs
 | .cell t T :: r,v :: vs=>(∃ b off cs T' fz k,lk env t=some (.pointer (some ⟨b,off,none⟩))/\lk L k=some (pt b (.cells cs T' fz)) /\
   ((zcK P T=true/\nth cs.toList off=some v)\/∃ m us,aggB P T m=true/\lkCs cs off m=some us/\v=.agg us.toArray))/\rvs P env L r vs
 | _,_=>False
theorem zmU {w:World} {b off:Nat} {cs:Array Value} {T T':TypeId} {fz:Nat×Nat} {v:Value} (hb:w.heap[b]?=some (.cells cs T' fz)) (hT:zcK P T=true) (hv:cs[off]?=some v) :
  (loadVar T ⟨b,off,none⟩).run P w=.ok v w:=by
 have hcell:w.cell? ⟨b,off,none⟩=some v:=by simp [World.cell?,hb,hv]
 obtain ⟨dd,i,h3,h4,h5,h6⟩:=zdi hT
 simp [loadVar,zc5 h3,h4,load,Sem.run,hcell]
theorem znW {w:World} {b off m:Nat} {cs:Array Value} {T T':TypeId} {fz:Nat×Nat} {vs:List Value} (hb:w.heap[b]?=some (.cells cs T' fz)) (hT:aggB P T m=true) (hv:lkCs cs off m=some vs) :
  (loadVar T ⟨b,off,none⟩).run P w=.ok (.agg vs.toArray) w:=by
 obtain ⟨dd,i,h3,h4,h5,h6⟩:=zf4 hT
 have hl:=zfj (P:=P) (off:=off) hb m 0 [] vs (by simpa using hv)
 simp only [List.nil_append] at hl
 simp [loadVar,zc5 h3,h4,za8 h5,h6,loadCells,hl]
def resO (tmps:Array Value):ResultVar->Sem Value
 | .tmp t=>Pure.pure (tmps.getD t undef)
 | .cell ad t=>do loadVar t (<-asAddr (tmps.getD ad undef))
theorem znG {a:Act} {w:World} (ha:Agrees n env a) (hs:Sat w0 L R w):∀ {rs:List ResultVar} {vs:List Value},rvs P env L rs vs ->
  (rs.mapM (resO a.tmps)).run P w=.ok vs w
 | [],[],_=>rfl
 | .tmp t :: r,v :: vs,h=>by
  have ih:=znG ha hs h.2
  have e:(resO a.tmps (.tmp t)).run P w=.ok v w:=by rw [resO,zjv ha h.1]; rfl
  rw [List.mapM_cons,run_bind,e]
  dsimp only
  rw [run_bind,ih]
  rfl
 | .cell t T :: r,v :: vs,h=>by
  have ih:=znG ha hs h.2
  obtain ⟨⟨b,off,cs,T',fz,k,h1,h2,h3⟩,_⟩:=h
  have hb:=hs.read h2
  have hl:(loadVar T ⟨b,off,none⟩).run P w=.ok v w:=by
   rcases h3 with ⟨h4,h5⟩ | ⟨m,us,h4,h5,rfl⟩
   ·exact zmU hb h4 (nthA h5)
   ·exact znW hb h4 h5
  have e:(resO a.tmps (.cell t T)).run P w=.ok v w:=by
   rw [resO,run_bind,zjv ha h1]
   exact hl
  rw [List.mapM_cons,run_bind,e]
  dsimp only
  rw [run_bind,ih]
  rfl
 | [],_ :: _,h=>h.elim
 | .tmp _ :: _,[],h=>h.elim
 | .cell _ _ :: _,[],h=>h.elim
def resV:List Value->Value
 | [v]=>v
 | vs=>.tuple vs.toArray
theorem zrB {α β:Type} (f:α->β) (s:Sem α) (w:World):(f <$> s).run P w=match s.run P w with
   | .ok a w'=>.ok (f a) w'
   | .halt h w'=>.halt h w':=run_bind s (fun a=>Sem.pure (f a)) w
theorem FQ.retG {fn:Func} {Φ:Value->List Assn->Prop} {rs:List ResultVar} (vs:List Value) {v:Value} (ids:List Nat) {Bs:List Assn} (hr:fn.results=rs.toArray) (hv:rvs P env L rs vs) (hvv:resV vs=v) (hn:zcp ids=true) (hB:lks L ids Bs)
  (hΦ:Φ v Bs):TQ w0 R n (FQ P w0 R fn Φ) .ret env L:=by
 subst hvv
 refine FQ.of (.inl Z) ids (fun a w ha hs=>?_) hn hΦ hB
 have h1:=znG ha hs hv
 have h2:results fn a.tmps=(rs.toArray.mapM (resO a.tmps)) >>= fun vs=>Pure.pure (if h:vs.size=1 then vs[0] else .tuple vs):=by
  rw [results,hr]; rfl
 rw [h2,run_bind,List.mapM_toArray,zrB,h1]
 cases vs with
 | nil=>rfl
 | cons x r =>
  cases r with
  | nil=>rfl
  | cons y r=>simp [resV]
def selE (env:List (Nat×Value)):List Nat->List (Nat×Value)
 | []=>[]
 | t :: ts=>match lk env t with
  | some v=>(t,v) :: selE env ts
  | none=>selE env ts
def zdd (env0 env:List (Nat×Value)):List Nat->Prop
 | []=>True
 | t :: ts=>lk env t=lk env0 t/\zdd env0 env ts
theorem zdd.cons {env0 env:List (Nat×Value)} {t:Nat} {ts:List Nat} {v:Value} (h1:lk env t=some v) (h2:lk env0 t=some v) (h:zdd env0 env ts):zdd env0 env (t :: ts):=⟨h1.trans h2.symm,h⟩
theorem znX {env:List (Nat×Value)}:∀ {ts:List Nat} {t:Nat} {v:Value},lk (selE env ts) t=some v->t∈ts/\lk env t=some v
 | [],t,v,h=>by simp [selE,lk] at h
 | j :: ts,t,v,h=>by
  simp only [selE] at h
  cases hj:lk env j with
  | none=>rw [hj] at h; have:=znX h; exact ⟨List.mem_cons_of_mem _ this.1,this.2⟩
  | some u =>
   rw [hj] at h
   simp only [zaG] at h
   by_cases e:j=t
   ·subst e; rw [Zp rfl] at h; cases h; exact ⟨List.mem_cons_self ..,hj⟩
   ·rw [Zn e] at h; have:=znX h; exact ⟨List.mem_cons_of_mem _ this.1,this.2⟩
theorem zdd.spec {env0 env:List (Nat×Value)}:∀ {ts:List Nat},zdd env0 env ts->∀ t∈ts,lk env t=lk env0 t
 | [],_,t,ht=>by cases ht
 | j :: ts,h,t,ht=>by
  rcases List.mem_cons.1 ht with rfl | ht
  ·exact h.1
  ·exact zdd.spec h.2 t ht
theorem zmX {α:Type _} {a b:List (Nat×α)} {t:Nat}:lk (a++b) t=(lk a t).or (lk b t):=by
 induction a with
 | nil=>simp [lk]
 | cons p r ih =>
  obtain ⟨k,v⟩:=p
  rw [List.cons_append,zaG,zaG]
  by_cases h:k=t
  ·simp [h]
  ·simp [h,ih]
theorem zi6 {env E:List (Nat×Value)} {ts:List Nat} (h1:subE env E) {env0:List (Nat×Value)} (h2:zdd env0 env ts):∀ t v,lk (E++selE env0 ts) t=some v->lk env t=some v:=by
 intro t v h
 rw [zmX] at h
 cases hE:lk E t with
 | some u=>rw [hE] at h; simp at h; subst h; exact zcv h1 t _ hE
 | none =>
  rw [hE] at h; simp at h
  obtain ⟨hm,he⟩:=znX h
  rw [h2.spec t hm]; exact he
theorem zi5 {L M:List (Nat×Assn)} {ls:List Nat} (h1:subE L M) {L0:List (Nat×Assn)} (h2:Keep L0 L ls):∀ t v,lk (M++sel L0 ls) t=some v->lk L t=some v:=by
 intro t v h
 rw [zmX] at h
 cases hE:lk M t with
 | some u=>rw [hE] at h; simp at h; subst h; exact zcv h1 t _ hE
 | none =>
  rw [hE] at h; simp at h
  obtain ⟨hm,he⟩:=zpz h
  rw [h2.spec t hm]; exact he
theorem zdd.refl (env:List (Nat×Value)):∀ ts,zdd env env ts
 | []=>trivial
 | _ :: ts=>⟨Z,zdd.refl env ts⟩
def zxe (w0:World) (R:Assn) (n:Nat) {X:Type} (env:List (Nat×Value)) (L:List (Nat×Assn)) (ts ls:List Nat) (E:X->List (Nat×Value)) (M:X->List (Nat×Assn)) (I:X->Prop) (μ:X->Nat) (m:Nat):Act->World->Prop :=
 fun a w=>∃ x',I x'/\μ x'<m/\Agrees n (E x'++selE env ts) a/\Sat w0 (M x'++sel L ls) R w
theorem TC.loopK {X:Type} {c:Code} (ts ls:List Nat) (E:X->List (Nat×Value)) (M:X->List (Nat×Assn)) (I:X->Prop) (μ:X->Nat) (x0:X) (hI:I x0) (he:subE env (E x0)) (hL:subE L (M x0))
  (round:∀ x,I x->TC P w0 R n c (Exit.then (zxe w0 R n env L ts ls E M I μ (μ x)) Q) (E x++selE env ts) (M x++sel L ls)):TC P w0 R n (.loop c) Q env L:=by
 intro a w ha hs
 have ha':Agrees n (E x0++selE env ts) a:=ha.sub (zi6 he (zdd.refl env ts))
 have hs':Sat w0 (M x0++sel L ls) R w:=hs.weaken (zi5 hL (Keep.refl L ls))
 intro b k cs
 have key:∀ m x a w,μ x=m->I x->Agrees n (E x++selE env ts) a->Sat w0 (M x++sel L ls) R w->∃ e a' w',Q e a' w'/\Arrives P (lone (b.at a (.code c :: .inLoop c :: k)) cs w) b k cs e a' w':=by
  intro m
  induction m using Nat.strongRecOn with
  | _ m ih =>
   intro x a w hm hIx ha hs
   obtain ⟨e,a₁,w₁,hq,harr⟩:=round x hIx a w ha hs b (.inLoop c :: k) cs
   cases e with
   | normal =>
    obtain ⟨x',hI',hlt,ha',hs'⟩:=hq
    obtain ⟨e₂,a₂,w₂,hq₂,harr₂⟩:=ih (μ x') (hm▸hlt) x' a₁ w₁ rfl hI' ha' hs'
    exact ⟨e₂,a₂,w₂,hq₂,.of_steps (Steps.trans harr (.one step_inLoop)) harr₂⟩
   | exit id=>exact ⟨_,a₁,w₁,hq,.pass (x:=.inLoop c) Z (fun _ _=>.inl (by simp)) harr⟩
   | goto l=>exact ⟨_,a₁,w₁,hq,.pass (x:=.inLoop c) Z (fun _ _=>.inl (by simp)) harr⟩
   | ret=>exact ⟨_,a₁,w₁,hq,.pass (x:=.inLoop c) Z (fun _ _=>.inl (by simp)) harr⟩
   | panic ch=>exact ⟨_,a₁,w₁,hq,.pass (x:=.inLoop c) Z (fun _ _=>.inl (by simp)) harr⟩
   | outgrown=>exact ⟨_,a₁,w₁,hq,.pass (x:=.inLoop c) Z (fun _ _=>.inl (by simp)) harr⟩
 obtain ⟨e,a',w',hq,harr⟩:=key _ x0 a w rfl hI ha' hs'
 exact ⟨e,a',w',hq,.of_steps (.one step_loop) harr⟩
theorem TQ.roundK {X:Type} {env0:List (Nat×Value)} {L0:List (Nat×Assn)} {ts ls:List Nat} {E:X->List (Nat×Value)} {M:X->List (Nat×Assn)} {I:X->Prop} {μ:X->Nat} {m:Nat} (x':X) (hI:I x'/\μ x'<m) (he:subE env (E x')) (hL:subE L (M x'))
  (hk:zdd env0 env ts) (hkL:Keep L0 L ls):TQ w0 R n (Exit.then (zxe w0 R n env0 L0 ts ls E M I μ m) Q) .normal env L :=
 fun _ _ ha hs=>⟨x',hI.1,hI.2,ha.sub (zi6 he hk),hs.weaken (zi5 hL hkL)⟩
variable {ks:List Nat} {L0:List (Nat×Assn)} {ops:Array Oper} {rest:List (Bool×Oper)}
variable {fl:Bool} {d:Option Tmp} {x y z:Operand} {ty T z':TypeId} {ps:String} {af:Array Edge} {g:Option (Nat×Bool)} {v u:Value}
section
variable {k:IntKind} {a b:Int}
theorem TL.eql (hx:evO env x=some (.int k a)) (hy:evO env y=some (.int k b)) (hg:zag ops env g=some true) (hd:okD n d=true)
  (ht:a=b->TL P w0 R n ks L0 ops Q rest (setE env d (.bool true)) L) (hf:¬(a=b)->TL P w0 R n ks L0 ops Q rest (setE env d (.bool false)) L) :
  TL P w0 R n ks L0 ops Q ((fl,⟨d,.binOp .eql T x y z',ty,ps,af,g⟩) :: rest) env L:=TL.cmp hx hy Z hg hd ht hf
theorem TL.eqlV (hx:evO env x=some (.int k a)) (hy:evO env y=some (.int k b)) (hg:zag ops env g=some true) (hd:okD n d=true)
  (h:TL P w0 R n ks L0 ops Q rest (setE env d (.bool (decide (a=b)))) L):TL P w0 R n ks L0 ops Q ((fl,⟨d,.binOp .eql T x y z',ty,ps,af,g⟩) :: rest) env L :=
 TL.cmpV hx hy Z hg hd (by
  have:decide (cmpP .eql a b)=decide (a=b):=by rw [Bool.eq_iff_iff,decide_eq_true_iff,decide_eq_true_iff]; exact Iff.rfl
  rw [this]; exact h)
theorem TL.neq (hx:evO env x=some (.int k a)) (hy:evO env y=some (.int k b)) (hg:zag ops env g=some true) (hd:okD n d=true)
  (ht:a≠b->TL P w0 R n ks L0 ops Q rest (setE env d (.bool true)) L) (hf:¬(a≠b)->TL P w0 R n ks L0 ops Q rest (setE env d (.bool false)) L) :
  TL P w0 R n ks L0 ops Q ((fl,⟨d,.binOp .neq T x y z',ty,ps,af,g⟩) :: rest) env L:=TL.cmp hx hy Z hg hd ht hf
theorem TL.neqV (hx:evO env x=some (.int k a)) (hy:evO env y=some (.int k b)) (hg:zag ops env g=some true) (hd:okD n d=true)
  (h:TL P w0 R n ks L0 ops Q rest (setE env d (.bool (decide (a≠b)))) L):TL P w0 R n ks L0 ops Q ((fl,⟨d,.binOp .neq T x y z',ty,ps,af,g⟩) :: rest) env L :=
 TL.cmpV hx hy Z hg hd (by
  have:decide (cmpP .neq a b)=decide (a≠b):=by rw [Bool.eq_iff_iff,decide_eq_true_iff,decide_eq_true_iff]; exact Iff.rfl
  rw [this]; exact h)
theorem TL.lss (hx:evO env x=some (.int k a)) (hy:evO env y=some (.int k b)) (hg:zag ops env g=some true) (hd:okD n d=true)
  (ht:a<b->TL P w0 R n ks L0 ops Q rest (setE env d (.bool true)) L) (hf:¬(a<b)->TL P w0 R n ks L0 ops Q rest (setE env d (.bool false)) L) :
  TL P w0 R n ks L0 ops Q ((fl,⟨d,.binOp .lss T x y z',ty,ps,af,g⟩) :: rest) env L:=TL.cmp hx hy Z hg hd ht hf
theorem TL.lssV (hx:evO env x=some (.int k a)) (hy:evO env y=some (.int k b)) (hg:zag ops env g=some true) (hd:okD n d=true)
  (h:TL P w0 R n ks L0 ops Q rest (setE env d (.bool (decide (a<b)))) L):TL P w0 R n ks L0 ops Q ((fl,⟨d,.binOp .lss T x y z',ty,ps,af,g⟩) :: rest) env L :=
 TL.cmpV hx hy Z hg hd (by
  have:decide (cmpP .lss a b)=decide (a<b):=by rw [Bool.eq_iff_iff,decide_eq_true_iff,decide_eq_true_iff]; exact Iff.rfl
  rw [this]; exact h)
theorem TL.leq (hx:evO env x=some (.int k a)) (hy:evO env y=some (.int k b)) (hg:zag ops env g=some true) (hd:okD n d=true)
  (ht:a<=b->TL P w0 R n ks L0 ops Q rest (setE env d (.bool true)) L) (hf:¬(a<=b)->TL P w0 R n ks L0 ops Q rest (setE env d (.bool false)) L) :
  TL P w0 R n ks L0 ops Q ((fl,⟨d,.binOp .leq T x y z',ty,ps,af,g⟩) :: rest) env L:=TL.cmp hx hy Z hg hd ht hf
theorem TL.leqV (hx:evO env x=some (.int k a)) (hy:evO env y=some (.int k b)) (hg:zag ops env g=some true) (hd:okD n d=true)
  (h:TL P w0 R n ks L0 ops Q rest (setE env d (.bool (decide (a<=b)))) L):TL P w0 R n ks L0 ops Q ((fl,⟨d,.binOp .leq T x y z',ty,ps,af,g⟩) :: rest) env L :=
 TL.cmpV hx hy Z hg hd (by
  have:decide (cmpP .leq a b)=decide (a<=b):=by rw [Bool.eq_iff_iff,decide_eq_true_iff,decide_eq_true_iff]; exact Iff.rfl
  rw [this]; exact h)
theorem TL.gtr (hx:evO env x=some (.int k a)) (hy:evO env y=some (.int k b)) (hg:zag ops env g=some true) (hd:okD n d=true)
  (ht:b<a->TL P w0 R n ks L0 ops Q rest (setE env d (.bool true)) L) (hf:¬(b<a)->TL P w0 R n ks L0 ops Q rest (setE env d (.bool false)) L) :
  TL P w0 R n ks L0 ops Q ((fl,⟨d,.binOp .gtr T x y z',ty,ps,af,g⟩) :: rest) env L:=TL.cmp hx hy Z hg hd ht hf
theorem TL.geq (hx:evO env x=some (.int k a)) (hy:evO env y=some (.int k b)) (hg:zag ops env g=some true) (hd:okD n d=true)
  (ht:b<=a->TL P w0 R n ks L0 ops Q rest (setE env d (.bool true)) L) (hf:¬(b<=a)->TL P w0 R n ks L0 ops Q rest (setE env d (.bool false)) L) :
  TL P w0 R n ks L0 ops Q ((fl,⟨d,.binOp .geq T x y z',ty,ps,af,g⟩) :: rest) env L:=TL.cmp hx hy Z hg hd ht hf
theorem TL.geqV (hx:evO env x=some (.int k a)) (hy:evO env y=some (.int k b)) (hg:zag ops env g=some true) (hd:okD n d=true)
  (h:TL P w0 R n ks L0 ops Q rest (setE env d (.bool (decide (b<=a)))) L):TL P w0 R n ks L0 ops Q ((fl,⟨d,.binOp .geq T x y z',ty,ps,af,g⟩) :: rest) env L :=
 TL.cmpV hx hy Z hg hd (by
  have:decide (cmpP .geq a b)=decide (b<=a):=by rw [Bool.eq_iff_iff,decide_eq_true_iff,decide_eq_true_iff]; exact Iff.rfl
  rw [this]; exact h)
theorem TL.eqlT (hx:evO env x=some (.int k a)) (hy:evO env y=some (.int k b)) (hp:a=b) (hg:zag ops env g=some true) (hd:okD n d=true)
  (ht:TL P w0 R n ks L0 ops Q rest (setE env d (.bool true)) L):TL P w0 R n ks L0 ops Q ((fl,⟨d,.binOp .eql T x y z',ty,ps,af,g⟩) :: rest) env L:=TL.cmpT hx hy Z hp hg hd ht
theorem TL.eqlF (hx:evO env x=some (.int k a)) (hy:evO env y=some (.int k b)) (hp:¬(a=b)) (hg:zag ops env g=some true) (hd:okD n d=true)
  (ht:TL P w0 R n ks L0 ops Q rest (setE env d (.bool false)) L):TL P w0 R n ks L0 ops Q ((fl,⟨d,.binOp .eql T x y z',ty,ps,af,g⟩) :: rest) env L:=TL.cmpF hx hy Z hp hg hd ht
theorem TL.neqT (hx:evO env x=some (.int k a)) (hy:evO env y=some (.int k b)) (hp:a≠b) (hg:zag ops env g=some true) (hd:okD n d=true)
  (ht:TL P w0 R n ks L0 ops Q rest (setE env d (.bool true)) L):TL P w0 R n ks L0 ops Q ((fl,⟨d,.binOp .neq T x y z',ty,ps,af,g⟩) :: rest) env L:=TL.cmpT hx hy Z hp hg hd ht
theorem TL.neqF (hx:evO env x=some (.int k a)) (hy:evO env y=some (.int k b)) (hp:¬(a≠b)) (hg:zag ops env g=some true) (hd:okD n d=true)
  (ht:TL P w0 R n ks L0 ops Q rest (setE env d (.bool false)) L):TL P w0 R n ks L0 ops Q ((fl,⟨d,.binOp .neq T x y z',ty,ps,af,g⟩) :: rest) env L:=TL.cmpF hx hy Z hp hg hd ht
theorem TL.lssT (hx:evO env x=some (.int k a)) (hy:evO env y=some (.int k b)) (hp:a<b) (hg:zag ops env g=some true) (hd:okD n d=true)
  (ht:TL P w0 R n ks L0 ops Q rest (setE env d (.bool true)) L):TL P w0 R n ks L0 ops Q ((fl,⟨d,.binOp .lss T x y z',ty,ps,af,g⟩) :: rest) env L:=TL.cmpT hx hy Z hp hg hd ht
theorem TL.lssF (hx:evO env x=some (.int k a)) (hy:evO env y=some (.int k b)) (hp:¬(a<b)) (hg:zag ops env g=some true) (hd:okD n d=true)
  (ht:TL P w0 R n ks L0 ops Q rest (setE env d (.bool false)) L):TL P w0 R n ks L0 ops Q ((fl,⟨d,.binOp .lss T x y z',ty,ps,af,g⟩) :: rest) env L:=TL.cmpF hx hy Z hp hg hd ht
theorem TL.gtrF (hx:evO env x=some (.int k a)) (hy:evO env y=some (.int k b)) (hp:¬(b<a)) (hg:zag ops env g=some true) (hd:okD n d=true)
  (ht:TL P w0 R n ks L0 ops Q rest (setE env d (.bool false)) L):TL P w0 R n ks L0 ops Q ((fl,⟨d,.binOp .gtr T x y z',ty,ps,af,g⟩) :: rest) env L:=TL.cmpF hx hy Z hp hg hd ht
theorem TL.geqT (hx:evO env x=some (.int k a)) (hy:evO env y=some (.int k b)) (hp:b<=a) (hg:zag ops env g=some true) (hd:okD n d=true)
  (ht:TL P w0 R n ks L0 ops Q rest (setE env d (.bool true)) L):TL P w0 R n ks L0 ops Q ((fl,⟨d,.binOp .geq T x y z',ty,ps,af,g⟩) :: rest) env L:=TL.cmpT hx hy Z hp hg hd ht
theorem TL.geqF (hx:evO env x=some (.int k a)) (hy:evO env y=some (.int k b)) (hp:¬(b<=a)) (hg:zag ops env g=some true) (hd:okD n d=true)
  (ht:TL P w0 R n ks L0 ops Q rest (setE env d (.bool false)) L):TL P w0 R n ks L0 ops Q ((fl,⟨d,.binOp .geq T x y z',ty,ps,af,g⟩) :: rest) env L:=TL.cmpF hx hy Z hp hg hd ht
theorem TL.casesP {p:Prop} [Decidable p] {t:Nat} {env':List (Nat×Value)} (he:env=(t,.bool (decide p)) :: env')
  (ht:p->TL P w0 R n ks L0 ops Q rest ((t,.bool true) :: env') L) (hf:¬p->TL P w0 R n ks L0 ops Q rest ((t,.bool false) :: env') L):TL P w0 R n ks L0 ops Q rest env L :=
 TL.cases he (fun h=>ht (of_decide_eq_true h)) (fun h=>hf (of_decide_eq_false h))
theorem zqo {a b:Bool} {w:World} (hT:zum P T=true) (m:Nat):(Op.equalIn (m+1) T (.bool a) (.bool b)).run P w=.ok (a == b) w:=by
 rw [Op.equalIn,run_bind,zaj (zqQ hT)]; rfl
theorem TL.neqB {a b:Bool} (hx:evO env x=some (.bool a)) (hy:evO env y=some (.bool b)) (hT:zum P T=true) (hg:zag ops env g=some true) (hd:okD n d=true)
  (h:TL P w0 R n ks L0 ops Q rest (setE env d (.bool (!(a == b)))) L):TL P w0 R n ks L0 ops Q ((fl,⟨d,.binOp .neq T x y z',ty,ps,af,g⟩) :: rest) env L :=
 TL.pure hg hd (fun a' w ha=>by
  have e1:(eqGuard .neq T x y (.bool a) (.bool b)).run P w=.ok () w:=by unfold eqGuard; rfl
  have e2:(binOp .neq T (.bool a) (.bool b)).run P w=.ok (.bool (!(a == b))) w:=by
   have:binOp .neq T (.bool a) (.bool b)=(do Pure.pure (.bool (!(<-Op.equalIn (9999+1) T (.bool a) (.bool b))))):=rfl
   rw [this,run_bind,zqo hT]; rfl
  simp only [execOp,ha.eval hx,ha.eval hy,run_bind,e1,e2]; rfl) h
end
def zdy:Value->List Value
 | .agg cs=>cs.toList
 | v=>[v]
theorem zi1 (v:Value):v.cells.toList=zdy v:=by cases v<;>rfl
def putL:List Value->Nat->List Value->List Value
 | cs,_,[]=>cs
 | cs,off,v :: r=>putL (cs.set off v) (off+1) r
def bldL (pl:Nat->Option (Nat×Nat)):List Value->List (Nat×Value)->Option (List Value)
 | cells,[]=>some cells
 | cells,(i,v) :: r=>match pl i with
  | some (off,size)=>bif Nat.beq (zdy v).length size && Nat.ble (off+size) cells.length then bldL pl (putL cells off (zdy v)) r else none
  | none=>none
theorem zm2:∀ (vs:List Value) (off j:Nat) (cs:Array Value),(vs.zipIdx j).foldl (fun cs (x:Value×Nat)=>cs.setIfInBounds (off+x.2) x.1) cs=(putL cs.toList (off+j) vs).toArray
 | [],off,j,cs=>by simp [putL]
 | v :: r,off,j,cs=>by
  rw [List.zipIdx_cons,List.foldl_cons,zm2 r]
  simp [putL,Nat.add_assoc]
theorem zhn (pl:Nat->Option (Nat×Nat)):∀ (parts:List (Nat×Value)) (cells cs:List Value),bldL pl cells parts=some cs->Instr.fill pl cells.toArray parts=some cs.toArray
 | [],cells,cs,h=>by simp [bldL] at h; simp [Instr.fill,h]
 | (i,v) :: r,cells,cs,h=>by
  simp only [bldL] at h
  cases hp:pl i with
  | none=>rw [hp] at h; cases h
  | some os =>
   obtain ⟨off,size⟩:=os
   rw [hp] at h
   dsimp only at h
   cases hc:(Nat.beq (zdy v).length size && Nat.ble (off+size) cells.length) with
   | false=>rw [hc] at h; cases h
   | true =>
    rw [hc] at h
    simp only [cond_true] at h
    simp only [Bool.and_eq_true] at hc
    have h1:=Nat.eq_of_beq_eq_true hc.1
    have h2:=Nat.le_of_ble_eq_true hc.2
    have hsz:v.cells.size=size:=by rw [<-h1,<-zi1]; simp
    have ih:=zhn pl r _ _ h
    simp only [Instr.fill,hp]
    have hcond:(v.cells.size != size || decide (off+v.cells.size > cells.toArray.size))=false:=by
     simp [hsz]; omega
    simp only [hsz,ne_eq,not_true,decide_false,Bool.false_or,decide_eq_true_eq]
    rw [Zn (by simp; omega)]
    have hf:v.cells.zipIdx.foldl (fun cs x=>cs.setIfInBounds (off+x.2) x.1) cells.toArray=(putL cells off (zdy v)).toArray:=by
     rw [<-Array.foldl_toList,Array.toList_zipIdx,zi1]
     have:=zm2 (zdy v) off 0 cells.toArray
     simpa using this
    exact (congrArg (fun a=>Instr.fill pl a r) hf).trans ih
def zbm (P:Program) (T:TypeId) (pl:List (Nat×Nat)):Bool :=
 match P.underlying T with
 | some (.struct fs)=>go fs.toList pl
 | _=>false
where go:List Field->List (Nat×Nat)->Bool
 | [],[]=>true
 | f :: r,(off,size) :: s=>Nat.beq f.offset off && (match P.info? f.type with | some i=>Nat.beq i.size size | none=>false) && go r s
 | _,_=>false
theorem zkv {w:World}:∀ (fs:List Field) (pl:List (Nat×Nat)),zbm.go P fs pl=true->(fs.mapM (m:=Sem) fun f=>do Pure.pure (f.offset,<-sizeOf f.type)).run P w=.ok pl w
 | [],[],_=>rfl
 | f :: r,(off,size) :: s,h=>by
  simp only [zbm.go,Bool.and_eq_true] at h
  obtain ⟨⟨h1,h2⟩,h3⟩:=h
  have e1:=Nat.eq_of_beq_eq_true h1
  split at h2
  ·rename_i i hi
   have e2:=Nat.eq_of_beq_eq_true h2
   simp only [List.mapM_cons,run_bind,za8 hi,run_pure,zkv r s h3,e1,e2]
  ·cases h2
 | [],_ :: _,h=>by cases h
 | _ :: _,[],h=>by cases h
theorem TL.bld {pl:List (Nat×Nat)} {parts:List (Nat×Operand)} {zv:Value} (zs vs cs:List Value) (hz:zbI P T=some zv) (hp:zbm P T pl=true) (hx:evs env (parts.map (·.2)) vs)
  (hc:zv.cells=zs.toArray/\bldL (fun i=>pl[i]?) zs ((parts.map (·.1)).zip vs)=some cs) (hg:zag ops env g=some true) (hd:okD n d=true)
  (h:TL P w0 R n ks L0 ops Q rest (setE env d (.agg cs.toArray)) L):TL P w0 R n ks L0 ops Q ((fl,⟨d,.build T parts.toArray,ty,ps,af,g⟩) :: rest) env L:=by
 refine TL.pure hg hd (fun a w ha=>?_) h
 have hev:=ha.evals hx
 have hparts:(parts.toArray.map fun (p:Nat×Operand)=>(p.1,a.eval p.2)).toList=(parts.map (·.1)).zip vs:=by
  rw [<-hev]; simp [List.zip_map']
 unfold zbm at hp
 split at hp
 ·rename_i fs hfs
  have hpl:=zkv (w:=w) _ _ hp
  have hm:(fs.mapM (m:=Sem) fun f=>do Pure.pure (f.offset,<-sizeOf f.type)).run P w=.ok pl.toArray w:=by
   have:fs=fs.toList.toArray:=rfl
   rw [this,List.mapM_toArray,zrB,hpl]
  have hfill:=zhn _ _ _ _ hc.2
  have hpf:(fun (i:Nat)=>pl.toArray[i]?)=fun i=>pl[i]?:=by funext i; simp
  simp only [execOp,run_bind,Instr.build,zb6 hz,zaj hfs,hm]
  rw [hparts]
  simp only [hpf,hc.1,hfill]
  rfl
 ·cases hp
theorem TL.bldA {len E size:Nat} {parts:List (Nat×Operand)} {zv:Value} (zs vs cs:List Value) (hz:zbI P T=some zv) (hp:znk P T len E size=true) (hx:evs env (parts.map (·.2)) vs)
  (hc:zv.cells=zs.toArray/\bldL (fun i=>some (i * size,size)) zs ((parts.map (·.1)).zip vs)=some cs) (hg:zag ops env g=some true) (hd:okD n d=true)
  (h:TL P w0 R n ks L0 ops Q rest (setE env d (.agg cs.toArray)) L):TL P w0 R n ks L0 ops Q ((fl,⟨d,.build T parts.toArray,ty,ps,af,g⟩) :: rest) env L:=by
 refine TL.pure hg hd (fun a w ha=>?_) h
 have hev:=ha.evals hx
 have hparts:(parts.toArray.map fun (p:Nat×Operand)=>(p.1,a.eval p.2)).toList=(parts.map (·.1)).zip vs:=by
  rw [<-hev]; simp [List.zip_map']
 obtain ⟨i,h1,h2,h3⟩:=zj3 hp
 have hfill:=zhn _ _ _ _ hc.2
 simp only [execOp,run_bind,Instr.build,zb6 hz,zaj h1,za8 h2,h3]
 rw [hparts]
 simp only [hc.1,hfill]
 rfl
theorem TL.fvA (off t m:Nat) {f:Nat} {S:TypeId} {cs:Array Value} (vs:List Value) (hx:evO env x=some (.agg cs)) (hF:zm3 P S f off t=true) (hT:aggB P t m=true) (hv:lkCs cs off m=some vs) (hg:zag ops env g=some true) (hd:okD n d=true)
  (h:TL P w0 R n ks L0 ops Q rest (setE env d (.agg vs.toArray)) L):TL P w0 R n ks L0 ops Q ((fl,⟨d,.field S x f,ty,ps,af,g⟩) :: rest) env L:=by
 obtain ⟨fs,fd,h1,h2,h3,h4⟩:=zkD hF
 obtain ⟨dd,i,h5,h6,h7,h8⟩:=zf4 hT
 refine TL.pure hg hd (fun a w ha=>?_) h
 subst h4
 have hx':∀ (m off:Nat) (vs:List Value),lkCs cs off m=some vs->cs.extract off (off+m)=vs.toArray:=by
  intro m
  induction m with
  | zero=>intro off vs h; simp [lkCs] at h; subst h; apply Array.ext'; simp [List.extract_eq_take_drop]
  | succ m ih =>
   intro off vs h
   simp only [lkCs] at h
   cases hc':nth cs.toList off with
   | none=>rw [hc'] at h; cases h
   | some v =>
    rw [hc'] at h
    have hc:=nthA hc'
    cases hr:lkCs cs (off+1) m with
    | none=>rw [hr] at h; cases h
    | some r =>
     rw [hr] at h; cases h
     have:=ih (off+1) r hr
     obtain ⟨hlt,he⟩:=Array.getElem?_eq_some_iff.1 hc
     have e1:off+(m+1)=off+1+m:=by omega
     rw [e1]
     apply Array.ext'
     have ht:=congrArg Array.toList this
     simp only [Array.toList_extract,List.extract_eq_take_drop] at ht ⊢
     have e2:off+1+m - off=m+1:=by omega
     have e3:off+1+m - (off+1)=m:=by omega
     rw [e2]; rw [e3] at ht
     rw [List.drop_eq_getElem_cons (by simpa using hlt),List.take_succ_cons,ht]
     simp [he]
 have:=hx' m off vs hv
 simp [execOp,Instr.field,zaj h1,h2,ha.eval hx,asAgg,part,zc5 h5,h6,h3,za8 h7,h8,this]
def ziE (P:Program) (T:TypeId):Bool :=
 match P.underlying T with
 | some (.interface _)=>false
 | some _=>true
 | none=>false
theorem TL.miN (hx:evO env x=some v) (hT:ziE P T=true) (hg:zag ops env g=some true) (hd:okD n d=true)
  (h:TL P w0 R n ks L0 ops Q rest (setE env d (.iface T v)) L):TL P w0 R n ks L0 ops Q ((fl,⟨d,.makeInterface T x,ty,ps,af,g⟩) :: rest) env L:=by
 unfold ziE at hT
 split at hT
 ·cases hT
 ·rename_i D hne hD
  exact TL.mi hx hD (fun ms e=>hne ms e) hg hd h
 ·cases hT
def Meth (P:Program) (recv:Value) (name:String) (f:FuncId) (recv':Value):Prop :=
 ∀ (args:Array Value) (w:World),(callMethod recv name args).run P w=.ok (.enter f (#[recv']++args)) w
theorem TL.inv {f:FuncId} {recv recv':Value} {m:String} {xs:List Operand} {at':Array TypeId} {vs:List Value} {As:List Assn} {Φ:Value->List Assn->Prop} (ids ids':List Nat) (hm:Meth P recv m f recv') (hx:evO env x=some recv) (hc:Fn P f (recv' :: vs) As Φ)
  (hvs:evs env xs vs) (hAs:lks L ids As) (hn:zcp ids'=true) (hp:zfe ids ids'=true) (hg:zag ops env g=some true) (hd:okD n d=true)
  (h:∀ v Bs,Φ v Bs->ids'.length=Bs.length/\Keep L0 (labs ids' Bs L) ks/\TL P w0 R n ks L0 ops Q rest (setE env d v) (labs ids' Bs L)) :
  TL P w0 R n ks L0 ops Q ((false,⟨d,.call ⟨.invoke x m,xs.toArray,at'⟩,ty,ps,af,g⟩) :: rest) env L :=
 TL.enter ids ids' hg hd (fun a w ha _=>by
  have:=hm vs.toArray w
  simp only [execOp,run_bind,resolve,List.map_toArray,ha.eval hx,ha.evals hvs,run_pure,invoke]
  simpa using this) hc hn hp hAs h
theorem TL.ixS {k:IntKind} {i:Int} {s:ByteArray} (c:Int) (hx:evO env x=some (.string s)) (hy:evO env y=some (.int k i)) (hT:P.underlying T=some .string) (h0:0<=i)
  (hv:(s[i.toNat]?).map (fun b=>(b.toNat:Int))=some c) (hg:zag ops env g=some true) (hd:okD n d=true)
  (h:TL P w0 R n ks L0 ops Q rest (setE env d (.int .u8 c)) L):TL P w0 R n ks L0 ops Q ((fl,⟨d,.index T x y,ty,ps,af,g⟩) :: rest) env L:=by
 refine TL.pure hg hd (fun a w ha=>?_) h
 cases hs:s[i.toNat]? with
 | none=>rw [hs] at hv; cases hv
 | some b =>
  rw [hs] at hv
  simp at hv
  simp [execOp,Instr.index,zaj hT,ha.eval hx,ha.eval hy,asIntOf,h0,hs,hv]
theorem bT {p:Prop} [Decidable p] (h:p):Value.bool true=.bool (decide p):=by rw [decide_eq_true h]
theorem bF {p:Prop} [Decidable p] (h:¬p):Value.bool false=.bool (decide p):=by rw [decide_eq_false h]
theorem iE {k:IntKind} {a b:Int} (h:a=b):Value.int k a=.int k b:=by rw [h]
theorem zeh {a b A B:Int} (h0:0<=a) (h1:a<=A) (h2:0<=b) (h3:b<=B):0<=a * b/\a * b<=A * B :=
 ⟨Int.mul_nonneg h0 h2,Int.mul_le_mul h1 h3 h2 (Int.le_trans h0 h1)⟩
end
open Go.RowKit
section
variable {P:Program} {w0:World} {R:Assn} {n:Nat} {Q:Exit->Act->World->Prop} {env:List (Nat×Value)} {L:List (Nat×Assn)}
variable {ks:List Nat} {L0:List (Nat×Assn)} {ops:Array Oper} {rest:List (Bool×Oper)}
variable {d:Option Tmp} {x y z:Operand} {ty T:TypeId} {ps:String} {af:Array Edge} {g:Option (Nat×Bool)}
theorem TL.callC {f:FuncId} {xs:List Operand} {at':Array TypeId} {vs c1 c2:List Value} {As Bs:List Assn} {r:Value} (ids ids':List Nat) (hx:evO env x=some (.func (.func f) c1.toArray c2.toArray)) (hc:FnD P f (c1++vs++c2) As r Bs) (hvs:evs env xs vs) (hAs:lks L ids As)
  (hf:zai P f=true) (hn:zcp ids'=true) (hp:zfe ids ids'=true) (hl:ids'.length=Bs.length) (hg:zag ops env g=some true) (hd:okD n d=true)
  (hk:Keep L0 (labs ids' Bs L) ks) (h:TL P w0 R n ks L0 ops Q rest (setE env d r) (labs ids' Bs L)) :
  TL P w0 R n ks L0 ops Q ((false,⟨d,.call ⟨.value x,xs.toArray,at'⟩,ty,ps,af,g⟩) :: rest) env L :=
 TL.enter ids ids' hg hd (fun a w ha _=>by
  have e:(c1.toArray++vs.toArray++c2.toArray)=(c1++vs++c2).toArray:=by simp
  simp only [execOp,run_bind,resolve,List.map_toArray,ha.eval hx,ha.evals hvs,Deferred.ofValue,run_pure,invoke]
  rw [e]; exact zet hf) hc hn hp hAs (by rintro v Bs' ⟨rfl,rfl⟩; exact ⟨hl,hk,h⟩)
end
end Go.Eng
namespace Go.Eng
open Go.Tm
structure MemI (P:Program) {S:Type} [MemLike S] (mt:TypeId) (mv:Value) (A:S->Assn):Prop where
 load:∃ f rv,Meth P (.iface mt mv) "Load" f rv/\∀ σ i,Room 1 σ->FnD P f [rv,.int .i64 i] [A σ] (.int .u64 (MemLike.get σ i)) [A (MemLike.ld σ i)]
 store:∃ f rv,Meth P (.iface mt mv) "Store" f rv/\∀ σ i v,0<=v/\v<18446744073709551616->Room 1 σ->FnD P f [rv,.int .i64 i,.int .u64 v] [A σ] (.tuple #[]) [A (MemLike.st σ i v)]
section
variable {P:Program} {w0:World} {R:Assn} {n:Nat} {Q:Exit->Act->World->Prop} {env:List (Nat×Value)} {L:List (Nat×Assn)}
variable {ks:List Nat} {L0:List (Nat×Assn)} {ops:Array Oper} {rest:List (Bool×Oper)}
variable {d:Option Tmp} {x y z:Operand} {ty T:TypeId} {ps:String} {af:Array Edge} {g:Option (Nat×Bool)}
variable {S:Type} [MemLike S] {mt:TypeId} {mv:Value} {A:S->Assn}
theorem TL.mload (k:Nat) (hM:MemI P mt mv A) {σ:S} {i:Int} {at':Array TypeId} (hx:evO env x=some (.iface mt mv)) (hi:evO env y=some (.int .i64 i)) (hL:lk L k=some (A σ)) (hg:zag ops env g=some true) (hd:okD n d=true)
  (hk:Keep L0 ((k,A (MemLike.ld σ i)) :: L) ks) (h:TL P w0 R n ks L0 ops Q rest (setE env d (.int .u64 (MemLike.get σ i))) ((k,A (MemLike.ld σ i)) :: L)) (hz:Room 1 σ:=by exact zaD) :
  TL P w0 R n ks L0 ops Q ((false,⟨d,.call ⟨.invoke x "Load",#[y],at'⟩,ty,ps,af,g⟩) :: rest) env L:=by
 obtain ⟨f,rv,hm,hc⟩:=hM.load
 exact TL.inv (xs:=[y]) (vs:=[.int .i64 i]) [k] [k] hm hx (hc σ i hz) ⟨hi,trivial⟩ ⟨hL,trivial⟩ rfl (by simp [zfe,Nat.beq_refl]) hg hd (by rintro v Bs ⟨rfl,rfl⟩; exact ⟨rfl,hk,h⟩)
theorem TL.mstore (k:Nat) (hM:MemI P mt mv A) {σ:S} {i v:Int} {at':Array TypeId} (hx:evO env x=some (.iface mt mv)) (hi:evO env y=some (.int .i64 i)) (hv:evO env z=some (.int .u64 v)) (hr:0<=v/\v<18446744073709551616)
  (hL:lk L k=some (A σ)) (hg:zag ops env g=some true) (hd:okD n d=true)
  (hk:Keep L0 ((k,A (MemLike.st σ i v)) :: L) ks) (h:TL P w0 R n ks L0 ops Q rest (setE env d (.tuple #[])) ((k,A (MemLike.st σ i v)) :: L)) (hz:Room 1 σ:=by exact zaD) :
  TL P w0 R n ks L0 ops Q ((false,⟨d,.call ⟨.invoke x "Store",#[y,z],at'⟩,ty,ps,af,g⟩) :: rest) env L:=by
 obtain ⟨f,rv,hm,hc⟩:=hM.store
 exact TL.inv (xs:=[y,z]) (vs:=[.int .i64 i,.int .u64 v]) [k] [k] hm hx (hc σ i v hr hz) ⟨hi,hv,trivial⟩ ⟨hL,trivial⟩ rfl (by simp [zfe,Nat.beq_refl]) hg hd (by rintro v Bs ⟨rfl,rfl⟩; exact ⟨rfl,hk,h⟩)
end
theorem zcV (x:Int):0<=IntKind.u64.wrap x/\IntKind.u64.wrap x<18446744073709551616:=by
 unfold IntKind.wrap IntKind.bits IntKind.signed; simp only [Bool.false_and,Bool.false_eq_true,if_false]; omega
theorem zun (op:BinOp) (a b:Int):0<=zgv op .u64 a b/\zgv op .u64 a b<18446744073709551616:=by unfold zgv; split<;>exact zcV _
theorem zby (a b:Int):0<=orU a b/\orU a b<18446744073709551616:=zun _ _ _
end Go.Eng
namespace Go.Eng
def zbj {α:Type} (A:Assn) (enc:α->List Value) (k b off n:Nat) (f:Nat->α):Prop :=
 ∀ h,A h->∀ i,i<n->∃ cs T fz,h b=some (.cells cs T fz)/\lkCs cs (off+i * k) k=some (enc (f i))
theorem zbj.drop {α:Type} {A:Assn} {enc:α->List Value} {k b off n:Nat} {f:Nat->α} (h:zbj A enc k b off n f) (m n':Nat) (hm:m+n'<=n):zbj A enc k b (off+m * k) n' (fun i=>f (m+i)):=by
 intro x hx i hi
 obtain ⟨cs,T,fz,h1,h2⟩:=h x hx (m+i) (by omega)
 refine ⟨cs,T,fz,h1,?_⟩
 rw [<-h2,Nat.add_mul,<-Nat.add_assoc]
def rowW {α:Type} [Inhabited α] (enc:α->List Value) (k b off n:Nat) (d:Array α):Assn:=fun h =>
 n=0\/∃ cs T,h b=some (.cells cs T)/\off+n * k<=cs.size/\d.size=n/\∀ i,i<n->lkCs cs (off+i * k) k=some (enc d[i]!)
theorem zcw {α:Type} [Inhabited α] {enc:α->List Value} {k b off n:Nat} {d:Array α}:zbj (rowW enc k b off n d) enc k b off n (fun i=>d[i]!):=by
 intro h hA i hi
 rcases hA with hA | ⟨cs,T,h1,_,_,h2⟩
 ·omega
 ·exact ⟨cs,T,(0,0),h1,h2 i hi⟩
theorem zhN {cs cs':Array Value}:∀ {m off:Nat},(∀ j,off<=j->j<off+m->cs'[j]?=cs[j]?)->lkCs cs' off m=lkCs cs off m
 | 0,_,_=>rfl
 | m+1,off,h=>by
  have h0:=h off (Nat.le_refl _) (by omega)
  have ih:=zhN (cs:=cs) (cs':=cs') (m:=m) (off:=off+1) (fun j h1 h2=>h j (by omega) (by omega))
  simp only [lkCs,zg8,Array.getElem?_toList,h0,ih]
theorem zmt {vs:List Value}:∀ {cs:Array Value} {off j:Nat},(j<off\/off+vs.length<=j)->(ziq cs off vs)[j]?=cs[j]?:=by
 induction vs with
 | nil=>intro cs off j _; rfl
 | cons v r ih =>
  intro cs off j h
  simp at h
  rw [ziq,ih (by omega),Array.getElem?_setIfInBounds_ne (by omega)]
theorem zu6 {vs:List Value}:∀ {cs:Array Value} {off:Nat},off+vs.length<=cs.size->lkCs (ziq cs off vs) off vs.length=some vs:=by
 induction vs with
 | nil=>intro cs off _; rfl
 | cons v r ih =>
  intro cs off h
  simp at h
  have h1:=ih (cs:=cs.setIfInBounds off v) (off:=off+1) (by simp; omega)
  have h0:(ziq (cs.setIfInBounds off v) (off+1) r)[off]?=some v:=by
   rw [zmt (by omega)]
   rw [Array.getElem?_setIfInBounds_self_of_lt (by omega)]
  simp only [List.length_cons,lkCs,ziq,zg8,Array.getElem?_toList,h0,h1]
theorem zx8 {i j k:Nat} (h:i≠j):i * k+k<=j * k\/j * k+k<=i * k:=by
 rcases Nat.lt_or_ge i j with h1 | h1
 ·left; have:=Nat.mul_le_mul_right k (show i+1<=j by omega); rw [Nat.add_mul,Nat.one_mul] at this; exact this
 ·right; have:=Nat.mul_le_mul_right k (show j+1<=i by omega); rw [Nat.add_mul,Nat.one_mul] at this; exact this
theorem set_get! {α:Type} [Inhabited α] {d:Array α} {i j:Nat} {x:α} (hi:i<d.size):(d.setIfInBounds i x)[j]! =if i=j then x else d[j]!:=by
 rw [getElem!_def,getElem!_def,Array.getElem?_setIfInBounds]
 by_cases h:i=j
 ·subst h; simp [hi]
 ·simp [h]
section
variable {P:Program} {w0:World} {R:Assn} {n:Nat} {Q:Exit->Act->World->Prop} {env:List (Nat×Value)} {L:List (Nat×Assn)}
variable {ks:List Nat} {L0:List (Nat×Assn)} {ops:Array Oper} {rest:List (Bool×Oper)}
variable {fl:Bool} {d:Option Tmp} {x y z:Operand} {ty T:TypeId} {ps:String} {af:Array Edge} {g:Option (Nat×Bool)}
theorem Sat.some {w:World} (hs:Sat w0 L R w) {k:Nat} {A:Assn} (hk:lk L k=some A):∃ h,A h/\(∀ b o,h b=some o->w.heap[b]?=some o)/\∀ B,B h->Sat w0 ((k,B) :: L) R w:=by
 obtain ⟨f,g,s⟩:=hs.sep
 refine ⟨f k,s.holds k A hk,fun b o h=>s.sub k b o h,fun B hB=>⟨hs.os,hs.tape,hs.output,f,g,fun i C hC=>?_,s.frame,s.sub,s.gsub,s.dis,s.gdis⟩⟩
 rw [zaG] at hC
 by_cases e:k=i
 ·subst e; simp at hC; subst hC; exact hB
 ·rw [Zn e] at hC; exact s.holds i C hC
theorem TL.iaO {a:Option Addr} {b o len cap E size:Nat} {i:Nat} (hx:evO env x=some (.slice a len cap)) (ha:0<len->a=some ⟨b,o,none⟩) (hy:evO env y=some (.int .i64 (i:Int))) (hS:zcI P T E size=true) (h1:i<len)
  (hg:zag ops env g=some true) (hd:okD n d=true)
  (h:TL P w0 R n ks L0 ops Q rest (setE env d (.pointer (some ⟨b,o+i * size,none⟩))) L):TL P w0 R n ks L0 ops Q ((fl,⟨d,.indexAddr T x y,ty,ps,af,g⟩) :: rest) env L:=by
 rw [ha (by omega)] at hx
 exact TL.ia _ hx hy hS (by omega) (by omega) Z hg hd h
theorem TL.ldR {α:Type} (k:Nat) {A:Assn} {enc:α->List Value} {m b off len:Nat} {f:Nat->α} {i:Nat} (hx:evO env x=some (.pointer (some ⟨b,off+i * m,none⟩)))
  (hL:lk (bif fl then sel L0 ks else L) k=some A) (hA:zbj A enc m b off len f) (hi:i<len) (hT:aggB P T m=true) (hg:zag ops env g=some true) (hd:okD n d=true)
  (h:TL P w0 R n ks L0 ops Q rest (setE env d (.agg (enc (f i)).toArray)) L):TL P w0 R n ks L0 ops Q ((fl,⟨d,.load T x,ty,ps,af,g⟩) :: rest) env L:=by
 refine TL.val (v:=.agg (enc (f i)).toArray) Z hg hd (fun a w ha h1 h2=>?_) h
 have hb:∃ cs T fz,w.heap[b]?=some (.cells cs T fz)/\lkCs cs (off+i * m) m=some (enc (f i)):=by
  cases fl with
  | true =>
   obtain ⟨x,hx,hs,_⟩:=Sat.some (h2 rfl) hL
   obtain ⟨cs,T,fz,h3,h4⟩:=hA x hx i hi
   exact ⟨cs,T,fz,hs _ _ h3,h4⟩
  | false =>
   obtain ⟨x,hx,hs,_⟩:=Sat.some (h1 rfl) hL
   obtain ⟨cs,T,fz,h3,h4⟩:=hA x hx i hi
   exact ⟨cs,T,fz,hs _ _ h3,h4⟩
 obtain ⟨cs,T',fz,hb,hv⟩:=hb
 obtain ⟨dd,i',h3,h4,h5,h6⟩:=zf4 hT
 have hl:=zfj (P:=P) (off:=off+i * m) hb m 0 [] _ (by simpa using hv)
 simp only [List.nil_append] at hl
 simp [execOp,run_bind,Instr.loadAt,Instr.sureAddr,ha.eval hx,loadVar,zc5 h3,h4,za8 h5,h6,loadCells,hl]
theorem TL.ldRx {α:Type} (k:Nat) (vs:List Value) {A:Assn} {enc:α->List Value} {m b off len:Nat} {f:Nat->α} {i:Nat} (hx:evO env x=some (.pointer (some ⟨b,off+i * m,none⟩)))
  (hL:lk (bif fl then sel L0 ks else L) k=some A) (hA:zbj A enc m b off len f) (hi:i<len) (hv:enc (f i)=vs) (hT:aggB P T m=true) (hg:zag ops env g=some true) (hd:okD n d=true)
  (h:TL P w0 R n ks L0 ops Q rest (setE env d (.agg vs.toArray)) L):TL P w0 R n ks L0 ops Q ((fl,⟨d,.load T x,ty,ps,af,g⟩) :: rest) env L:=by
 subst hv; exact TL.ldR k hx hL hA hi hT hg hd h
end
section
variable {P:Program} {w0:World} {R:Assn} {n:Nat} {Q:Exit->Act->World->Prop} {env:List (Nat×Value)} {L:List (Nat×Assn)}
end
theorem zd1 {cs:Array Value}:∀ {m off:Nat} {vs:List Value},lkCs cs off m=some vs->vs.length=m/\∀ j,j<m->cs[off+j]?=vs[j]?
 | 0,off,vs,h=>by simp [lkCs] at h; subst h; exact ⟨Z,fun j hj=>absurd hj (Nat.not_lt_zero _)⟩
 | m+1,off,vs,h=>by
  simp only [lkCs] at h
  cases h1:nth cs.toList off with
  | none=>rw [h1] at h; cases h
  | some v =>
   cases h2:lkCs cs (off+1) m with
   | none=>rw [h1,h2] at h; cases h
   | some r =>
    rw [h1,h2] at h
    cases h
    obtain ⟨h3,h4⟩:=zd1 h2
    refine ⟨by simp [h3],fun j hj=>?_⟩
    cases j with
    | zero=>simpa using nthA h1
    | succ j =>
     have:=h4 j (by omega)
     rw [List.getElem?_cons_succ,<-this]
     congr 1; omega
theorem zru {cs:Array Value} {vs:List Value} (h:cs.size=vs.length):ziq cs 0 vs=vs.toArray:=by
 have h1:=zu6 (vs:=vs) (cs:=cs) (off:=0) (by omega)
 obtain ⟨_,h2⟩:=zd1 h1
 apply Array.ext_getElem?
 intro j
 rcases Nat.lt_or_ge j vs.length with hj | hj
 ·have:=h2 j hj; rw [Nat.zero_add] at this; simpa using this
 ·rw [Array.getElem?_eq_none (by rw [zko]; omega),Array.getElem?_eq_none (by simpa using hj)]
section
variable {P:Program} {w0:World} {R:Assn} {n:Nat} {Q:Exit->Act->World->Prop} {env:List (Nat×Value)} {L:List (Nat×Assn)}
variable {ks:List Nat} {L0:List (Nat×Assn)} {ops:Array Oper} {rest:List (Bool×Oper)}
variable {d:Option Tmp} {x y z:Operand} {ty T:TypeId} {ps:String} {af:Array Edge} {g:Option (Nat×Bool)}
theorem TL.stW (k m:Nat) {b:Nat} {cs:Array Value} {T':TypeId} (vs:List Value) (hx:evO env x=some (.pointer (some ⟨b,0,none⟩))) (hy:evO env y=some (.agg vs.toArray)) (h1:ones vs=true) (hm:vs.length=m)
  (hL:lk L k=some (pt b (.cells cs T'))) (hb:cs.size=m) (hT:aggB P T m=true) (hg:zag ops env g=some true) (hd:okD n d=true)
  (hk:Keep L0 ((k,pt b (.cells vs.toArray T')) :: L) ks)
  (h:TL P w0 R n ks L0 ops Q rest (setE env d undef) ((k,pt b (.cells vs.toArray T')) :: L)):TL P w0 R n ks L0 ops Q ((false,⟨d,.store T x y,ty,ps,af,g⟩) :: rest) env L :=
 TL.stA k m vs.toArray vs hx hy h1 hm hL (by rw [Nat.zero_add,hb]; simp [Nat.ble_eq]) (zru (by rw [hb,hm])) hT hg hd hk h
end
theorem wrN {t c:Int} (h:-9223372036854775808<=t/\t<9223372036854775808/\t=c):IntKind.i64.wrap t=c:=by
 rw [wr64 ⟨h.1,h.2.1⟩]; exact h.2.2
def slA (a:Option Addr) (i size cap:Nat):Option Addr:=if cap=i then a else a.map fun a=>a.add (i * size)
theorem zfI {a:Option Addr} {b off len cap i size:Nat} (ha:0<len->a=some ⟨b,off,none⟩) (hc:len<=cap) (h:0<len - i):slA a i size cap=some ⟨b,off+i * size,none⟩:=by
 unfold slA
 rw [Zn (by omega),ha (by omega)]
 exact congrArg some (zgn _ _ _)
section
variable {P:Program} {w0:World} {R:Assn} {n:Nat} {Q:Exit->Act->World->Prop} {env:List (Nat×Value)} {L:List (Nat×Assn)}
variable {ks:List Nat} {L0:List (Nat×Assn)} {ops:Array Oper} {rest:List (Bool×Oper)}
variable {fl:Bool} {d:Option Tmp} {x y z:Operand} {ty T z':TypeId} {ps:String} {af:Array Edge} {g:Option (Nat×Bool)}
theorem TL.slLo {a:Option Addr} {len cap E size i:Nat} (hx:evO env x=some (.slice a len cap)) (hy:evO env y=some (.int .i64 (i:Int))) (hS:zcI P T E size=true) (h1:i<=len) (hg:zag ops env g=some true) (hd:okD n d=true)
  (h:TL P w0 R n ks L0 ops Q rest (setE env d (.slice (slA a i size cap) (len - i) (cap - i))) L):TL P w0 R n ks L0 ops Q ((fl,⟨d,.slice T x (some y) none none,ty,ps,af,g⟩) :: rest) env L:=by
 obtain ⟨ii,h2,h3,h4⟩:=zbP hS
 refine TL.pure hg hd (fun a' w ha=>?_) h
 have hi:(0:Int)<=(i:Int)/\(i:Int)<=(len:Int):=by omega
 simp [execOp,run_bind,Instr.sliceAt,Instr.slice,zaj h2,ha.eval hx,ha.eval hy,Instr.sliceBounds,Instr.sliceBound,asIntOf,hi,za8 h3,h4,slA]
 intro hlt; omega
theorem TL.slHi {a:Option Addr} {len cap E size i:Nat} (hx:evO env x=some (.slice a len cap)) (hy:evO env y=some (.int .i64 (i:Int))) (hS:zcI P T E size=true) (h1:i<=cap) (hg:zag ops env g=some true) (hd:okD n d=true)
  (h:TL P w0 R n ks L0 ops Q rest (setE env d (.slice (slA a 0 size cap) i cap)) L):TL P w0 R n ks L0 ops Q ((fl,⟨d,.slice T x none (some y) none,ty,ps,af,g⟩) :: rest) env L:=by
 obtain ⟨ii,h2,h3,h4⟩:=zbP hS
 refine TL.pure hg hd (fun a' w ha=>?_) h
 have hi:(0:Int)<=(i:Int)/\(i:Int)<=(cap:Int):=by omega
 simp [execOp,run_bind,Instr.sliceAt,Instr.slice,zaj h2,ha.eval hx,ha.eval hy,Instr.sliceBounds,Instr.sliceBound,asIntOf,hi,za8 h3,h4,slA]
 intro hlt; omega
theorem TL.nilS {a:Option Addr} {len cap E size:Nat} (hx:evO env x=some (.slice a len cap)) (hy:evO env y=some (.slice none 0 0)) (hS:zcI P T E size=true) (hg:zag ops env g=some true) (hd:okD n d=true)
  (h:TL P w0 R n ks L0 ops Q rest (setE env d (.bool a.isNone)) L):TL P w0 R n ks L0 ops Q ((fl,⟨d,.binOp .eql T x y z',ty,ps,af,g⟩) :: rest) env L:=by
 obtain ⟨ii,h2,h3,h4⟩:=zbP hS
 refine TL.pure hg hd (fun a' w ha=>?_) h
 have hr:=Lib.run_eql_slice_nil (P:=P) w T E a len cap 0 0 h2
 simp [execOp,run_bind,ha.eval hx,ha.eval hy,hr,eqGuard,zaj h2]
end
def ownA {α:Type} [Inhabited α] (enc:α->List Value) (m e:Nat) (v:Value) (d:Array α):Assn:=fun h =>
 (v=.slice none 0 0/\d.size=0)\/∃ g cap cur,v=.slice (some ⟨g,0,none⟩) d.size cap/\h g=some (.cells cur e)/\d.size<=cap/\cap<=maxLen/\cur.size=cap * m/\∀ i,i<d.size->lkCs cur (i * m) m=some (enc d[i]!)
theorem zfR {cs:Array Value}:∀ {m off:Nat} {vs:List Value},vs.length=m->(∀ j,j<m->cs[off+j]?=vs[j]?)->lkCs cs off m=some vs
 | 0,off,vs,hl,_=>by
  have:vs=[]:=List.eq_nil_of_length_eq_zero hl
  subst this; rfl
 | m+1,off,[],hl,_=>by simp at hl
 | m+1,off,v :: r,hl,h=>by
  have h0:=h 0 (by omega)
  have ih:=zfR (cs:=cs) (m:=m) (off:=off+1) (vs:=r) (by simpa using hl) (fun j hj=>by
   have:=h (j+1) (by omega)
   rw [List.getElem?_cons_succ] at this
   rw [<-this]; congr 1; omega)
  have h1:nth cs.toList off=some v:=by rw [zg8]; simpa using h0
  simp only [lkCs,h1,ih]
theorem zrF {α:Type} {enc:α->List Value} {m off n:Nat} {f:Nat->α} {cs:Array Value} (hm:0<m) (h:∀ i,i<n->lkCs cs (off+i * m) m=some (enc (f i))) (hn:0<n):off+n * m<=cs.size:=by
 obtain ⟨h1,h2⟩:=zd1 (h (n - 1) (by omega))
 have h3:=h2 (m - 1) (by omega)
 have h4:(enc (f (n - 1)))[m - 1]?≠none:=by rw [List.getElem?_eq_getElem (by omega)]; simp
 rw [<-h3] at h4
 have h5:off+(n - 1) * m+(m - 1)<cs.size:=by
  rcases Nat.lt_or_ge (off+(n - 1) * m+(m - 1)) cs.size with h | h
  ·exact h
  ·exact absurd (Array.getElem?_eq_none h) h4
 have h6:(n - 1) * m+m=n * m:=by rw [<-Nat.succ_mul]; congr 1; omega
 omega
theorem zzG {P : Program} (w : World) (t ty e : TypeId) (i : TypeInfo) (z : Value) (m : Nat) (ht : P.underlying t = some (.slice e)) (hi : P.info? e = some i) (hz : i.zero = some z) (hsize : i.size = m) (hzs : z.cells.size = m) (hm : 0 < m)
    (v : Value) (n : Nat) (xs : List Value) (hx : xs.length = n * m)
    (hown : (v = .slice none 0 0/\n = 0)\/∃ g cap cur, v = .slice (some ⟨g, 0, none⟩) n cap/\w.heap[g]? = some (.cells cur e)/\n <= cap/\cap <= maxLen/\cur.size = cap * m/\cur.toList.take (n * m) = xs)
    (a : Addr) (mm c : Nat) (news : List Value) (hl : news.length = mm * m) (hnews : ∀ j u, news[j]? = some u -> w.cell? (a.add j) = some u) (h1 : ∀ u ∈ news, u.oneCell' = true) (h63 : n + mm <= maxLen) (hbytes : (n + mm) * i.bytes <= 140737488355328) :
    ∃ v' w', (Builtin.append_ #[t, t] ty #[v, .slice (some a) mm c]).run P w = .ok v' w' /\
      ((v = .slice none 0 0/\v' = v/\w' = w/\mm = 0) \/
       (∃ g cap cur, v = .slice (some ⟨g, 0, none⟩) n cap/\w.heap[g]? = some (.cells cur e)/\v' = .slice (some ⟨g, 0, none⟩) (n + mm) cap/\n + mm <= cap/\cap <= maxLen/\cur.size = cap * m/\cur.toList.take (n * m) = xs /\
          w' = w.setRow g (cur.toList.take (n * m) ++ news ++ cur.toList.drop (n * m + news.length)).toArray) \/
       (∃ cap cs, v' = .slice (some ⟨w.heap.size, 0, none⟩) (n + mm) cap/\w' = w.drew.alloc (.cells cs e)/\n + mm <= cap/\cap <= maxLen/\cs.size = cap * m/\∃ more, cs = (xs ++ news ++ more).toArray)) := by
  subst hsize
  have hsmall : n + mm <= 9223372036854775807 := by simp only [maxLen] at h63; omega
  rcases hown with ⟨rfl, rfl⟩ | ⟨g, cap, cur, rfl, hg, hnc, hcm, hcs, htake⟩
  · have hx0 : xs = [] := List.eq_nil_of_length_eq_zero (by simpa using hx)
    subst hx0
    by_cases h0 : mm = 0
    · subst h0
      refine ⟨_, w, ?_, .inl ⟨Z, Z, Z, Z⟩⟩
      simp [Builtin.append_, zaj ht, sizeOf, typeInfo, hi, Builtin.lenOf, Builtin.firstCells, loadCells, loadCellsFrom]
    · have hr := run_append_nil (P := P) w t ty e i z ht hi hz a mm c news hl hnews (by omega) (by omega) (by simp only [Nat.zero_add] at hbytes; omega)
      refine ⟨_, _, hr, .inr (.inr ⟨grownCap w mm 0 e, _, by rw [Nat.zero_add], Z, by rw [Nat.zero_add]; exact grownCap_ge w mm 0 e, grownCap_le_maxLen w mm 0 e (by omega), ?_, (Builtin.zeroCells z.cells (grownCap w mm 0 e - mm)).toList, ?_⟩)⟩
      · have := grownCap_ge w mm 0 e
        simp only [Array.size_append, List.size_toArray, size_zeroCells, hzs, hl, <- Nat.add_mul]
        congr 1; omega
      · apply Array.ext'; simp
  · by_cases hroom : n + mm <= cap
    · have hfit : n * i.size + news.length <= cur.size := by rw [hl, hcs, <- Nat.add_mul]; exact Nat.mul_le_mul_right _ hroom
      have hr := run_append_room (P := P) w t ty e i ht hi g n cap cur hg a mm c news hl hnews h1 hroom hfit
      exact ⟨_, _, hr, .inr (.inl ⟨g, cap, cur, Z, hg, Z, hroom, hcm, hcs, htake, Z⟩)⟩
    · have hown' : w.ownsRow 0 e i.size (.slice (some ⟨g, 0, none⟩) n cap) n xs := ⟨hx, .inr ⟨g, cap, cur, Z, Nat.zero_le _, hg, hnc, hcm, hcs, htake⟩⟩
      have holds : ∀ j u, xs[j]? = some u -> w.cell? ((⟨g, 0, none⟩ : Addr).add j) = some u := hown'.cells (g := g) Z
      have hr := run_append_grow (P := P) w t ty e i z ht hi hz ⟨g, 0, none⟩ n cap xs hx holds a mm c news hl hnews (by omega) (by omega) (growslice_fits (by omega) hbytes)
      refine ⟨_, _, hr, .inr (.inr ⟨grownCap w (n + mm) cap e, _, Z, Z, grownCap_ge w (n + mm) cap e, grownCap_le_maxLen w (n + mm) cap e h63, ?_, (Builtin.zeroCells z.cells (grownCap w (n + mm) cap e - (n + mm))).toList, ?_⟩)⟩
      · have := grownCap_ge w (n + mm) cap e
        simp only [Array.size_append, List.size_toArray, size_zeroCells, hzs, hx, hl, <- Nat.add_mul]
        congr 1; omega
      · apply Array.ext'; simp
theorem app_get! {α:Type} [Inhabited α] {d1 d2:Array α} {i:Nat}:(d1++d2)[i]! =if i<d1.size then d1[i]! else d2[i - d1.size]!:=by
 rw [getElem!_def,getElem!_def,getElem!_def,Array.getElem?_append]
 by_cases h:i<d1.size
 ·rw [Zp h,Zp h]
 ·rw [Zn h,Zn h]
theorem zu8 {α:Type} [Inhabited α] {enc:α->List Value} {m:Nat} {d1 d2:Array α} {xs news more:List Value} (he:∀ x,(enc x).length=m) (hx:xs.length=d1.size * m) (hn:news.length=d2.size * m)
  (h1:∀ i,i<d1.size->∀ r,r<m->xs[i * m+r]?=(enc d1[i]!)[r]?) (h2:∀ i,i<d2.size->∀ r,r<m->news[i * m+r]?=(enc d2[i]!)[r]?) :
  ∀ i,i<(d1++d2).size->lkCs (xs++news++more).toArray (i * m) m=some (enc (d1++d2)[i]!):=by
 intro i hi
 rw [Array.size_append] at hi
 refine zfR (he _) fun r hr=>?_
 rw [app_get!]
 have e:(xs++news++more).toArray[i * m+r]?=(xs++news++more)[i * m+r]?:=by simp
 rw [e]
 by_cases hlt:i<d1.size
 ·rw [Zp hlt,<-h1 i hlt r hr,List.append_assoc,List.getElem?_append_left]
  have:=Nat.mul_le_mul_right m (show i+1<=d1.size by omega)
  rw [Nat.add_mul,Nat.one_mul] at this; omega
 ·rw [Zn hlt,<-h2 (i - d1.size) (by omega) r hr]
  have h3:i * m=d1.size * m+(i - d1.size) * m:=by rw [<-Nat.add_mul]; congr 1; omega
  have h4:=Nat.mul_le_mul_right m (show i - d1.size+1<=d2.size by omega)
  rw [Nat.add_mul,Nat.one_mul] at h4
  rw [List.append_assoc,List.getElem?_append_right (by omega),List.getElem?_append_left (by omega)]
  congr 1; omega
theorem zrt {w:World} {b:Nat} {cs cs':Array Value} {T:TypeId} {fz:Nat×Nat} (h:w.heap[b]?=some (.cells cs T fz)):w.setRow b cs'={ w with heap:=w.heap.setIfInBounds b (.cells cs' T fz) }:=by
 obtain ⟨hlt,he⟩:=Array.getElem?_eq_some_iff.1 h
 unfold World.setRow
 congr 1
 apply Array.ext_getElem?
 intro i
 rw [Array.getElem?_modify,Array.getElem?_setIfInBounds]
 by_cases hi:b=i
 ·subst hi; simp [hlt,he]
 ·simp [hi]
section
variable {P:Program} {w0:World} {R:Assn} {n:Nat} {Q:Exit->Act->World->Prop} {env:List (Nat×Value)} {L:List (Nat×Assn)}
variable {ks:List Nat} {L0:List (Nat×Assn)} {ops:Array Oper} {rest:List (Bool×Oper)}
variable {d:Option Tmp} {x y:Operand} {ty T:TypeId} {ps:String} {af:Array Edge} {g:Option (Nat×Bool)}
theorem TL.app {α:Type} [Inhabited α] (k k2:Nat) {enc:α->List Value} {m e:Nat} {i:TypeInfo} {z:Value} {v:Value} {d1 d2:Array α} {A2:Assn} {b2 off2 c2:Nat} {ad:Addr} (hx:evO env x=some v) (hy:evO env y=some (.slice (some ad) d2.size c2)) (had:0<d2.size->some ad=some ⟨b2,off2,none⟩)
  (hL:lk L k=some (ownA enc m e v d1)) (hL2:lk L k2=some A2) (hA:zbj A2 enc m b2 off2 d2.size (fun i=>d2[i]!)) (he:∀ x,(enc x).length=m/\∀ u∈enc x,u.oneCell'=true) (hm:0<m)
  (ht:P.underlying T=some (.slice e)) (hi:P.info? e=some i) (hz:i.zero=some z) (hsize:i.size=m) (hzs:z.cells.size=m) (hsz:d1.size+d2.size<=137438953472) (hbytes:i.bytes<=1000) (hg:zag ops env g=some true) (hd:okD n d=true)
  (h:∀ v',Keep L0 ((k,ownA enc m e v' (d1++d2)) :: L) ks/\TL P w0 R n ks L0 ops Q rest (setE env d v') ((k,ownA enc m e v' (d1++d2)) :: L)) :
  TL P w0 R n ks L0 ops Q ((false,⟨d,.call ⟨.builtin .append,#[x,y],#[T,T]⟩,ty,ps,af,g⟩) :: rest) env L:=by
 refine TL.act hg hd fun a w ha hs=>?_
 obtain ⟨X,hX,hsub,hto⟩:=Sat.some hs hL
 obtain ⟨Y,hY,hsubY,_⟩:=Sat.some hs hL2
 obtain ⟨news,hnl,hnews,hone,hrow2⟩:∃ news:List Value,news.length=d2.size * m/\(∀ j u,news[j]?=some u->w.cell? (ad.add j)=some u)/\(∀ u∈news,u.oneCell'=true)/\(∀ i,i<d2.size->∀ r,r<m->news[i * m+r]?=(enc d2[i]!)[r]?):=by
  rcases Nat.eq_zero_or_pos d2.size with h0 | h0
  ·exact ⟨[],by simp [h0],by simp,by simp,fun i hi=>by omega⟩
  ·have hadd:=Option.some.inj (had h0)
   subst hadd
   obtain ⟨cs,T2,fz,hb,_⟩:=hA Y hY 0 h0
   have hall:∀ i,i<d2.size->lkCs cs (off2+i * m) m=some (enc d2[i]!):=fun i hi=>by
    obtain ⟨cs',T',fz',hb',hv⟩:=hA Y hY i hi
    rw [hb] at hb'; cases hb'; exact hv
   have hsz2:=zrF hm hall h0
   have hget:∀ j,j<d2.size * m->((cs.toList.drop off2).take (d2.size * m))[j]?=cs[off2+j]?:=fun j hj=>by
    rw [List.getElem?_take_of_lt hj,List.getElem?_drop]; simp
   have hel:∀ i,i<d2.size->∀ r,r<m->((cs.toList.drop off2).take (d2.size * m))[i * m+r]?=(enc d2[i]!)[r]?:=fun i hi r hr=>by
    have h4:=Nat.mul_le_mul_right m (show i+1<=d2.size by omega)
    rw [Nat.add_mul,Nat.one_mul] at h4
    rw [hget _ (by omega),<-Nat.add_assoc]
    exact (zd1 (hall i hi)).2 r hr
   refine ⟨(cs.toList.drop off2).take (d2.size * m),by simp; omega,fun j u hj=>?_,fun u hu=>?_,hel⟩
   ·have hlt:j<d2.size * m:=by
     have:=(List.getElem?_eq_some_iff.1 hj).1
     simp at this; omega
    rw [hget j hlt] at hj
    rw [zgn]
    simp [World.cell?,hsubY _ _ hb,hj]
   ·obtain ⟨j,hj,rfl⟩:=List.getElem_of_mem hu
    have hlt:j<d2.size * m:=by simp at hj; omega
    have hq:j / m<d2.size:=Nat.div_lt_of_lt_mul (by rw [Nat.mul_comm]; exact hlt)
    have:=hel (j / m) hq (j % m) (Nat.mod_lt _ hm)
    have e:j / m * m+j % m=j:=by rw [Nat.mul_comm]; exact Nat.div_add_mod j m
    rw [e,List.getElem?_eq_getElem hj] at this
    exact (he _).2 _ (List.mem_of_getElem? this.symm)
 obtain ⟨xs,hxl,hown,hrow1⟩:∃ xs:List Value,xs.length=d1.size * m/\((v=.slice none 0 0/\d1.size=0)\/∃ g cap cur,v=.slice (some ⟨g,0,none⟩) d1.size cap/\w.heap[g]?=some (.cells cur e)/\d1.size<=cap/\cap<=maxLen/\cur.size=cap * m/\cur.toList.take (d1.size * m)=xs) /\
   (∀ i,i<d1.size->∀ r,r<m->xs[i * m+r]?=(enc d1[i]!)[r]?):=by
  rcases hX with ⟨h3,h4⟩ | ⟨g,cap,cur,h3,h4,h5,h6,h7,h8⟩
  ·exact ⟨[],by simp [h4],.inl ⟨h3,h4⟩,fun i hi=>by omega⟩
  ·have h9:=Nat.mul_le_mul_right m h5
   refine ⟨cur.toList.take (d1.size * m),by simp; omega,.inr ⟨g,cap,cur,h3,hsub _ _ h4,h5,h6,h7,Z⟩,fun i hi r hr=>?_⟩
   have h10:=Nat.mul_le_mul_right m (show i+1<=d1.size by omega)
   rw [Nat.add_mul,Nat.one_mul] at h10
   rw [List.getElem?_take_of_lt (by omega)]
   have:=(zd1 (h8 i hi)).2 r hr
   simpa using this
 have hb:(d1.size+d2.size) * i.bytes<=140737488355328:=Nat.le_trans (Nat.mul_le_mul hsz hbytes) (by decide)
 obtain ⟨v',w',hr,hcase⟩:=zzG (P:=P) w T ty e i z m ht hi hz hsize hzs hm v d1.size xs hxl hown ad d2.size c2 news hnl hnews hone (by simp only [maxLen]; omega) hb
 have hrun:(execOp a.eval ⟨d,.call ⟨.builtin .append,#[x,y],#[T,T]⟩,ty,ps,af,g⟩).run P w=.ok (.value v') w':=by
  simp [execOp,run_bind,resolve,invoke,builtin,ha.eval hx,ha.eval hy,hr]
 have hrows:=fun more=>zu8 (more:=more) (fun x=>(he x).1) hxl hnl hrow1 hrow2
 have hsz2:(d1++d2).size=d1.size+d2.size:=Array.size_append ..
 refine ⟨v',w',_,.inl hrun,?_,(h v').1,(h v').2⟩
 rcases hcase with ⟨h3,h4,h5,h6⟩ | ⟨g,cap,cur,h3,h4,h5,h6,h7,h8,h9,h10⟩ | ⟨cap,cs,h3,h4,h5,h6,h7,more,h8⟩
 ·subst h4 h5
  refine hs.conseq hL fun y hy=>?_
  rcases hy with ⟨_,h7⟩ | ⟨g,cap,cur,h7,_⟩
  ·exact .inl ⟨h3,by rw [hsz2]; omega⟩
  ·rw [h3] at h7; cases h7
 ·subst h5 h10
  rcases hX with ⟨h11,_⟩ | ⟨g',cap',cur',h11,h12,_⟩
  ·rw [h3] at h11; cases h11
  ·rw [h3] at h11; cases h11
   rw [zrt h4]
   have hs1:=hto (pt g (.cells cur' e)) h12
   have hs2:=(hs1.put zas (.cells (cur.toList.take (d1.size * m)++news++cur.toList.drop (d1.size * m+news.length)).toArray e)).conseq (B:=ownA enc m e (.slice (some ⟨g,0,none⟩) (d1.size+d2.size) cap) (d1++d2)) zas fun y hy=>by
    refine .inr ⟨g,cap,_,by rw [hsz2],hy,by rw [hsz2]; exact h6,h7,?_,?_⟩
    ·have:=Nat.mul_le_mul_right m h6
     rw [Nat.add_mul] at this
     simp; omega
    ·rw [h9]; exact hrows _
   refine hs2.weaken fun j A hA=>?_
   rw [zaG] at hA
   by_cases ej:k=j
   ·rw [Zp ej] at hA; rw [<-hA,<-ej]; exact zas
   ·rw [Zn ej] at hA; rw [zan ej,zan ej,zan ej]; exact hA
 ·subst h3 h4
  have hs1:=(hs.drawn (w.drawn+1)).alloc k (.cells cs e)
  have hs2:=hs1.conseq (B:=ownA enc m e (.slice (some ⟨w.heap.size,0,none⟩) (d1.size+d2.size) cap) (d1++d2)) zas fun y hy=>.inr ⟨w.heap.size,cap,cs,by rw [hsz2],hy,by rw [hsz2]; exact h5,h6,h7,by rw [h8]; exact hrows _⟩
  refine hs2.weaken fun j A hA=>?_
  rw [zaG] at hA
  by_cases ej:k=j
  ·rw [Zp ej] at hA; rw [<-hA,<-ej]; exact zas
  ·rw [Zn ej] at hA; rw [zan ej,zan ej]; exact hA
end
section
variable {P:Program} {w0:World} {R:Assn} {n:Nat} {Q:Exit->Act->World->Prop} {env:List (Nat×Value)} {L:List (Nat×Assn)}
variable {ks:List Nat} {L0:List (Nat×Assn)} {ops:Array Oper} {rest:List (Bool×Oper)}
variable {d:Option Tmp} {x y:Operand} {ty T:TypeId} {ps:String} {af:Array Edge} {g:Option (Nat×Bool)}
theorem TL.bs0 {α:Type} [Inhabited α] (k:Nat) (enc:α->List Value) {E size:Nat} (hS:zcI P T E size=true) (hg:zag ops env g=some true) (hd:okD n d=true)
  (h:∀ b,Keep L0 ((k,ownA enc size E (.slice (some ⟨b,0,none⟩) 0 0) #[]) :: L) ks/\TL P w0 R n ks L0 ops Q rest (setE env d (.slice (some ⟨b,0,none⟩) 0 0)) ((k,ownA enc size E (.slice (some ⟨b,0,none⟩) 0 0) #[]) :: L)) :
  TL P w0 R n ks L0 ops Q ((false,⟨d,.buildSlice T 0 #[],ty,ps,af,g⟩) :: rest) env L:=by
 obtain ⟨ii,h2,h3,h4⟩:=zbP hS
 refine TL.act hg hd fun a w ha hs=>?_
 have hs1:=hs.alloc k (.cells #[] E)
 have hs2:=hs1.conseq (B:=ownA enc size E (.slice (some ⟨w.heap.size,0,none⟩) 0 0) #[]) zas fun y hy=>.inr ⟨w.heap.size,0,#[],Z,hy,Nat.le_refl _,Nat.zero_le _,by simp,fun i hi=>by simp at hi⟩
 refine ⟨_,_,_,.inl ?_,hs2.weaken fun j A hA=>?_,(h w.heap.size).1,(h w.heap.size).2⟩
 ·simp [execOp,run_bind,Instr.buildSlice,zaj h2,za8 h3,h4,Instr.fill,newRow]
  have e0:(Array.range 0).map (fun _=>(default:Value))=#[]:=Array.eq_empty_of_size_eq_zero (by simp)
  exact congrArg (fun c=>w.alloc (.cells c E)) e0
 ·rw [zaG] at hA
  by_cases ej:k=j
  ·rw [Zp ej] at hA; rw [<-hA,<-ej]; exact zas
  ·rw [Zn ej] at hA; rw [zan ej,zan ej]; exact hA
end
def appB (P:Program) (T e m:Nat):Bool :=
 match P.underlying T,P.info? e with
 | some (.slice e'),some i=>Nat.beq e' e && Nat.beq i.size m && Nat.ble i.bytes 1000 && (match i.zero with | some z=>Nat.beq z.cells.size m | none=>false)
 | _,_=>false
theorem zj5 {P:Program} {T e m:Nat} (h:appB P T e m=true):P.underlying T=some (.slice e)/\∃ i z,P.info? e=some i/\i.zero=some z/\i.size=m/\z.cells.size=m/\i.bytes<=1000:=by
 unfold appB at h
 split at h
 ·rename_i e' i h1 h2
  simp only [Bool.and_eq_true,Nat.beq_eq,Nat.ble_eq] at h
  obtain ⟨⟨⟨rfl,h3⟩,h4⟩,h5⟩:=h
  split at h5
  ·rename_i z hz
   exact ⟨h1,i,z,h2,hz,h3,by simpa [Nat.beq_eq] using h5,h4⟩
  ·cases h5
 ·cases h
section
variable {P:Program} {w0:World} {R:Assn} {n:Nat} {Q:Exit->Act->World->Prop} {env:List (Nat×Value)} {L:List (Nat×Assn)}
variable {ks:List Nat} {L0:List (Nat×Assn)} {ops:Array Oper} {rest:List (Bool×Oper)}
variable {d:Option Tmp} {x y:Operand} {ty T:TypeId} {ps:String} {af:Array Edge} {g:Option (Nat×Bool)}
theorem TL.appR {α:Type} [Inhabited α] (k k2:Nat) {enc:α->List Value} {m e:Nat} {v:Value} {d1 d2:Array α} {A2:Assn} {b2 off2 c2:Nat} {ad:Addr} (hx:evO env x=some v) (hy:evO env y=some (.slice (some ad) d2.size c2)) (had:0<d2.size->some ad=some ⟨b2,off2,none⟩)
  (hL:lk L k=some (ownA enc m e v d1)) (hL2:lk L k2=some A2) (hA:zbj A2 enc m b2 off2 d2.size (fun i=>d2[i]!)) (he:∀ x,(enc x).length=m/\∀ u∈enc x,u.oneCell'=true) (hm:0<m)
  (hT:appB P T e m=true) (hsz:d1.size+d2.size<=137438953472) (hg:zag ops env g=some true) (hd:okD n d=true)
  (h:∀ v',Keep L0 ((k,ownA enc m e v' (d1++d2)) :: L) ks/\TL P w0 R n ks L0 ops Q rest (setE env d v') ((k,ownA enc m e v' (d1++d2)) :: L)) :
  TL P w0 R n ks L0 ops Q ((false,⟨d,.call ⟨.builtin .append,#[x,y],#[T,T]⟩,ty,ps,af,g⟩) :: rest) env L:=by
 obtain ⟨h1,i,z,h2,h3,h4,h5,h6⟩:=zj5 hT
 exact TL.app k k2 hx hy had hL hL2 hA he hm h1 h2 h3 h4 h5 hsz h6 hg hd h
end
theorem zjk {α:Type} [Inhabited α] {enc:α->List Value} {m e:Nat} {v:Value} {d:Array α} {h:HF} (hA:ownA enc m e v d h):∃ a b c,v=.slice a d.size c/\d.size<=c/\(0<d.size->a=some ⟨b,0,none⟩)/\rowW enc m b 0 d.size d h:=by
 rcases hA with ⟨h1,h2⟩ | ⟨g,cap,cur,h1,h2,h3,h4,h5,h6⟩
 ·exact ⟨none,0,0,by rw [h1,h2],by omega,fun h=>by omega,.inl h2⟩
 ·refine ⟨_,g,cap,h1,h3,fun _=>Z,.inr ⟨cur,e,h2,?_,Z,fun i hi=>by rw [Nat.zero_add]; exact h6 i hi⟩⟩
  have:=Nat.mul_le_mul_right m h3
  omega
section
variable {P:Program} {w0:World} {R:Assn} {n:Nat} {Q:Exit->Act->World->Prop} {env:List (Nat×Value)} {L:List (Nat×Assn)}
theorem TC.own {α:Type} [Inhabited α] {x:Code} (k:Nat) {enc:α->List Value} {m e:Nat} {v:Value} {d:Array α} (hL:lk L k=some (ownA enc m e v d))
  (h:∀ a b c,v=.slice a d.size c->d.size<=c->(0<d.size->a=some ⟨b,0,none⟩)->TC P w0 R n x Q env ((k,rowW enc m b 0 d.size d) :: L)):TC P w0 R n x Q env L:=fun a w ha hs=>by
 obtain ⟨X,hX,_,hto⟩:=Sat.some hs hL
 obtain ⟨a',b,c,h1,h2,h3,h4⟩:=zjk hX
 exact h a' b c h1 h2 h3 a w ha (hto _ h4)
end
structure WideF (F:Fence):Prop where
 fn:∀ f,F.fn f
 depth:F.depth=none
 alive:F.alive=false
theorem WideF.fenced {P:Program} {F:Fence} (h:WideF F) (m:Machine):m.fenced P F:=fun g _ =>
 ⟨fun e=>(by rw [h.alive] at e; cases e),.inl (h.fn _),fun _ _=>h.fn _,fun d hd=>(by rw [h.depth] at hd; cases hd)⟩
theorem WideF.steps {P:Program} {F:Fence} (h:WideF F) {m m':Machine} (hc:Steps P m m'):StepsIn (Machine.fenced P F) P m m':=(StepsIn.of_steps hc).mono fun m _=>h.fenced m
section
variable {P:Program} {ops:Array Oper} {Q Q':Exit->Act->World->Prop} {S:World->Prop} {F:Fence}
end
section
variable (P:Program) (w0:World) (R:Assn) (n:Nat) (l:Nat)
def TR (c:Code) (Q:Exit->Act->World->Prop) (env:List (Nat×Value)) (L:List (Nat×Assn)):Prop :=
 ∀ a w,Agrees n env a->Sat w0 L R w->c.wpIn (Fence.wide.inRound l) 0 P Q a w
end
section
variable {P:Program} {w0:World} {R:Assn} {n l:Nat} {Q:Exit->Act->World->Prop} {env:List (Nat×Value)} {L:List (Nat×Assn)}
end
section
variable {P:Program} {w0:World} {R:Assn} {n l:Nat} {env:List (Nat×Value)} {L:List (Nat×Assn)}
end
section
variable {P:Program} {w0:World} {R:Assn} {n:Nat} {Q:Exit->Act->World->Prop} {env:List (Nat×Value)} {L:List (Nat×Assn)}
end
def mark (blk:Nat):List Deferred:=[{ target:=.collected blk,args:=#[] }]
section
variable {P:Program} {w0:World} {R:Assn} {n:Nat} {Q:Exit->Act->World->Prop} {env:List (Nat×Value)} {L:List (Nat×Assn)}
end
theorem zvc (vs:List Value):∀ (cs:List Value) (off j:Nat),off+vs.length<=cs.length->(putL cs off vs)[j]?=if off<=j/\j<off+vs.length then vs[j - off]? else cs[j]?:=by
 induction vs with
 | nil=>intro cs off j _; rw [putL,Zn (by simp)]
 | cons v r ih =>
  intro cs off j h
  simp only [List.length_cons] at h ⊢
  rw [putL,ih _ _ _ (by simp; omega)]
  by_cases h1:off+1<=j/\j<off+1+r.length
  ·rw [Zp h1,Zp (by omega),show j - off=(j - (off+1))+1 by omega,List.getElem?_cons_succ]
  ·rw [Zn h1]
   by_cases h2:j=off
   ·subst h2; rw [Zp (by omega),List.getElem?_set_self (by omega)]; simp
   ·rw [Zn (by omega),List.getElem?_set_ne (by omega)]
theorem zvd {zs vs:List Value} (h:zs.length=vs.length):putL zs 0 vs=vs:=by
 apply List.ext_getElem?
 intro j
 rw [zvc vs zs 0 j (by omega)]
 by_cases hj:j<vs.length
 ·rw [Zp (by omega)]; simp
 ·rw [Zn (by omega),List.getElem?_eq_none (by omega),List.getElem?_eq_none (by omega)]
theorem lit1 {size:Nat} {cs:List Value} (hc:cs.length=size):∀ zs:List Value,zs.length=1 * size->bldL (fun i=>some (i * size,size)) zs [(0,.agg cs.toArray)]=some cs:=by
 intro zs hz
 have h1:Nat.beq (zdy (.agg cs.toArray)).length size=true:=by simp [zdy,hc,Nat.beq_eq]
 have h2:Nat.ble (0+size) zs.length=true:=by simp [Nat.ble_eq,hz]
 simp only [bldL,Nat.zero_mul,h1,h2,Bool.and_self,cond_true]
 rw [show zdy (.agg cs.toArray)=cs by simp [zdy]]
 rw [zvd (by omega)]
section
variable {P:Program} {w0:World} {R:Assn} {n:Nat} {Q:Exit->Act->World->Prop} {env:List (Nat×Value)} {L:List (Nat×Assn)}
variable {ks:List Nat} {L0:List (Nat×Assn)} {ops:Array Oper} {rest:List (Bool×Oper)}
variable {fl:Bool} {d:Option Tmp} {x y z:Operand} {ty T z':TypeId} {ps:String} {af:Array Edge} {g:Option (Nat×Bool)}
theorem TL.bsN (k:Nat) {len E size:Nat} {zv:Value} {parts:List (Nat×Operand)} (vs cs:List Value) (hS:zcI P T E size=true) (hz:zbI P E=some zv) (hx:evs env (parts.map (·.2)) vs)
  (hlen:(Nat.ble (len * size) 16777216 && Nat.blt 0 (len * size))=true) (hc:∀ zs:List Value,zs.length=len * size->bldL (fun i=>some (i * size,size)) zs ((parts.map (·.1)).zip vs)=some cs) (hg:zag ops env g=some true) (hd:okD n d=true)
  (h:∀ b,Keep L0 ((k,pt b (.cells cs.toArray E)) :: L) ks/\TL P w0 R n ks L0 ops Q rest (setE env d (.slice (some ⟨b,0,none⟩) len len)) ((k,pt b (.cells cs.toArray E)) :: L)) :
  TL P w0 R n ks L0 ops Q ((false,⟨d,.buildSlice T len parts.toArray,ty,ps,af,g⟩) :: rest) env L:=by
 obtain ⟨ii,h2,h3,h4⟩:=zbP hS
 simp only [Bool.and_eq_true,Nat.ble_eq,Nat.blt_eq] at hlen
 refine TL.act hg hd fun a w ha hs=>?_
 refine ⟨_,_,_,.inl ?_,hs.alloc k (.cells cs.toArray E),(h w.heap.size).1,(h w.heap.size).2⟩
 have hev:=ha.evals hx
 have hparts:(parts.toArray.map fun (p:Nat×Operand)=>(p.1,a.eval p.2)).toList=(parts.map (·.1)).zip vs:=by
  rw [<-hev]; simp [List.zip_map']
 have hfill:=zhn _ _ _ _ (hc ((List.range (len * size)).map fun i=>(zv.cells[i % zv.cells.size]!)) (by simp))
 have hz0:((Array.range (len * size)).map fun i=>(zv.cells[i % zv.cells.size]!))=((List.range (len * size)).map fun i=>(zv.cells[i % zv.cells.size]!)).toArray:=by apply Array.ext'; simp
 simp only [execOp,run_bind,Instr.buildSlice,zaj h2,za8 h3,h4]
 rw [Zn (show ¬(len * size > 2 ^ 24) from by omega),Zn (show ¬(len * size=0) from by omega)]
 simp only [run_bind,zb6 hz,run_pure]
 rw [hparts,hz0,hfill]
 simp [newRow,newObj,run_bind,Sem.run]
theorem TL.clr {α:Type} [Inhabited α] (k:Nat) {enc:α->List Value} {m E b off len i c:Nat} {D:Array α} {a':Option Addr} {zv:Value} (hx:evO env x=some (.slice a' (len - i) c)) (ha':0<len - i->a'=some ⟨b,off+i * m,none⟩) (hi:i<=len) (hD:D.size=len)
  (hL:lk L k=some (rowW enc m b off len D)) (hS:zcI P T E m=true) (hz:zbI P E=some zv) (hz1:zv.cells.size=m/\ones zv.cells.toList=true) (hg:zag ops env g=some true) (hd:okD n d=true)
  (hk:Keep L0 ((k,rowW enc m b off i (D.extract 0 i)) :: L) ks)
  (h:TL P w0 R n ks L0 ops Q rest (setE env d (.tuple #[])) ((k,rowW enc m b off i (D.extract 0 i)) :: L)) :
  TL P w0 R n ks L0 ops Q ((false,⟨d,.call ⟨.builtin .clear,#[x],#[T]⟩,ty,ps,af,g⟩) :: rest) env L:=by
 obtain ⟨ii,h2,h3,h4⟩:=zbP hS
 refine TL.act hg hd fun a w ha hs=>?_
 obtain ⟨X,hX,hsub,hto⟩:=Sat.some hs hL
 have hget:∀ j,j<i->(D.extract 0 i)[j]! =D[j]!:=fun j hj=>by
  rw [getElem!_def,getElem!_def,Array.getElem?_extract]
  rw [Zp (by omega)]; simp
 have hDs:(D.extract 0 i).size=i:=by simp; omega
 rcases Nat.eq_zero_or_pos (len - i) with h0 | h0
 ·refine ⟨_,w,_,.inl ?_,hs.conseq hL (B:=rowW enc m b off i (D.extract 0 i)) ?_,hk,h⟩
  ·rw [h0] at hx
   have e1:(Builtin.clear_ #[T] ty #[.slice a' 0 c]).run P w=.ok (.tuple #[]) w:=by
    cases a'<;>simp [Builtin.clear_,run_bind,zaj h2]
   simp [execOp,run_bind,resolve,invoke,builtin,ha.eval hx,e1]
  ·intro y hy
   obtain rfl:i=len:=by omega
   rcases hy with hy | ⟨cs,T',hb,hsz,hDD,hrow⟩
   ·exact .inl hy
   ·exact .inr ⟨cs,T',hb,hsz,hDs,fun j hj=>by rw [hget j hj]; exact hrow j hj⟩
 ·have ha2:=ha' h0
  subst ha2
  rcases hX with hX | ⟨cs,T',hb,hsz,hDD,hrow⟩
  ·omega
  ·have hs1:=hto (pt b (.cells cs T')) hb
   have hzl:(Builtin.zeroCells zv.cells (len - i)).toList.length=(len - i) * m:=by rw [Array.length_toList,size_zeroCells,hz1.1]
   have hle:off+i * m+(len - i) * m=off+len * m:=by rw [Nat.add_assoc,<-Nat.add_mul]; congr 2; omega
   have hones:∀ v∈(Builtin.zeroCells zv.cells (len - i)).toList,one v=true:=by
    intro v hv
    simp only [Builtin.zeroCells,Array.toList_map,List.mem_map] at hv
    obtain ⟨q,hq,rfl⟩:=hv
    rcases Nat.eq_zero_or_pos zv.cells.size with hz0 | hz0
    ·exfalso; simp [hz0] at hq
    ·have hlt:=Nat.mod_lt q hz0
     rw [getElem!_pos zv.cells _ hlt]
     exact zjl hz1.2 _ (by simp)
   obtain ⟨w',hr,hs'⟩:=zgw (P:=P) (off:=off+i * m) _ 0 w cs _ hs1 zas hones (by rw [hzl]; omega)
   have hs2:=hs'.conseq (B:=rowW enc m b off i (D.extract 0 i)) zas (fun y hy=>.inr ⟨_,T',hy,by
    rw [zko]; have:=Nat.mul_le_mul_right m hi; omega,hDs,fun j hj=>by
    rw [hget j hj,<-hrow j (by omega)]
    refine zhN fun q h1 h2=>zmt ?_
    have:=Nat.mul_le_mul_right m (show j+1<=i by omega)
    rw [Nat.add_mul,Nat.one_mul] at this
    left; omega⟩)
   refine ⟨_,w',_,.inl ?_,hs2.weaken fun j A hA=>?_,hk,h⟩
   ·have e1:(Builtin.clear_ #[T] ty #[.slice (some ⟨b,off+i * m,none⟩) (len - i) c]).run P w=.ok (.tuple #[]) w':=by
     obtain ⟨q,hq⟩:∃ q,len - i=q+1:=⟨len - i - 1,by omega⟩
     rw [hq] at hr ⊢
     simp [Builtin.clear_,run_bind,zaj h2,zb6 hz,hr]
    simp [execOp,run_bind,resolve,invoke,builtin,ha.eval hx,e1]
   ·rw [zaG] at hA
    by_cases ej:k=j
    ·rw [Zp ej] at hA; rw [<-hA,<-ej]; exact zas
    ·rw [Zn ej] at hA; rw [zan ej,zan ej,zan ej]; exact hA
end
end Go.Eng
