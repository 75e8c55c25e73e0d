import Derived.Test.YtabjfnfglcghfaaGreatEngF
set_option linter.unusedVariables false
set_option linter.unusedSimpArgs false
set_option linter.unusedSectionVars false
namespace Go.Tm
open MemLike Eng
theorem zdx {a b x:Int}:x∈(zaw a b).toList↔x=a\/x=b:=by
 unfold zaw
 split
 ·next h=>subst h; simp
 ·simp only [List.mem_cons,List.not_mem_nil,or_false]
  rcases Int.le_total a b with c | c
  ·rw [Int.min_eq_left c,Int.max_eq_right c]
  ·rw [Int.min_eq_right c,Int.max_eq_left c]; exact Or.comm
theorem zwp {g g':G} {s:Int} (e1:g'.has=updB g.has s false) (e2:g'.u=g.u) (e3:g'.v=g.v) {a w:Int} (ha:a=g.u s\/a=g.v s) (h:Wh g a w):Wh g' (g.u s) w\/Wh g' (g.v s) w:=by
 unfold Wh at h
 induction h with
 | refl=>rcases ha with rfl | rfl; (· exact .inl (.refl _)); exact .inr (.refl _)
 | step c q hq he ih =>
  by_cases eq:q=s
  ·subst eq
   rcases he with ⟨_,h2⟩ | ⟨_,h2⟩
   ·right; rw [<-h2]; exact .refl _
   ·left; rw [<-h2]; exact .refl _
  ·have hq':g'.has q=true:=by rw [e1]; unfold updB; rw [Zn eq]; exact hq
   exact ih.imp (fun k=>Conn.step k q hq' (by rw [e2,e3]; exact he)) fun k=>Conn.step k q hq' (by rw [e2,e3]; exact he)
theorem zwo {g:G} {s a b i:Int} {t:Bool} (hno:g.has s=false) {x y:Int} (h:Wh g x y):Wh (g.put s a b i t) x y:=by
 unfold Wh at *
 have ne:∀ q,g.has q=true->q≠s:=fun q hq e=>by rw [e,hno] at hq; cases hq
 refine Conn.mono (P:=fun q=>g.has q=true) (Conn.ends h fun q hq=>?_) fun q hq=>?_
 ·constructor<;>(simp [G.put,updI,ne q hq])
 ·simp [G.put,updB,hq]
section
variable {l:Lay} (hl:l.Ok) {pr:Int->Int} {k:Nat} {m:M} {tag:Int} {g:G} {d:Array EdR}
structure Hd19 (l:Lay) (pr:Int->Int) (k:Nat) (m:M) (tag:Int) (g:G) (u v:Int) (rt ver:Int->Int):Prop where
 held:zbM l m u v=zaw (rt (l.vertex 0 u)) (rt (l.vertex 0 v))
 rtm:Rt l m rt
 rt:Rt l (zar l m u v) rt
 calm:Calm l pr ⟨1,tag⟩ ver (zar l m u v) g
 par:∀ x,l.nd x->parent l (zar l m u v) x=parent l m x
 ver:∀ x,V0 l x->0<=ver x/\ver x<=k
 lock:∀ x,l.nd x->get (zar l m u v) (l.field x 0)=if x∈(zbM l m u v).toList then 1 else get m (l.field x 0)
 oth:∀ j,(∀ x,l.nd x->j≠l.field x 0)->get (zar l m u v) j=get m j
include hl
theorem P19.hold (h:P19 l pr k m tag g d) (hT:1<=l.T) (hk:k<=60000) {u v:Int} (hu:0<=u/\u<l.V) (hv:0<=v/\v<l.V):∃ rt ver,Hd19 l pr k m tag g u v rt ver:=by
 obtain ⟨ver,hc,hver⟩:=h.c
 have tg:=h.tg
 have hp:PenOk ⟨1,tag⟩:=⟨(show (1:Int)<=1/\(1:Int)<=8 by decide),by show 0<=tag/\tag<=16777215; omega⟩
 obtain ⟨rt,hrt,_,_⟩:=hc.rt.roots hl
 have e:zbM l m u v=zaw (rt (l.vertex 0 u)) (rt (l.vertex 0 v)):=by
  unfold zbM
  rw [ziI hl (fun x hx=>zaC (hc.pp x hx)) hrt hu,ziI hl (fun x hx=>zaC (hc.pp x hx)) hrt hv]
 have hnd:∀ x∈(zbM l m u v).toList,l.nd x:=fun x hx=>by
  rw [e,zdx] at hx
  rcases hx with rfl | rfl
  ·obtain ⟨_,_,a⟩:=hrt _ (vx0 hl hu); exact a.last.1.1
  ·obtain ⟨_,_,a⟩:=hrt _ (vx0 hl hv); exact a.last.1.1
 have hz:m.size=l.cells:=hc.rt.size
 obtain ⟨z1,z2,z3⟩:=zmT hl hz (d:=zbM l m u v) (v:=1) (by decide) hnd
 have hpar:∀ x,l.nd x->parent l (zar l m u v) x=parent l m x:=fun x hx=>zbD (z3 _ fun y hy e=>by have:=(zac hl hx (by decide) hy (by decide)).1 e; omega)
 refine ⟨rt,ver,e,hrt,fun x hx=>?_,hc.locks hl hp (by show (1:Int)<=l.T; omega) z1 z3,hpar,hver,z2,z3⟩
 obtain ⟨h,h1,h2⟩:=hrt x hx
 exact ⟨h,h1,h2.congr fun y hy=>hpar y hy.1⟩
variable {u v s:Int} {rt ver:Int->Int}
theorem Hd19.rdy (h:Hd19 l pr k m tag g u v rt ver) (hT:1<=l.T) (hk:k<=60000) (tg:0<=tag/\tag<=k):Rdy (ptW l ⟨1,tag⟩ (zar l m u v) g u v s) pr ver g :=
 zxO hl ⟨(show (1:Int)<=1/\(1:Int)<=8 by decide),by show 0<=tag/\tag<=16777215; omega⟩ (by show (1:Int)<=l.T; omega) (by show tag+1<=16777215; omega) h.calm fun x hx=>by have:=h.ver x hx; omega
theorem Hd19.heldN (h:Hd19 l pr k m tag g u v rt ver) (rd:Rdy (ptW l ⟨1,tag⟩ (zar l m u v) g u v s) pr ver g) (hu:0<=u/\u<l.V) (hv:0<=v/\v<l.V):∀ x∈(zbM l m u v).toList,(ptW l ⟨1,tag⟩ (zar l m u v) g u v s).N x:=fun x hx=>by
 rw [h.held,zdx] at hx
 rcases hx with rfl | rfl
 ·exact rd.held h.rt (v:=u) ⟨hu,.inl (.refl _)⟩
 ·exact rd.held h.rt (v:=v) ⟨hv,.inr (.refl _)⟩
theorem P19.ins (h:P19 l pr k m tag g d) (hH:Hd19 l pr k m tag g u v rt ver) (hT:1<=l.T) (hk:k<=60000) (hu:0<=u/\u<l.V) (hv:0<=v/\v<l.V) (hne:u≠v) (hs:0<=s/\s<l.S) (hno:∀ j,j<d.size->d[j]!.slot≠s) (hfr:∀ j,j<d.size->bwB d u v j=false) :
  ∃ ex row0 g',insF l ⟨1,tag⟩ 561 (zbM l m u v) (zar l m u v) s u v=some ex/\PlanR (ptW l ⟨1,tag⟩ (zar l m u v) g u v s) pr ver g' (zbM l m u v) u v row0 ex/\Dc g' (d++#[⟨s,min u v,max u v,0,false⟩])/\∀ w,CW l g u v w->Wh g' w u\/Wh g' w v:=by
 have rd:=hH.rdy hl (s:=s) hT hk h.tg
 have hg:g.has s=false:=by
  cases e:g.has s with
  | false=>rfl
  | true=>obtain ⟨i,hi,e2⟩:=h.dc.cov s e; exact absurd e2 (hno i hi)
 obtain ⟨ex,row0,t,h1,h2,_⟩:=zvI rd (s:=s) (u:=u) (v:=v) ⟨hs,.inl ⟨hg,rfl⟩⟩ ⟨hu,.inl (.refl _)⟩ ⟨hv,.inr (.refl _)⟩ hne hg (fun q hq hc=>by
  obtain ⟨i,hi,e2⟩:=h.dc.cov q hq
  have r:=h.dc.row i hi
  have:=hfr i hi
  unfold bwB at this
  rw [decide_eq_false_iff_not] at this
  rw [<-e2] at hc
  exact this ⟨r.2.1.symm.trans hc.1,r.2.2.1.symm.trans hc.2⟩) (held:=zbM l m u v) (fun i hi=>hH.heldN hl rd hu hv _ (zb8.2 ⟨i,hi,Z⟩))
 exact ⟨ex,row0,_,h1,h2,h.dc.put hg,fun w hw=>hw.2.imp (fun c=>zwo hg c) fun c=>zwo hg c⟩
theorem P19.del (h:P19 l pr k m tag g d) {i:Nat} (hi:i<d.size) (hu:u=d[i]!.u) (hv:v=d[i]!.v) (hH:Hd19 l pr k m tag g u v rt ver) (hT:1<=l.T) (hk:k<=60000) :
  ∃ ex row0 g',delF l ⟨1,tag⟩ 561 (zbM l m u v) (zar l m u v) d[i]!.slot=some ex/\PlanR (ptW l ⟨1,tag⟩ (zar l m u v) g u v d[i]!.slot) pr ver g' (zbM l m u v) u v row0 ex/\Dc g' (cutA d i)/\∀ w,CW l g u v w->Wh g' w u\/Wh g' w v:=by
 have rd:=hH.rdy hl (s:=d[i]!.slot) hT hk h.tg
 obtain ⟨r1,r2,r3,_⟩:=h.dc.row i hi
 have rg:=hH.calm.rt.rng hl r1
 have gu:g.u d[i]!.slot=u:=r2.trans hu.symm
 have gv:g.v d[i]!.slot=v:=r3.trans hv.symm
 rw [gu,gv] at rg
 obtain ⟨ex,row0,g',h1,h2,e1,e2,e3⟩:=zv0 rd (s:=d[i]!.slot) r1 (by rw [gu]; exact ⟨by omega,.inl (.refl _)⟩) (held:=zbM l m u v) (fun j hj=>hH.heldN hl rd (by omega) (by omega) _ (zb8.2 ⟨j,hj,rfl⟩))
 rw [gu,gv] at h2
 refine ⟨ex,row0,g',h1,h2,(h.dc.del hl hi).ext e1 e2 e3,fun w hw=>?_⟩
 have:=hw.2.elim (fun c=>zwp e1 e2 e3 (s:=d[i]!.slot) (.inl gu.symm) (Conn.symm c)) fun c=>zwp e1 e2 e3 (s:=d[i]!.slot) (.inr gv.symm) (Conn.symm c)
 rw [gu,gv] at this
 exact this.imp Conn.symm Conn.symm
def endM (l:Lay) (t:M) (ex:PlanS):M:=zbq l ex.roots [] 0 ex.roots.size (runM t ex.work.toList)
theorem P19.next (h:P19 l pr k m tag g d) (hH:Hd19 l pr k m tag g u v rt ver) (hT:1<=l.T) (hk:k<=60000) (hu:0<=u/\u<l.V) (hv:0<=v/\v<l.V) {g':G} {d':Array EdR} {row0:Array Acc} {ex:PlanS} {m':M} {ver':Int->Int}
  (hp:Left (ptW l ⟨1,tag⟩ (zar l m u v) g u v s) pr ver g' (zbM l m u v) u v ex m' ver') (hd:Dc g' d') (hj:∀ w,CW l g u v w->Wh g' w u\/Wh g' w v) :
  P19 l pr (k+1) (endM l (zar l m u v) ex) (if ex.tree then tag+1 else tag) g' d':=by
 have tg:=h.tg
 have rd:=hH.rdy hl (s:=s) hT hk tg
 obtain ⟨rt',hrt',hrs⟩:=hp.rts
 have hrs':ex.roots=zaw (rt' (l.vertex 0 u)) (rt' (l.vertex 0 v)):=hrs
 have hR':zau l pr m' g':=hp.calm.rt
 have hnd:∀ x∈ex.roots.toList,l.nd x:=fun x hx=>by
  rw [hrs',zdx] at hx
  rcases hx with rfl | rfl
  ·obtain ⟨_,_,a⟩:=hrt' _ (vx0 hl hu); exact a.last.1.1
  ·obtain ⟨_,_,a⟩:=hrt' _ (vx0 hl hv); exact a.last.1.1
 have hz:m'.size=l.cells:=hR'.size
 obtain ⟨z1,z2,z3⟩:=zmT hl hz (d:=ex.roots) (v:=0) (by decide) hnd
 have eE:endM l (zar l m u v) ex=zbq l ex.roots [] 0 ex.roots.size m':=by unfold endM; rw [show runM (zar l m u v) ex.work.toList=m' from hp.run]
 have hpar:∀ x,l.nd x->parent l (endM l (zar l m u v) ex) x=parent l m' x:=fun x hx=>by
  rw [eE]; exact zbD (z3 _ fun y hy e=>by have:=(zac hl hx (by decide) hy (by decide)).1 e; omega)
 have calm':Calm l pr ⟨1,if ex.tree then tag+1 else tag⟩ ver' m' g':=hp.calm
 refine ⟨hd,⟨ver',?_,fun x hx=>?_⟩,?_,fun rt2 hrt2 x hx=>?_⟩
 ·rw [eE]
  exact calm'.locks hl ⟨(show (1:Int)<=1/\(1:Int)<=8 by decide),by show 0<=(if ex.tree then tag+1 else tag)/\(if ex.tree then tag+1 else tag)<=16777215; split<;>omega⟩ (by show (1:Int)<=l.T; omega) z1 z3
 ·have a:=hH.ver x hx
  rcases hp.vers x hx with e | ⟨e,_⟩<;>(rw [e]; omega)
 ·split<;>omega
 ·have e2:∀ w:Int,0<=w/\w<l.V->rt2 (l.vertex 0 w)=rt' (l.vertex 0 w):=fun w hw=>by
   obtain ⟨_,_,a⟩:=hrt2 _ (vx0 hl hw)
   obtain ⟨_,_,b⟩:=hrt' _ (vx0 hl hw)
   exact (a.uniq (b.congr fun y hy=>hpar y hy.1)).2
  have lkx:=h.lk rt hH.rtm x hx
  have lockx:get (zar l m u v) (l.field x 0)=if x∈(zbM l m u v).toList then 1 else get m (l.field x 0):=hH.lock x hx
  have lock2:get m' (l.field x 0)=zqB ⟨1,tag⟩ (zbM l m u v) ex.roots x (get (zar l m u v) (l.field x 0)):=hp.lock x hx
  rw [eE,z2 x hx]
  have inC:∀ w:Int,CW l g u v w->rt' (l.vertex 0 w)∈ex.roots.toList:=fun w hw=>by
   rw [hrs',zdx]
   rcases hj w hw with c | c
   ·exact .inl ((zmz hl hR' hrt' hw.1 hu).2 ((zmf hl hR' hp.calm.hd).1 c))
   ·exact .inr ((zmz hl hR' hrt' hw.1 hv).2 ((zmf hl hR' hp.calm.hd).1 c))
  have inC0:∀ w:Int,CW l g u v w->rt (l.vertex 0 w)∈(zbM l m u v).toList:=fun w hw=>by
   rw [hH.held,zdx]
   rcases hw.2 with c | c
   ·exact .inl ((zmz hl hH.calm.rt hH.rt hw.1 hu).2 ((zmf hl hH.calm.rt hH.calm.hd).1 c))
   ·exact .inr ((zmz hl hH.calm.rt hH.rt hw.1 hv).2 ((zmf hl hH.calm.rt hH.calm.hd).1 c))
  have outC:∀ w:Int,0<=w/\w<l.V->¬CW l g u v w->rt' (l.vertex 0 w)=rt (l.vertex 0 w)/\¬(rt (l.vertex 0 w)∈(zbM l m u v).toList):=fun w hw hc=>by
   have lb:=zbz hl
   have nN:¬(ptW l ⟨1,tag⟩ (zar l m u v) g u v s).N (l.vertex 0 w):=fun c=>hc ((nV rd.ok rd.pt (show l.okV 0 w from ⟨by omega,hw⟩)).1 c)
   refine ⟨zwv rd.ok rd.pt hH.calm.rt hH.rt hrt' (fun y hy hn=>hp.out y hy hn) (vx0 hl hw) nN,fun c=>nN ?_⟩
   exact (zxG rd.ok rd.pt hH.calm.rt hH.rt (vx0 hl hw)).1 (hH.heldN hl rd hu hv _ c)
  by_cases hr:x∈ex.roots.toList
  ·rw [Zp hr,if_pos]
   rw [hrs',zdx] at hr
   rcases hr with e | e
   ·exact ⟨u,hu,by rw [e2 u hu]; exact e⟩
   ·exact ⟨v,hv,by rw [e2 v hv]; exact e⟩
  ·rw [Zn hr,lock2]
   unfold zqB
   by_cases hx1:x∈(zbM l m u v).toList
   ·rw [if_pos ⟨hx1,hr⟩,if_neg]
    rintro ⟨w,hw,e⟩
    rw [e2 w hw] at e
    by_cases hc:CW l g u v w
    ·exact hr (by rw [e]; exact inC w hc)
    ·obtain ⟨o1,o2⟩:=outC w hw hc
     rw [o1] at e
     exact o2 (by rw [<-e]; exact hx1)
   ·rw [Zn fun c=>hx1 c.1,Zn fun c=>hr c.1,lockx,Zn hx1,lkx]
    have:(∃ w:Int,(0<=w/\w<l.V)/\x=rt (l.vertex 0 w))↔∃ w:Int,(0<=w/\w<l.V)/\x=rt2 (l.vertex 0 w):=by
     constructor
     ·rintro ⟨w,hw,e⟩
      by_cases hc:CW l g u v w
      ·exact absurd (by rw [e]; exact inC0 w hc) hx1
      ·exact ⟨w,hw,by rw [e2 w hw,(outC w hw hc).1]; exact e⟩
     ·rintro ⟨w,hw,e⟩
      rw [e2 w hw] at e
      by_cases hc:CW l g u v w
      ·exact absurd (by rw [e]; exact inC w hc) hr
      ·exact ⟨w,hw,by rw [e]; exact (outC w hw hc).1⟩
    split
    ·next hc=>rw [Zp (this.1 hc)]
    ·next hc=>rw [Zn fun c=>hc (this.2 c)]
end
theorem zqC {l:Lay} {σ:M} {d:Array Int} {k:Nat}:st (zbq l d [] 0 k σ) (l.field d[k]! 0) 0=zbq l d [] 0 (k+1) σ:=by
 conv=>rhs; rw [zbq]
 rw [Zn (by simp)]
def zgZ (l:Lay) (σ:M):Nat->Array Int
 | 0=>#[]
 | k+1=>if zbJ l ((k+1:Nat):Int) then zgZ l σ k++#[zaK l σ ((k+1:Nat):Int) 2,zaK l σ ((k+1:Nat):Int) 1] else zgZ l σ k
end Go.Tm
namespace Go.Tm
theorem zqw {d1 d2:Array Int} {k:Nat} (h:∀ i,i<k->d1[i]! =d2[i]!) (h2:¬d1[k]!≠d2[k]!):∀ i,i<k+1->d1[i]! =d2[i]!:=fun i hi=>by
 by_cases e:i=k
 ·subst e; exact Decidable.not_not.1 h2
 ·exact h i (by omega)
theorem zzF {d1 d2:Array Int} (hz:d1.size=d2.size) (h:∀ i,i<d1.size->d1[i]! =d2[i]!):d1=d2 :=
 Array.ext hz fun i h1 h2=>by have:=h i h1; rw [getElem!_pos d1 i h1,getElem!_pos d2 i h2] at this; exact this
def zke (d:Array Acc) (pq:Int):Nat->List (Int×Int)
 | 0=>[]
 | i+1=>if (i:Int)<pq/\d[i]!.store=true then Go.Eng.mput (zke d pq i) d[i]!.cell ((Go.Eng.mget (zke d pq i) d[i]!.cell).getD 0+1) else zke d pq i
theorem zpV {d:Array Acc} {pt:Nat} {c:Int}:∀ i,i<=d.size->(Go.Eng.mget (zke d (pt:Int) i) c).getD 0=(((d.toList.take i).take pt).countP (isSt c):Int)
 | 0,_=>by rw [zke,Go.Eng.mget_nil]; simp
 | i+1,hi=>by
  have ih:=zpV (d:=d) (pt:=pt) (c:=c) i (by omega)
  have hil:i<d.toList.length:=by simp; omega
  have ei:d.toList[i]=d[i]!:=by rw [getElem!_pos d i (by omega)]; simp
  have et:d.toList.take (i+1)=d.toList.take i++[d[i]!]:=by rw [<-ei]; exact (List.take_append_getElem hil).symm
  have hlen:(d.toList.take i).length=i:=by rw [List.length_take]; omega
  rw [et,List.take_append]
  have e2:(d.toList.take i).length=i:=hlen
  rw [zke,List.countP_append,e2]
  by_cases hp:(i:Int)<pt
  ·rw [List.take_of_length_le (l:=[d[i]!]) (by simp; omega)]
   by_cases hs:d[i]!.store=true
   ·rw [if_pos ⟨hp,hs⟩,Go.Eng.mget_put]
    by_cases ec:c=d[i]!.cell
    ·subst ec
     have:isSt d[i]!.cell d[i]! =true:=by unfold isSt; rw [hs,decide_eq_true Z]; rfl
     rw [Zp Z,Option.getD_some,ih,List.countP_cons,this]; simp
    ·have:isSt c d[i]! =false:=by unfold isSt; rw [decide_eq_false fun e=>ec e.symm,Bool.and_false]
     rw [Zn ec,ih,List.countP_cons,this]; simp
   ·rw [Zn fun c=>hs c.2,ih]
    have:isSt c d[i]! =false:=by unfold isSt; rw [show d[i]!.store=false by simpa using hs]; rfl
    rw [List.countP_cons,this]; simp
  ·rw [Zn fun c=>hp c.1,ih,show pt - i=0 by omega]; simp
open MemLike Eng
def atN (d:Array EdR) (a b:Int):Nat->Int
 | 0=>-1
 | i+1=>if d[i]!.u=a/\d[i]!.v=b then (i:Int) else atN d a b i
theorem zoB {d:Array EdR} {a b:Int} {i:Nat} (h:d[i]!.u=a) (h2:d[i]!.v=b):(i:Int)=atN d a b (i+1):=by rw [atN,if_pos ⟨h,h2⟩]
theorem zuu {d:Array EdR} {a b:Int} {i:Nat} (h:¬d[i]!.u=a):atN d a b i=atN d a b (i+1):=by rw [atN,Zn fun c=>h c.1]
theorem zut {d:Array EdR} {a b:Int} {i:Nat} (h:¬d[i]!.v=b):atN d a b i=atN d a b (i+1):=by rw [atN,Zn fun c=>h c.2]
def UsE (d:Array EdR) (k:Nat) (D:Array Bool):Prop:=∀ s:Nat,s<D.size->(D[s]! =true↔∃ j,j<k/\d[j]!.slot=(s:Int))
theorem UsE.start {d:Array EdR} {N:Nat}:UsE d 0 (Array.replicate N false):=fun s hs=>by
 constructor
 ·intro h
  rw [getElem!_pos _ s hs] at h
  simp at h
 ·rintro ⟨j,hj,_⟩; omega
theorem UsE.step {d:Array EdR} {k:Nat} {D:Array Bool} (h:UsE d k D) {s:Nat} (hs:d[k]!.slot=(s:Int)):UsE d (k+1) (D.setIfInBounds s true):=fun q hq=>by
 have hq':q<D.size:=by simpa using hq
 have ih:=h q hq'
 rw [getElem!_pos _ q hq,Array.getElem_setIfInBounds (by simpa using hq)]
 rw [getElem!_pos D q hq'] at ih
 by_cases e:s=q
 ·subst e
  rw [Zp Z]
  exact ⟨fun _=>⟨k,by omega,hs⟩,fun _=>Z⟩
 ·rw [Zn e,ih]
  constructor
  ·rintro ⟨j,hj,e2⟩; exact ⟨j,by omega,e2⟩
  ·rintro ⟨j,hj,e2⟩
   refine ⟨j,?_,e2⟩
   by_cases ej:j=k
   ·subst ej; rw [hs] at e2; omega
   ·omega
theorem UsE.first {d:Array EdR} {n S q s:Nat} {D:Array Bool} (hU:UsE d n D) (hz:D.size=S) (hq:q<S) (hs:q<=s) (hlt:∀ q:Nat,q<s->∃ j,j<n/\d[j]!.slot=(q:Int)) (h:D[q]! =false):q=s:=by
 rcases Nat.lt_or_ge q s with h9 | h9
 ·rw [(hU q (by omega)).2 (hlt q h9)] at h; cases h
 ·omega
theorem UsE.more {d:Array EdR} {n S q s:Nat} {D:Array Bool} (hU:UsE d n D) (hz:D.size=S) (hq:q<S) (hs:q<=s) (hno:∀ j,j<n->d[j]!.slot≠(s:Int)) (h:D[q]! =true):q+1<=s:=by
 rcases Nat.lt_or_ge q s with h9 | h9
 ·omega
 ·obtain rfl:q=s:=by omega
  obtain ⟨j,hj,e⟩:=(hU q (by omega)).1 h
  exact absurd e (hno j hj)
section
variable {W:Pt} {pr ver:Int->Int} {g g':G} {En Lv:Int->Prop} {τ:Tr} {m':M}
theorem zxq (h:Rdy W pr ver g) (ht:Twin W En Lv τ m') {c:Int} (hc:W.Adr c) (hne:get m' c≠get W.m1 c):0<τ.row.size:=by
 rcases Nat.eq_zero_or_pos τ.row.size with h0 | h0
 ·refine absurd ?_ hne
  have e:τ.row.toList=[]:=by rw [Array.size_eq_zero_iff.1 h0]
  have r:=ht.rp.run
  rw [e] at r
  rw [<-ht.eq c hc,<-show W.m0=τ.mem from r]
  exact h.eq c (.inl hc)
 ·exact h0
theorem zkE {l:Lay} {m m2:M} {u v:Int} (h:get m (l.edge u v)=get m2 (l.edge u v)):find l m u v=find l m2 u v:=by
 unfold find; rw [h]
theorem zAi (h:Rdy W pr ver g) {s u v:Int} (hs:W.E s) (hu:W.C u) (hv:W.C v) (hne:u≠v) (hno:g.has s=false) (hf:∀ q,g.has q=true->¬(g.u q=min u v/\g.v q=max u v)) {t:Bool} (e0:zbf W.l W.p 561 (⟨W.m0,#[]⟩:Tr) s u v=some (t,τ)):0<τ.row.size:=by
 have hW:=h.ok
 have hcu:=hW.hc u hu
 have hcv:=hW.hc v hv
 obtain ⟨t1,m',e,hw,hr⟩:=h.writ.ins hW.hl hW.hp h.hT (hW.he s hs) hcu hcv hne hno hf
 have k:=zjt hW 561 h.twin hs (fun c=>by have:=c.1; rw [hno] at this; cases this) hu hv
 rw [e,e0] at k
 have hval:Val3 W.l ⟨1,u,v⟩:=⟨hne,hcu.1,hcu.2,hcv.1,hcv.2⟩
 have hd:get m' (W.l.edge u v)≠get W.m1 (W.l.edge u v):=fun ec=>by
  have e1:=zkE (l:=W.l) ec
  rcases (hw.edges hW.hl).found hW.hl hval with ⟨q,_,_,_,e2,_⟩ | ⟨n2,_⟩
  ·rcases (h.writ.edges hW.hl).found hW.hl hval with ⟨q2,b2,_,h2,_,_⟩ | ⟨_,e3⟩
   ·exact hf q2 h2 b2.2
   ·have e2:find W.l m' u v=⟨q,_,true⟩:=e2
    have e3:find W.l W.m1 u v=⟨0,false,false⟩:=e3
    rw [e2,e3] at e1
    injection e1 with _ _ c
    cases c
  ·refine n2 ⟨s,?_,?_⟩
   ·simp [GA.of,G.put,updB]
   ·simp [GA.of,G.put,updI]
 have ha:W.Adr (W.l.edge u v):=.inl (.inr (.inl ⟨u,v,hu,hv,Z⟩))
 rcases k with k | k
 ·exact zxq h k.2.2 ha hd
 ·exact zxq h k.2.2 ha hd
theorem zAT (h:Rdy W pr ver g) {s:Int} (hh0:g.has s=true) (hu:W.C (g.u s)) {r:Bool×Int×Bool} (e0:zbk W.l W.p 561 (⟨W.m0,#[]⟩:Tr) s=some (r,τ)):0<τ.row.size:=by
 have hW:=h.ok
 have hv:W.C (g.v s):=(h.pt.uv s hh0).1 hu
 have hcu:=hW.hc _ hu
 have hcv:=hW.hc _ hv
 have rg:=h.calm.rt.rng hW.hl hh0
 obtain ⟨t,b,o,m',g',e,hw,x1,x2,x3,hr⟩:=h.writ.del hW.hl hW.hp h.hT hh0
 have k:=zjw hW (k:=561) (by decide) h.twin h.calm.rt h.calm.hd h.pt.ptg hh0 hu
 rw [e,e0] at k
 have hval:Val3 W.l ⟨1,g.u s,g.v s⟩:=⟨(show g.u s≠g.v s by omega),hcu.1,hcu.2,hcv.1,hcv.2⟩
 have hbt:(GA.of g).bt ⟨1,g.u s,g.v s⟩ s:=⟨hh0,(Int.min_eq_left (by show g.u s<=g.v s; omega)).symm,(Int.max_eq_right (by show g.u s<=g.v s; omega)).symm⟩
 have hd:get m' (W.l.edge (g.u s) (g.v s))≠get W.m1 (W.l.edge (g.u s) (g.v s)):=fun ec=>by
  have e1:=zkE (l:=W.l) ec
  rcases (h.writ.edges hW.hl).found hW.hl hval with ⟨q,b1,_,h1,e2,un⟩ | ⟨n2,_⟩
  ·have eqs:=un s hbt
   rcases (hw.edges hW.hl).found hW.hl hval with ⟨q2,b2,_,h2,_,_⟩ | ⟨_,e3⟩
   ·have h2':updB g.has s false q2=true:=by rw [<-x1]; exact h2
    unfold updB at h2'
    by_cases eq:q2=s
    ·rw [Zp eq] at h2'; cases h2'
    ·rw [Zn eq] at h2'
     have b2':(GA.of g).bt ⟨1,g.u s,g.v s⟩ q2:=⟨h2',by have:=b2.2.1; simpa [GA.of,x2] using this,by have:=b2.2.2; simpa [GA.of,x3] using this⟩
     have:=un q2 b2'
     omega
   ·have e2:find W.l W.m1 (g.u s) (g.v s)=⟨q,_,true⟩:=e2
    have e3:find W.l m' (g.u s) (g.v s)=⟨0,false,false⟩:=e3
    rw [e2,e3] at e1
    injection e1 with _ _ c
    cases c
  ·exact n2 ⟨s,hbt⟩
 exact zxq h k.2.2 (.inl (.inr (.inl ⟨_,_,hu,hv,Z⟩))) hd
end
def Vals (N:Nat) (d:Array Acc):Prop:=∀ a∈d.toList,(0<=a.val/\a.val<18446744073709551616)/\0<=a.cell/\a.cell<(N:Int)
structure Vt (N:Nat) (σ:Tr):Prop where
 sz:σ.mem.size=N
 v:Vals N σ.row
theorem Vals.at {N:Nat} {d:Array Acc} (h:Vals N d):∀ i,i<d.size->(0<=d[i]!.val/\d[i]!.val<18446744073709551616)/\0<=d[i]!.cell/\d[i]!.cell<(N:Int):=fun i hi=>h _ (by rw [getElem!_pos d i hi]; simp)
theorem Vals.get {N:Nat} {d:Array Acc} (h:Vals N d):∀ i,i<d.size->0<=d[i]!.val/\d[i]!.val<18446744073709551616:=fun i hi=>(h.at i hi).1
theorem Vals.push {N:Nat} {d:Array Acc} {a:Acc} (h:Vals N d) (ha:(0<=a.val/\a.val<18446744073709551616)/\0<=a.cell/\a.cell<(N:Int)):Vals N (d++#[a]):=fun b hb=>by
 rw [Array.toList_append,List.mem_append] at hb
 rcases hb with hb | hb
 ·exact h b hb
 ·rw [List.mem_singleton] at hb; subst hb; exact ha
section
variable {N:Nat} {σ:Tr} {l:Lay} {p:Pen}
theorem Vt.ld (h:Vt N σ) (i:Int):Vt N (MemLike.ld σ i:Tr):=by
 rw [zkc]
 split
 ·next hi=>exact ⟨h.sz,h.v.push ⟨(show 0<=MemLike.get σ.mem i/\_ from MemLike.rng _ _),hi.1,by have:=h.sz; show i<_; omega⟩⟩
 ·exact h
theorem Vt.st (h:Vt N σ) (i v:Int) (hv:0<=v/\v<18446744073709551616):Vt N (MemLike.st σ i v:Tr):=by
 rw [zkb]
 split
 ·next hi=>exact ⟨by show (MemLike.st σ.mem i v:Array UInt64).size=N; rw [zaz]; exact h.sz,h.v.push ⟨hv,hi.1,by have:=h.sz; show i<_; omega⟩⟩
 ·exact h
theorem Vt.write (h:Vt N σ) (c x:Int):Vt N (p.write σ c x):=by
 unfold Pen.write
 split
 ·split
  ·exact (h.ld c).st _ _ (zby _ _)
  ·exact h.ld c
 ·exact h.ld c
theorem Vt.clean (h:Vt N σ) (c:Int):Vt N (zbs σ c):=by
 unfold zbs
 split
 ·split
  ·exact (h.ld c).st _ _ (zby _ _)
  ·exact h.ld c
 ·exact h.ld c
theorem Vt.state (h:Vt N σ) (tag:Int) (dn:Bool):Vt N (za0 l p σ tag dn):=by
 unfold za0
 split
 ·refine h.st _ _ ?_
  unfold zaT
  split
  ·exact zby _ _
  ·exact zcV _
 ·exact h
theorem Rch.vals {σ0:Tr} (h0:Vt N σ0) (h:Rch l p σ0 σ):Vt N σ:=by
 induction h with
 | refl=>exact h0
 | ld i _ ih=>exact ih.ld i
 | nf _ hf hv ih=>exact ih.st _ _ hv
 | par _ hs hv ih=>exact ih.st _ _ hv
 | wr _ hs ih=>exact ih.write _ _
 | low _ hj hv ih=>exact ih.st _ _ hv
theorem Vt.vers {ch:List Int} {d:Array Int} (h:Vt N σ):∀ k,Vt N (zb4 l p ch d k σ)
 | 0=>h
 | k+1=>by
  have ih:=Vt.vers (ch:=ch) (d:=d) h k
  rw [zb4]
  unfold ziZ
  split
  ·dsimp only
   split
   ·exact ((ih.ld _).ld _).write _ _
   ·exact ih.ld _
  ·exact ih
theorem Vt.lock {d:Array Int} {but:List Int} {v:Int} (hv:0<=v/\v<18446744073709551616) (h:Vt N σ):∀ k,Vt N (zbq l d but v k σ)
 | 0=>h
 | k+1=>by
  have ih:=Vt.lock (d:=d) (but:=but) hv h k
  rw [zbq]
  split
  ·exact ih
  ·exact ih.st _ _ hv
theorem Vt.cleanC {ch:List Int} {c:Int} (h:Vt N σ):Vt N (cleanC ch σ c):=by
 unfold Go.Tm.cleanC
 split
 ·exact h.clean _
 ·exact h
theorem Vt.cleanW {ch:List Int} {d:Array Int} (h:Vt N σ):∀ k,Vt N (cleanW l ch d k σ)
 | 0=>h
 | k+1=>by
  have ih:=Vt.cleanW (ch:=ch) (d:=d) h k
  rw [Go.Tm.cleanW]
  exact ih.cleanC.cleanC
theorem Vt.root:∀ {k:Nat} {σ τ:Tr} {x r:Int},Go.Tm.root l k σ x=some (r,τ)->Vt N σ->Vt N τ:=fun {k σ τ x r} e h=>Rch.vals (p:=⟨0,0⟩) h (zib e .refl)
theorem Vals.onceO {row:Array Acc} {pt:Nat} {q:List (Int×Int)×List (Int×Int)} {N:Nat} (h:Vals N row):∀ i,i<=row.size->Vals N (onceO row pt q i).1
 | 0,_=>fun a ha=>by cases ha
 | i+1,hi=>by
  have ih:=Vals.onceO (pt:=pt) (q:=q) h i (by omega)
  rw [Go.Tm.onceO]
  dsimp only
  split
  ·exact ih
  ·exact ih.push (h.at i (by omega))
theorem Vals.planT {held rs:Array Int} (h:Vt N σ):Vals N (planT l p held rs σ).work:=by
 unfold Go.Tm.planT
 dsimp only
 refine Vals.onceO (Vt.v ?_) _ (Nat.le_refl _)
 exact ((((((h.vers _).lock (zcV _) _).state _ _).cleanW _).state _ _).lock (by decide) _)
theorem Vals.planF {held:Array Int} {k:Nat} {t:Bool} {u v:Int} {P:PlanS} (h:Vt N σ) (e:planF l p k held t u v σ=some P):Vals N P.work:=by
 unfold Go.Tm.planF at e
 obtain ⟨a,e1,e⟩:=Zb e
 obtain ⟨b,e2,e⟩:=Zb e
 have hb:Vt N b.2:=Vt.root e2 (Vt.root e1 h)
 cases e
 split
 ·exact Vals.planT hb
 ·exact hb.v
theorem zoO {m:M}:Vt m.size (⟨m,#[]⟩:Tr):=⟨rfl,fun a ha=>by cases ha⟩
theorem Vals.ins {held:Array Int} {k:Nat} {m:M} {s u v:Int} {b:Bool} {P:PlanS} (e1:zbf l p k (⟨m,#[]⟩:Tr) s u v=some (b,σ)) (e2:Go.Tm.planF l p k held b u v σ=some P):Vals m.size P.work:=Vals.planF (Rch.vals zoO (zm1 e1 .refl)) e2
theorem Vals.del {held:Array Int} {k:Nat} {m:M} {s u v:Int} {r:Bool×Int×Bool} {P:PlanS} (e1:zbk l p k (⟨m,#[]⟩:Tr) s=some (r,σ)) (e2:Go.Tm.planF l p k held r.1 u v σ=some P):Vals m.size P.work:=Vals.planF (Rch.vals zoO (zjx e1 .refl)) e2
end
theorem zmH {row:Array Acc} {pt:Nat} {q:List (Int×Int)×List (Int×Int)}:∀ i,(onceO row pt q i).1.size<=i
 | 0=>Nat.le_refl _
 | i+1=>by
  have ih:=zmH (row:=row) (pt:=pt) (q:=q) i
  rw [onceO]
  dsimp only
  split
  ·omega
  ·simp; omega
theorem zku {l:Lay} (hl:l.Ok) {p:Pen} {held:Array Int} {k:Nat} {t:Bool} {u v:Int} {σ:Tr} {P:PlanS} (hk:k<=561) (hh2:held.size<=2) (hz:Room 20000 σ) (e:planF l p k held t u v σ=some P):P.work.size<=137438953471:=by
 have hnb:=zaB hl
 have hsl:=zdD l l.nodes.toNat
 have hsn:(zax l l.nodes.toNat).size<=560:=by omega
 unfold planF at e
 obtain ⟨a,e1,e⟩:=Zb e
 obtain ⟨b,e2,e⟩:=Zb e
 have hz2:Room 15000 b.2:=zdS e2 (zdS e1 (hz.le (by omega)))
 have hw:=zdW (x:=a.1) (y:=b.1)
 cases e
 split
 ·unfold planT
  dsimp only
  refine Nat.le_trans (zmH _) (show _+0<=_ from zcR.1 (Room.le (m:=0) ?_ (Nat.le_refl _)))
  exact zdl (zfd (zep (zfd (zdl (zcX (hz2.le (by omega)))))))
 ·have:=zcR.1 hz2
  show b.2.row.size<=_
  omega
theorem zvH {l:Lay} (hl:l.Ok) {p:Pen} {held:Array Int} {m:M} {s u v:Int} {b:Bool} {σ:Tr} {P:PlanS} (hh2:held.size<=2) (e1:zbf l p 561 (⟨m,#[]⟩:Tr) s u v=some (b,σ)) (e2:planF l p 561 held b u v σ=some P):P.work.size<=137438953471:=by
 have hz0:Room 100000000 (⟨m,#[]⟩:Tr):=zcR.2 (by show 0+100000000<=_; decide)
 exact zku hl (Nat.le_refl _) hh2 (zju e1 (hz0.le (by decide))) e2
theorem zvZ {l:Lay} (hl:l.Ok) {p:Pen} {held:Array Int} {m:M} {s u v:Int} {r:Bool×Int×Bool} {σ:Tr} {P:PlanS} (hh2:held.size<=2) (e1:zbk l p 561 (⟨m,#[]⟩:Tr) s=some (r,σ)) (e2:planF l p 561 held r.1 u v σ=some P):P.work.size<=137438953471:=by
 have hz0:Room 130000000000 (⟨m,#[]⟩:Tr):=zcR.2 (by show 0+130000000000<=_; decide)
 exact zku hl (Nat.le_refl _) hh2 (zjy e1 (hz0.le (by decide))) e2
def Wn (l:Lay) (m:M) (x:Int):Prop:=zbJ l x=true->(zae (gf l m x 2)).1.thread≠0
def rtm (l:Lay) (m:M) (x:Int):Int:=match root l 561 m x with | some r=>r.1 | none=>0
structure Zr (l:Lay) (m m':M):Prop where
 n0:∀ x,l.nd x->l.nd (rtm l m x)
 n1:∀ x,l.nd x->l.nd (rtm l m' x)
 mono:∀ x,l.nd x->Wn l m x->Wn l m' x
 rt:∀ x,l.nd x->rtm l m' x=rtm l m x\/(Wn l m' (rtm l m x)/\Wn l m' (rtm l m' x))
section
variable {l:Lay} (hl:l.Ok) {p:Pen} (hp:PenOk p) {mk mk' pr:Int->Int} {m m' m'':M} {F F':Int->T}
include hl
theorem Forest.rtm (hF:Forest l pr mk m F) {x:Int} (hx:l.nd x):Go.Tm.rtm l m x=(F x).root:=by
 unfold Go.Tm.rtm
 rw [hF.root hl hx (by decide)]
theorem Forest.root_nd (hF:Forest l pr mk m F) {x:Int} (hx:l.nd x):l.nd (F x).root/\F (F x).root=F x:=by
 have hr:=hF.rep x hx
 have h0:(F x).root≠0:=fun h0=>by have:=hr.nil_iff.1 h0; have:=hF.mem x hx; simp_all [T.list]
 have hm:=hr.root_mem h0
 exact ⟨hr.nd _ hm,hF.cls x hx _ hm⟩
theorem Forest.par0 (hF:Forest l pr mk m F) {y:Int} (hy:l.nd y) (h:parent l m y=0):(F y).root=y:=by
 have h1:=hF.root hl hy (k:=561) (by decide)
 rw [Go.Tm.root] at h1
 have hy0:y≠0:=by unfold Lay.nd at hy; omega
 rw [Zp hy0,Zp h] at h1
 injection h1 with h1
 exact (congrArg Prod.fst h1).symm
omit hl
theorem Zr.trans (h:Zr l m m') (h':Zr l m' m''):Zr l m m'' :=
 ⟨h.n0,h'.n1,fun x hx a=>h'.mono x hx (h.mono x hx a),fun x hx=>by
  rcases h.rt x hx with e | ⟨a,b⟩<;>rcases h'.rt x hx with e' | ⟨a',b'⟩
  ·exact .inl (e'.trans e)
  ·exact .inr ⟨by rw [<-e]; exact a',b'⟩
  ·exact .inr ⟨h'.mono _ (h.n0 x hx) a,by rw [e']; exact h'.mono _ (h.n1 x hx) b⟩
  ·exact .inr ⟨h'.mono _ (h.n0 x hx) a,b'⟩⟩
include hl
theorem Rch.word (h:Rch l p m m') (hp:PenOk p) (hz:m.size=l.cells):∀ y,l.nd y->zbJ l y=true->gf l m' y 2=gf l m y 2\/(zae (gf l m' y 2)).1.thread=p.thread:=by
 induction h with
 | refl=>exact fun _ _ _=>.inl Z
 | ld i _ ih=>exact ih
 | @nf σ x f v h hf _ ih =>
  intro y hy hs
  have:gf l (st σ (l.field x f) v) y 2=gf l σ y 2:=zap fun e=>by
   rcases zcy hl (x:=x) (f:=f) (by omega) with h | ⟨z,hz,h,_⟩
   ·have:=zaL hl hy (f:=2) (by decide); omega
   ·rw [h,zac hl hy (by decide) hz (by omega)] at e; omega
  rw [this]; exact ih y hy hs
 | @par σ x v h hsx _ ih =>
  intro y hy hs
  have:gf l (st σ (l.field x 2) v) y 2=gf l σ y 2:=zap fun e=>by
   rcases zcy hl (x:=x) (f:=2) (by omega) with h | ⟨z,hz,h,hn⟩
   ·have:=zaL hl hy (f:=2) (by decide); omega
   ·rw [h,zac hl hy (by decide) hz (by omega)] at e
    rw [e.1] at hs
    unfold zbJ at hs hsx
    rw [hn,hs] at hsx; cases hsx
  rw [this]; exact ih y hy hs
 | @low σ j v h hj _ ih =>
  intro y hy hs
  have:gf l (st σ j v) y 2=gf l σ y 2:=zap fun e=>zaO hl hj hy (by decide) e.symm
  rw [this]; exact ih y hy hs
 | @wr σ x q h hsx ih =>
  unfold Pen.write
  split
  ·next hu =>
   split
   ·next hr =>
    intro y hy hs
    rcases zcy hl (x:=x) (f:=2) (by omega) with h1 | ⟨z,hz',h1,hn⟩
    ·have:gf l (st (MemLike.ld σ (l.field x 2)) (l.field x 2) (p.to q (zae (get σ (l.field x 2))).1).pack) y 2=gf l σ y 2:=by rw [h1,zkl (by omega)]; rfl
     rw [this]; exact ih y hy hs
    ·by_cases e:y=z
     ·subst e
      have hto:=zcc.1 hr
      have hg:gf l (st (MemLike.ld σ (l.field x 2)) (l.field x 2) (p.to q (zae (get σ (l.field x 2))).1).pack) y 2=zee (p.to q (zae (gf l σ y 2)).1):=by
       rw [h1] at hto ⊢
       rw [zcT hto]
       show get (st σ (l.field y 2) _:M) (l.field y 2)=_
       rw [za4 hl (by rw [h.size]; exact hz) hy (by decide) (zbS hto),Zp Z]
      rw [h1] at hto
      rw [hg,za1 hto]
      exact .inr Z
     ·have:gf l (st (MemLike.ld σ (l.field x 2)) (l.field x 2) (p.to q (zae (get σ (l.field x 2))).1).pack) y 2=gf l σ y 2:=zap fun e2=>by
       rw [h1,zac hl hy (by decide) hz' (by decide)] at e2; exact e e2.1
      rw [this]; exact ih y hy hs
   ·exact ih
  ·exact ih
include hp
theorem Rch.mono (h:Rch l p m m') (hz:m.size=l.cells):∀ x,l.nd x->Wn l m x->Wn l m' x:=fun x hx a hs=>by
 have tp:=hp.t
 rcases h.word hl hp hz x hx hs with e | e
 ·rw [e]; exact a hs
 ·rw [e]; omega
theorem Zr.same (hR:Rch l p m m') (hF:Forest l pr mk m F) (hF':Forest l pr mk' m' F):Zr l m m' :=
 ⟨fun x hx=>by rw [hF.rtm hl hx]; exact (hF.root_nd hl hx).1,fun x hx=>by rw [hF'.rtm hl hx]; exact (hF'.root_nd hl hx).1,hR.mono hl hp hF.size,fun x hx=>.inl (by rw [hF'.rtm hl hx,hF.rtm hl hx])⟩
theorem Zr.chg (hR:Rch l p m m') (hF:Forest l pr mk m F) (hF':Forest l pr mk' m' F') (h:∀ x,l.nd x->F' x=F x\/Wn l m' (F x).root/\Wn l m' (F' x).root):Zr l m m' :=
 ⟨fun x hx=>by rw [hF.rtm hl hx]; exact (hF.root_nd hl hx).1,fun x hx=>by rw [hF'.rtm hl hx]; exact (hF'.root_nd hl hx).1,hR.mono hl hp hF.size,fun x hx=>by
  rw [hF'.rtm hl hx,hF.rtm hl hx]
  exact (h x hx).imp (fun e=>by rw [e]) id⟩
theorem zyj {σ:M} (hz:σ.size=l.cells) {x q:Int} (hx:l.nd x) (hq:l.lk q) (hw:wOk l σ x):Wn l (hang l p σ x q) x:=fun hs=>by
 have tp:=hp.t
 have hu:=hw.1 hs
 have hx0:x≠0:=by unfold Lay.nd at hx; omega
 have hn:=zaB hl
 obtain ⟨hok,hue⟩:=zcg hu
 have hto:(p.to q (zae (gf l σ x 2)).1).Ok:=by
  obtain ⟨h1,h2,h3,h4,h5⟩:=hok
  obtain ⟨g1,g2⟩:=hp
  unfold Lay.lk at hq
  unfold Pen.to
  refine ⟨?_,by dsimp only; omega,by dsimp only; omega,g2,fun hz=>?_⟩
  ·dsimp only; split<;>omega
  ·dsimp only at hz; omega
 have e:hang l p σ x q=st σ (l.field x 2) (p.to q (zae (gf l σ x 2)).1).pack:=by
  unfold hang
  rw [Zn hx0,Zp hs]
  unfold Pen.write
  rw [Zp hu,Zp (zcc.2 hto)]
  rfl
 rw [e]
 unfold gf
 rw [za4 hl hz hx (by decide) (by rw [zcT hto]; exact zbS hto),Zp Z,zcT hto,za1 hto]
 show p.thread≠0
 omega
theorem zlL {σ:M} (hz:σ.size=l.cells) {x q:Int} (hx:l.nd x) (hq:l.lk q) (hw:wOk l (hang l p σ x q) x):Wn l (hang l p σ x q) x:=by
 by_cases h:wOk l σ x
 ·exact zyj hl hp hz hx hq h
 ·intro hs
  exfalso
  have hx0:x≠0:=by unfold Lay.nd at hx; omega
  have hu:(zae (get σ (l.field x 2))).2=false:=by
   cases e:(zae (get σ (l.field x 2))).2 with
   | false=>rfl
   | true=>exact absurd ⟨fun _=>e,fun c=>by rw [hs] at c; cases c⟩ h
  have e:hang l p σ x q=ld σ (l.field x 2):=by
   unfold hang
   rw [Zn hx0,Zp hs]
   unfold Pen.write
   rw [Zn (by rw [hu]; decide)]
  rw [e] at hw
  have h2:(zae (get σ (l.field x 2))).2=true:=hw.1 hs
  rw [hu] at h2; cases h2
omit hp in
theorem zyk {σ:M} {x y q:Int} (hx:l.nd x) (hy:l.nd y) (hne:y≠x):gf l (hang l p σ x q) y 2=gf l σ y 2:=by
 have hf:l.field y 2≠l.field x 2:=fun e=>hne ((zac hl hy (by decide) hx (by decide)).1 e).1
 unfold hang
 split
 ·rfl
 ·split
  ·unfold Pen.write
   split
   ·split
    ·exact zap hf
    ·rfl
   ·rfl
  ·exact zap hf
theorem zrp {k:Nat} {σ:M} {x n:Int} {r:(Int×Int)×M} (hx:x≠0) (e:split l p k σ x n=some r):r.1.1=x\/r.1.2=x:=by
 cases k with
 | zero=>simp [split] at e
 | succ k =>
  rw [split,Zn hx] at e
  dsimp only at e
  split at e
  ·obtain ⟨a,_,h2⟩:=Zb e
   cases h2; exact .inr rfl
  ·obtain ⟨a,_,h2⟩:=Zb e
   cases h2; exact .inl rfl
theorem Forest.splitZ (hF:Forest l pr mk m F) {t:T} (ht:Tree l F t) (n:Nat) {k:Nat} (hk:560<k) {r:(Int×Int)×M} (e:zeb l p k m t.root n=some r):Zr l m r.2:=by
 have hnb:=zaB hl
 obtain ⟨a,b,σ',F',e1,la,lb,hF',ta,tb,hn,hfr⟩:=hF.split hl hp ht n hk
 have er:((a.root,b.root),σ')=r:=by rw [e1] at e; injection e
 subst er
 have hR:Rch l p m σ':=zf9 e .refl
 refine Zr.chg hl hp hR hF hF' fun x hx=>?_
 by_cases hm:x∈t.list
 ·right
  obtain ⟨q,h1,h2⟩:=Zb e
  injection h2 with h2
  have q1:q.1.1=a.root:=congrArg (fun z=>z.1.1) h2
  have q2:q.1.2=b.root:=congrArg (fun z=>z.1.2) h2
  have q3:hang l p (hang l p q.2 a.root 0) b.root 0=σ':=by rw [<-q1,<-q2]; exact congrArg Prod.snd h2
  have lk0:l.lk 0:=by unfold Lay.lk; omega
  have zs:q.2.size=l.cells:=by
   have h3:Rch l p m q.2:=zk9 h1 (zcl .refl)
   rw [h3.size]; exact hF.size
  have z2:(hang l p q.2 a.root 0:M).size=l.cells:=by
   have h3:Rch l p q.2 (hang l p q.2 a.root 0):=zkB .refl
   rw [h3.size]; exact zs
  have fa:=ta.facts hl hF'
  have fb:=tb.facts hl hF'
  have wb:b.root≠0->Wn l σ' b.root:=fun h0=>by
   have nb:=fb.2.2.1.nd _ (fb.2.2.1.root_mem h0)
   rw [<-q3]
   exact zlL hl hp z2 nb lk0 (by rw [q3]; exact fb.2.2.1.wOk hl (fb.2.2.1.root_mem h0))
  have wa:a.root≠0->Wn l σ' a.root:=fun h0=>by
   have na:=fa.2.2.1.nd _ (fa.2.2.1.root_mem h0)
   by_cases hab:a.root=b.root
   ·rw [hab]; exact wb (by rw [<-hab]; exact h0)
   ·have h9:gf l σ' a.root 2=gf l (hang l p q.2 a.root 0) a.root 2:=by
     by_cases hb0:b.root=0
     ·rw [<-q3,hb0]; unfold hang; rw [Zp Z]
     ·rw [<-q3]; exact zyk hl (fb.2.2.1.nd _ (fb.2.2.1.root_mem hb0)) na hab
    have w2:=zlL hl hp zs na lk0 (x:=a.root) (by have:=fa.2.2.1.wOk hl (fa.2.2.1.root_mem h0); unfold wOk at this ⊢; rw [<-h9]; exact this)
    intro hs
    rw [h9]; exact w2 hs
  have ft:=ht.facts hl hF
  have t0:t.root≠0:=fun h0=>by have:=ft.2.2.1.nil_iff.1 h0; subst this; cases hm
  have wt:Wn l σ' t.root:=by
   rcases zrp hl hp t0 h1 with c | c
   ·rw [<-c,q1]; exact wa (by rw [<-q1,c]; exact t0)
   ·rw [<-c,q2]; exact wb (by rw [<-q2,c]; exact t0)
  refine ⟨by rw [(ht x hm).2]; exact wt,?_⟩
  have hx2:x∈a.list\/x∈b.list:=by rw [<-List.mem_append,la,lb,List.take_append_drop]; exact hm
  rcases hx2 with h | h
  ·rw [(ta x h).2]; exact wa fun h0=>by have:=fa.2.2.1.nil_iff.1 h0; subst this; cases h
  ·rw [(tb x h).2]; exact wb fun h0=>by have:=fb.2.2.1.nil_iff.1 h0; subst this; cases h
 ·exact .inl (hn x hm)
theorem Forest.mergeZ (hF:Forest l pr mk m F) {a b:T} (ha:Tree l F a) (hb:Tree l F b) (hdis:∀ y∈a.list,y∉b.list) {k:Nat} (hk:560<k) {r:Int×M} (e:zei l p k m a.root b.root=some r):Zr l m r.2:=by
 have hnb:=zaB hl
 obtain ⟨t,σ',F',e1,lt,hF',tt,hn,hfr⟩:=hF.merge hl hp ha hb hdis hk
 have er:(t.root,σ')=r:=by rw [e1] at e; injection e
 subst er
 have hR:Rch l p m σ':=zgd e .refl
 have ft:=tt.facts hl hF'
 have wt:t.root≠0->Wn l σ' t.root:=fun h0=>by
  obtain ⟨q,h1,h2⟩:=Zb e
  injection h2 with h2
  have q1:q.1=t.root:=congrArg Prod.fst h2
  have q3:hang l p q.2 t.root 0=σ':=by rw [<-q1]; exact congrArg Prod.snd h2
  have zs:q.2.size=l.cells:=by
   have h3:Rch l p m q.2:=zlr h1 .refl
   rw [h3.size]; exact hF.size
  rw [<-q3]
  exact zlL hl hp zs (ft.2.2.1.nd _ (ft.2.2.1.root_mem h0)) (by unfold Lay.lk; omega) (by rw [q3]; exact ft.2.2.1.wOk hl (ft.2.2.1.root_mem h0))
 have wr:∀ c:T,Tree l F c->c.root≠0->c.root∈t.list->Wn l σ' c.root:=fun c hc c0 hm=>by
  have fc:=hc.facts hl hF
  have nc:=fc.2.2.1.nd _ (fc.2.2.1.root_mem c0)
  by_cases ec:c.root=t.root
  ·rw [ec]; exact wt (by rw [<-ec]; exact c0)
  ·intro hs
   have tp:=hp.t
   rcases hR.word hl hp hF.size _ nc hs with h | h
   ·exfalso
    have hp0:parent l σ' c.root=0:=(zbD h).trans (fc.2.2.2.1 c0)
    have:=hF'.par0 hl nc hp0
    rw [(tt _ hm).2] at this
    exact ec this.symm
   ·rw [h]; omega
 refine Zr.chg hl hp hR hF hF' fun x hx=>?_
 by_cases hm:x∈t.list
 ·right
  have t0:t.root≠0:=fun h0=>by have:=ft.2.2.1.nil_iff.1 h0; subst this; cases hm
  refine ⟨?_,by rw [(tt x hm).2]; exact wt t0⟩
  rw [lt,List.mem_append] at hm
  rcases hm with h | h
  ·have c0:a.root≠0:=fun h0=>by have:=(ha.facts hl hF).2.2.1.nil_iff.1 h0; subst this; cases h
   rw [(ha x h).2]; exact wr a ha c0 (by rw [lt,List.mem_append]; exact .inl ((ha.facts hl hF).2.2.1.root_mem c0))
  ·have c0:b.root≠0:=fun h0=>by have:=(hb.facts hl hF).2.2.1.nil_iff.1 h0; subst this; cases h
   rw [(hb x h).2]; exact wr b hb c0 (by rw [lt,List.mem_append]; exact .inr ((hb.facts hl hF).2.2.1.root_mem c0))
 ·rw [lt,List.mem_append,not_or] at hm
  exact .inl (hn x hm.1 hm.2)
end
section
variable {l:Lay} (hl:l.Ok) {p:Pen} (hp:PenOk p) {mk:Int->Int} {pr:Int->Int} {σ:M} {F:Int->T}
include hl hp
theorem Forest.beginZ (hF:Forest l pr mk σ F) {i u:Int} (hu:l.okV i u) {A B:List Int} (he:(F (l.vertex i u)).list=A++l.vertex i u :: B) {k:Nat} (hk:560<k) :
  ∃ r σ',ze5 l p k σ i u=some (r,σ')/\Zr l σ σ':=by
 have h1:=(zaf hl hu).1
 unfold ze5
 dsimp only
 rw [hF.root hl h1 hk,Option.bind_some]
 dsimp only
 rw [hF.index hl h1 he hk,Option.bind_some]
 dsimp only
 obtain ⟨a,b,σ1,F1,e1,la,lb,hF1,ta,tb,hn,hfr⟩:=hF.split hl hp (hF.tree hl h1) A.length hk
 rw [e1,Option.bind_some]
 rw [he,List.take_left] at la
 rw [he,List.drop_left] at lb
 have hnd:=hF.nodup _ h1
 rw [he] at hnd
 have hdj:∀ y∈b.list,y∉a.list:=fun y hy hy'=>by
  rw [la] at hy'; rw [lb] at hy
  exact (List.nodup_append.1 hnd).2.2 y hy' y hy Z
 obtain ⟨t,σ2,F2,e2,lt,hF2,tt,hn2,hfr2⟩:=hF1.merge hl hp tb ta hdj hk
 dsimp only
 exact ⟨t.root,σ2,e2,(hF.splitZ hl hp (hF.tree hl h1) A.length hk e1).trans (hF1.mergeZ hl hp tb ta hdj hk e2)⟩
theorem Forest.linkZ (hF:Forest l pr mk σ F) {i s u v:Int} (hu:l.okV i u) (hv:l.okV i v) (h0:l.okA s i 0) (h1:l.okA s i 1) {A B C D:List Int} (hA:(F (l.vertex i u)).list=A++l.vertex i u :: B) (hC:(F (l.vertex i v)).list=C++l.vertex i v :: D)
  (ht:(F (l.arc s i 0)).list=[l.arc s i 0]) (hb:(F (l.arc s i 1)).list=[l.arc s i 1]) (hne:F (l.vertex i u)≠F (l.vertex i v)) {k:Nat} (hk:560<k) :
  ∃ r σ',Go.Tm.link l p k σ i s u v=some (r,σ')/\Zr l σ σ':=by
 have nu:=(zaf hl hu).1
 have nv:=(zaf hl hv).1
 have n0:=(zay hl h0).1
 have n1:=(zay hl h1).1
 have n01:l.arc s i 0≠l.arc s i 1:=fun h=>by have:=((zbH hl h0 h1).1 h).2.2; omega
 have dUV:∀ y,y∈A++l.vertex i u :: B->y∉C++l.vertex i v :: D:=fun y hy hy'=>by
  rw [<-hA] at hy; rw [<-hC] at hy'
  exact hne (by rw [<-hF.cls _ nu y hy,hF.cls _ nv y hy'])
 have alone:∀ a,l.nd a->(F a).list=[a]->∀ x,l.nd x->a∈(F x).list->x=a:=fun a ha hal x hx hax=>by
  have:=hF.cls x hx a hax
  have hxx:=hF.mem x hx
  rw [<-this,hal] at hxx
  simpa using hxx
 have va:∀ d,l.okA s i d->l.vertex i u≠l.arc s i d/\l.vertex i v≠l.arc s i d:=fun d hd=>⟨zaN hl hu hd,zaN hl hv hd⟩
 have d0U:l.arc s i 0∉A++l.vertex i u :: B:=fun h=>by rw [<-hA] at h; exact (va 0 h0).1 (alone _ n0 ht _ nu h)
 have d1U:l.arc s i 1∉A++l.vertex i u :: B:=fun h=>by rw [<-hA] at h; exact (va 1 h1).1 (alone _ n1 hb _ nu h)
 have d0V:l.arc s i 0∉C++l.vertex i v :: D:=fun h=>by rw [<-hC] at h; exact (va 0 h0).2 (alone _ n0 ht _ nv h)
 have d1V:l.arc s i 1∉C++l.vertex i v :: D:=fun h=>by rw [<-hC] at h; exact (va 1 h1).2 (alone _ n1 hb _ nv h)
 unfold Go.Tm.link
 obtain ⟨t1,σ1,F1,e1,l1,hF1,tt1,hn1,fr1⟩:=hF.begin hl hp hu hA hk
 have z1:Zr l σ σ1:=by
  obtain ⟨r9,σ9,e9,z9⟩:=hF.beginZ hl hp hu hA hk
  rw [e1] at e9; cases e9; exact z9
 rw [e1,Option.bind_some]
 dsimp only
 have m1:∀ y,y∈t1.list↔y∈A++l.vertex i u :: B:=fun y=>by rw [l1,List.mem_append,List.mem_append]; exact or_comm
 have tth:Tree l F1 (F (l.arc s i 0)):=fun y hy=>by
  rw [ht] at hy; simp at hy; subst hy
  exact ⟨n0,hn1 _ d0U⟩
 have r0:(F (l.arc s i 0)).root=l.arc s i 0:=by
  have hr:=hF.rep _ n0
  have:(F (l.arc s i 0)).root≠0:=fun h=>by rw [(hr.nil_iff).1 h] at ht; cases ht
  have:=hr.root_mem this
  rw [ht] at this; simpa using this
 have r1:(F (l.arc s i 1)).root=l.arc s i 1:=by
  have hr:=hF.rep _ n1
  have:(F (l.arc s i 1)).root≠0:=fun h=>by rw [(hr.nil_iff).1 h] at hb; cases hb
  have:=hr.root_mem this
  rw [hb] at this; simpa using this
 have dj2:∀ y∈t1.list,y∉(F (l.arc s i 0)).list:=fun y hy hy'=>by rw [ht] at hy'; simp at hy'; subst hy'; exact d0U ((m1 _).1 hy)
 obtain ⟨t2,σ2,F2,e2,l2,hF2,tt2,hn2,fr2⟩:=hF1.merge hl hp tt1 tth dj2 hk
 have z2:=hF1.mergeZ hl hp tt1 tth dj2 hk e2
 rw [r0] at e2
 rw [e2,Option.bind_some]
 dsimp only
 have hC2:(F2 (l.vertex i v)).list=C++l.vertex i v :: D:=by
  have hvm:l.vertex i v∈C++l.vertex i v :: D:=by simp
  rw [hn2 _ (fun h=>dUV _ ((m1 _).1 h) hvm) (by rw [ht]; simp; exact (va 0 h0).2),hn1 _ (fun h=>dUV _ h hvm)]
  exact hC
 obtain ⟨t3,σ3,F3,e3,l3,hF3,tt3,hn3,fr3⟩:=hF2.begin hl hp hv hC2 hk
 have z3:Zr l σ2 σ3:=by
  obtain ⟨r9,σ9,e9,z9⟩:=hF2.beginZ hl hp hv hC2 hk
  rw [e3] at e9; cases e9; exact z9
 rw [e3,Option.bind_some]
 dsimp only
 have m3:∀ y,y∈t3.list↔y∈C++l.vertex i v :: D:=fun y=>by rw [l3,List.mem_append,List.mem_append]; exact or_comm
 have m2:∀ y,y∈t2.list->y∉C++l.vertex i v :: D:=fun y hy hy'=>by
  rw [l2,List.mem_append,m1,ht,List.mem_singleton] at hy
  rcases hy with hy | rfl
  ·exact dUV y hy hy'
  ·exact d0V hy'
 have tt2':Tree l F3 t2:=fun y hy=>⟨(tt2 y hy).1,by rw [hn3 y (m2 y hy)]; exact (tt2 y hy).2⟩
 obtain ⟨t4,σ4,F4,e4,l4,hF4,tt4,hn4,fr4⟩:=hF3.merge hl hp tt2' tt3 (fun y hy hy'=>m2 y hy ((m3 y).1 hy')) hk
 have z4:=hF3.mergeZ hl hp tt2' tt3 (fun y hy hy'=>m2 y hy ((m3 y).1 hy')) hk e4
 rw [e4,Option.bind_some]
 dsimp only
 have d1t2:l.arc s i 1∉t2.list:=by
  rw [l2,List.mem_append,m1,ht,List.mem_singleton]
  rintro (h | h)
  ·exact d1U h
  ·exact n01 h.symm
 have d1t3:l.arc s i 1∉t3.list:=fun h=>d1V ((m3 _).1 h)
 have tb4:Tree l F4 (F (l.arc s i 1)):=fun y hy=>by
  rw [hb] at hy; simp at hy; subst hy
  refine ⟨n1,?_⟩
  rw [hn4 _ d1t2 d1t3,hn3 _ d1V,hn2 _ (fun h=>d1U ((m1 _).1 h)) (by rw [ht]; simp; exact Ne.symm n01),hn1 _ d1U]
 have dj5:∀ y∈t4.list,y∉(F (l.arc s i 1)).list:=fun y hy hy'=>by
  rw [hb] at hy'; simp at hy'; subst hy'
  rw [l4,List.mem_append] at hy
  rcases hy with hy | hy
  ·exact d1t2 hy
  ·exact d1t3 hy
 obtain ⟨t5,σ5,F5,e5,l5,hF5,tt5,hn5,fr5⟩:=hF4.merge hl hp tt4 tb4 dj5 hk
 have z5:=hF4.mergeZ hl hp tt4 tb4 dj5 hk e5
 rw [r1] at e5
 exact ⟨_,σ5,e5,(((z1.trans z2).trans z3).trans z4).trans z5⟩
theorem Forest.cutZ (hF:Forest l pr mk σ F) {i s:Int} (h0:l.okA s i 0) (h1:l.okA s i 1) {e1 e2:Int} (he:(e1=l.arc s i 0/\e2=l.arc s i 1)\/(e1=l.arc s i 1/\e2=l.arc s i 0)) {A B C:List Int}
  (hL:(F (l.arc s i 0)).list=A++e1 :: (B++e2 :: C)) {k:Nat} (hk:560<k) :
  ∃ r σ',Go.Tm.cut l p k σ i s=some (r,σ')/\Zr l σ σ':=by
 have n0:=(zay hl h0).1
 have n1:=(zay hl h1).1
 have n01:l.arc s i 0≠l.arc s i 1:=fun h=>by have:=((zbH hl h0 h1).1 h).2.2; omega
 have hnd:=hF.nodup _ n0
 rw [hL] at hnd
 have hb0:l.arc s i 1∈(F (l.arc s i 0)).list:=by rw [hL]; rcases he with ⟨q1,q2⟩ | ⟨q1,q2⟩<;>simp [q1,q2]
 have hF1:F (l.arc s i 1)=F (l.arc s i 0):=hF.cls _ n0 _ hb0
 have ix1:∀ x,l.nd x->F x=F (l.arc s i 0)->x=e1->Go.Tm.index l k σ x=some ((A.length:Int),σ):=fun x hx hFx hxe=>hF.index hl hx (post:=B++e2 :: C) (by rw [hFx,hL,hxe]) hk
 have ix2:∀ x,l.nd x->F x=F (l.arc s i 0)->x=e2->Go.Tm.index l k σ x=some (((A++e1 :: B).length:Int),σ):=fun x hx hFx hxe=>hF.index hl hx (post:=C) (by rw [hFx,hL,hxe]; simp) hk
 have hlen:(A++e1 :: B).length=A.length+1+B.length:=by simp only [List.length_append,List.length_cons]; omega
 unfold Go.Tm.cut
 dsimp only
 obtain ⟨x0,x1,i0,i1,hmin,hmax⟩:∃ x0 x1:Int,Go.Tm.index l k σ (l.arc s i 0)=some (x0,σ)/\Go.Tm.index l k σ (l.arc s i 1)=some (x1,σ)/\(if x1<x0 then x1 else x0)=((A.length:Nat):Int)/\(if x1<x0 then x0 else x1)=(((A++e1 :: B).length:Nat):Int):=by
  rcases he with ⟨q1,q2⟩ | ⟨q1,q2⟩
  ·exact ⟨_,_,ix1 _ n0 Z q1.symm,ix2 _ n1 hF1 q2.symm,by rw [Zn (by omega)],by rw [Zn (by omega)]⟩
  ·exact ⟨_,_,ix2 _ n0 Z q2.symm,ix1 _ n1 hF1 q1.symm,by rw [Zp (by omega)],by rw [Zp (by omega)]⟩
 rw [i0,Option.bind_some]
 dsimp only
 rw [i1,Option.bind_some]
 dsimp only
 rw [hF.root hl n0 hk,Option.bind_some]
 dsimp only
 rw [hmax,hmin]
 have spl:A++e1 :: (B++e2 :: C)=(A++e1 :: B)++(e2 :: C):=by simp
 obtain ⟨a1,b1,σ1,F1,e1',la1,lb1,hF1',ta1,tb1,hn1,fr1⟩:=hF.split hl hp (hF.tree hl n0) (A++e1 :: B).length hk
 have z1:=hF.splitZ hl hp (hF.tree hl n0) (A++e1 :: B).length hk e1'
 rw [hL,spl,List.take_left] at la1
 rw [hL,spl,List.drop_left] at lb1
 rw [e1',Option.bind_some]
 dsimp only
 obtain ⟨a2,b2,σ2,F2,e2',la2,lb2,hF2,ta2,tb2,hn2,fr2⟩:=hF1'.split hl hp tb1 1 hk
 have z2:=hF1'.splitZ hl hp tb1 1 hk e2'
 rw [lb1] at la2 lb2
 rw [show ((1:Nat):Int)=1 from Z] at e2'
 rw [e2',Option.bind_some]
 dsimp only
 have hnd3:((A++e1 :: B)++(e2 :: C)).Nodup:=by rw [<-spl]; exact hnd
 have dis12:∀ y∈A++e1 :: B,y∉e2 :: C:=fun y hy hy'=>(List.nodup_append.1 hnd3).2.2 y hy y hy' Z
 have ta1':Tree l F2 a1:=ta1.keep fun y hy=>hn2 y (by rw [lb1]; rw [la1] at hy; exact dis12 y hy)
 obtain ⟨a3,b3,σ3,F3,e3',la3,lb3,hF3,ta3,tb3,hn3,fr3⟩:=hF2.split hl hp ta1' A.length hk
 have z3:=hF2.splitZ hl hp ta1' A.length hk e3'
 rw [la1,List.take_left] at la3
 rw [la1,List.drop_left] at lb3
 rw [e3',Option.bind_some]
 dsimp only
 obtain ⟨a4,b4,σ4,F4,e4',la4,lb4,hF4,ta4,tb4,hn4,fr4⟩:=hF3.split hl hp tb3 1 hk
 have z4:=hF3.splitZ hl hp tb3 1 hk e4'
 rw [lb3] at la4 lb4
 rw [show ((1:Nat):Int)=1 from Z] at e4'
 rw [e4',Option.bind_some]
 dsimp only
 have sa2:a2.list=[e2]:=by rw [la2]; rfl
 have sb2:b2.list=C:=by rw [lb2]; rfl
 have sa4:a4.list=[e1]:=by rw [la4]; rfl
 have sb4:b4.list=B:=by rw [lb4]; rfl
 have d2:∀ y∈e2 :: C,F4 y=F2 y:=fun y hy=>by
  have h1:y∉A++e1 :: B:=fun h=>dis12 y h hy
  rw [hn4 y (by rw [lb3]; exact fun h=>h1 (List.mem_append.2 (.inr h))),hn3 y (by rw [la1]; exact h1)]
 have ta2':Tree l F4 a2:=ta2.keep fun y hy=>d2 y (by rw [sa2] at hy; simp at hy; simp [hy])
 have tb2':Tree l F4 b2:=tb2.keep fun y hy=>d2 y (by rw [sb2] at hy; simp [hy])
 have hndA:=(List.nodup_append.1 hnd3).1
 have disA:∀ y∈A,y∉e1 :: B:=fun y hy hy'=>(List.nodup_append.1 hndA).2.2 y hy y hy' Z
 have ta3':Tree l F4 a3:=ta3.keep fun y hy=>hn4 y (by rw [lb3]; rw [la3] at hy; exact disA y hy)
 have ne1:l.nd e1:=by rcases he with ⟨q,_⟩ | ⟨q,_⟩<;>rw [q]<;>assumption
 have ne2:l.nd e2:=by rcases he with ⟨_,q⟩ | ⟨_,q⟩<;>rw [q]<;>assumption
 have l1:(F4 e1).list=[e1]:=ta4.of_list hF4 ne1 sa4 (by simp)
 have l2:(F4 e2).list=[e2]:=ta2'.of_list hF4 ne2 sa2 (by simp)
 have hl0:(F4 (l.arc s i 0)).list=[l.arc s i 0]:=by rcases he with ⟨q1,q2⟩ | ⟨q1,q2⟩; rw [<-q1]; exact l1; rw [<-q2]; exact l2
 have hl1:(F4 (l.arc s i 1)).list=[l.arc s i 1]:=by rcases he with ⟨q1,q2⟩ | ⟨q1,q2⟩; rw [<-q2]; exact l2; rw [<-q1]; exact l1
 obtain ⟨hF5,fr5⟩:=hF4.alone hl hp n0 hl0
 have z5:=Zr.same hl hp (zl9 .refl) hF4 hF5
 obtain ⟨hF6,fr6⟩:=hF5.alone hl hp n1 hl1
 have z6:=Zr.same hl hp (zl9 .refl) hF5 hF6
 have disAC:∀ y∈a3.list,y∉b2.list:=fun y hy hy'=>by
  rw [la3] at hy; rw [sb2] at hy'
  exact dis12 y (List.mem_append.2 (.inl hy)) (List.mem_cons_of_mem _ hy')
 obtain ⟨t,σ7,F7,e7,l7,hF7,t7,hn7,fr7⟩:=hF6.merge hl hp ta3' tb2' disAC hk
 have z7:=hF6.mergeZ hl hp ta3' tb2' disAC hk e7
 rw [e7,Option.bind_some]
 exact ⟨_,σ7,Z,(((((z1.trans z2).trans z3).trans z4).trans z5).trans z6).trans z7⟩
end
section
variable {l:Lay} (hl:l.Ok) {p:Pen} (hp:PenOk p) {mk:Int->Int} {pr:Int->Int} {σ σ':M} {F:Int->T} {L:Int->Int->List Int} {g g':G} {P P':Int->Int->Prop} {B B':Int->Prop} {K K':Int->Int->Prop}
include hl hp
theorem Inv.linkZ (h:Inv l pr σ F mk g L P B K) {s i:Int} (hi:0<=i/\i<l.lev) (hh:g.has s=true) (hP:¬P i s) (hc:¬Conn (P i) g.u g.v (g.u s) (g.v s)) {k:Nat} (hk:560<k) {r:Int×M} (e:Go.Tm.link l p k σ i s (g.u s) (g.v s)=some r):Zr l σ r.2:=by
 obtain ⟨hu,hv,h0,h1⟩:=h.okuv hl hh hi
 have nu:=(zaf hl hu).1
 have nv:=(zaf hl hv).1
 have hT:=h.tours i hi
 have hF:=h.lm.forest
 have hne:F (l.vertex i (g.u s))≠F (l.vertex i (g.v s)):=fun he=>hc ((hT.row_iff hl hi hu hv).1 he)
 obtain ⟨A,C,hA⟩:=List.append_of_mem (hF.mem _ nu)
 obtain ⟨A',C',hA'⟩:=List.append_of_mem (hF.mem _ nv)
 obtain ⟨r9,σ9,e9,z9⟩:=hF.linkZ hl hp hu hv h0 h1 hA hA' (hT.single s 0 h0 hP) (hT.single s 1 h1 hP) hne hk
 rw [e9] at e; cases e; exact z9
theorem Inv.cutZ (h:Inv l pr σ F mk g L P B K) {s i:Int} (hi:0<=i/\i<l.lev) (hP:P i s) {k:Nat} (hk:560<k) {r:(Int×Int)×M} (e:Go.Tm.cut l p k σ i s=some r):Zr l σ r.2:=by
 have hh:=h.ph i s hP
 obtain ⟨hu,hv,h0,h1⟩:=h.okuv hl hh hi
 have hT:=h.tours i hi
 have hF:=h.lm.forest
 have n0:=(zay hl h0).1
 have n1:=(zay hl h1).1
 have n01:l.arc s i 0≠l.arc s i 1:=fun he=>by have:=((zbH hl h0 h1).1 he).2.2; omega
 have m0:=hF.mem _ n0
 have m1:l.arc s i 1∈(F (l.arc s i 0)).list:=by rw [<-(hT.arcs s hP).1]; exact hF.mem _ n1
 obtain ⟨e1,e2,A,Bm,C,he,hL⟩:∃ e1 e2 A Bm C,((e1=l.arc s i 0/\e2=l.arc s i 1)\/(e1=l.arc s i 1/\e2=l.arc s i 0))/\(F (l.arc s i 0)).list=A++e1 :: (Bm++e2 :: C):=by
  obtain ⟨X,Y,hXY⟩:=List.append_of_mem m0
  rw [hXY] at m1
  rcases List.mem_append.1 m1 with hm | hm
  ·obtain ⟨X1,X2,hX⟩:=List.append_of_mem hm
   exact ⟨_,_,X1,X2,Y,.inr ⟨Z,Z⟩,by rw [hXY,hX]; simp⟩
  ·rcases List.mem_cons.1 hm with hm | hm
   ·exact absurd hm.symm n01
   ·obtain ⟨Y1,Y2,hY⟩:=List.append_of_mem hm
    exact ⟨_,_,X,Y1,Y2,.inl ⟨Z,Z⟩,by rw [hXY,hY]⟩
 obtain ⟨r9,σ9,e9,z9⟩:=hF.cutZ hl hp h0 h1 he hL hk
 rw [e9] at e; cases e; exact z9
theorem Inv.sameZ {mk':Int->Int} {L':Int->Int->List Int} (h:Inv l pr σ F mk g L P B K) (h':Inv l pr σ' F mk' g' L' P' B' K') (hR:Rch l p σ σ'):Zr l σ σ':=Zr.same hl hp hR h.lm.forest h'.lm.forest
theorem zvm {s:Int} (hh:g.has s=true) {m:Nat} (hm:560<m) {n:Int} (hn:n<=l.lev):∀ (j k:Nat) (i:Int) {σ:M} {F:Int->T} {r:M},i+j=n->0<=i->j<k->Inv l pr σ F mk g L (fun a q=>P a q\/(q=s/\0<=a/\a<i)) B K->(∀ a,i<=a->a<n->¬P a s/\¬Conn (P a) g.u g.v (g.u s) (g.v s)) ->
  zco l p s (g.u s) (g.v s) k m σ i n=some r->Zr l σ r:=by
 intro j
 induction j with
 | zero =>
  intro k i σ F r hij h0 hk h hc e
  obtain ⟨k,rfl⟩:∃ q,k=q+1:=⟨k - 1,by omega⟩
  rw [zco,Zn (by omega)] at e
  cases e
  exact h.sameZ hl hp h .refl
 | succ j ih =>
  intro k i σ F r2 hij h0 hk h hc e9
  obtain ⟨k,rfl⟩:∃ q,k=q+1:=⟨k - 1,by omega⟩
  have hin:i<n:=by omega
  have lb:=zbz hl
  obtain ⟨c1,c2⟩:=hc i (Int.le_refl _) hin
  have d1:¬(P i s\/(s=s/\0<=i/\i<i)):=fun hq=>by rcases hq with hq | hq; exact c1 hq; omega
  have d2:¬Conn (fun q=>P i q\/(q=s/\0<=i/\i<i)) g.u g.v (g.u s) (g.v s):=fun hq=>c2 (hq.mono fun q hq=>by rcases hq with hq | hq; exact hq; omega)
  obtain ⟨r,σ1,F1,e,h1⟩:=h.link hl hp (s:=s) (i:=i) ⟨h0,by omega⟩ hh d1 d2 hm
  have z1:=h.linkZ hl hp (s:=s) (i:=i) ⟨h0,by omega⟩ hh d1 d2 hm e
  rw [zco,Zp hin,e,Option.bind_some] at e9
  dsimp only at e9
  rw [zaU (by omega)] at e9
  exact z1.trans (ih k (i+1) (by omega) (by omega) (by omega) (h1.iff hl (P':=fun a q=>P a q\/(q=s/\0<=a/\a<i+1)) (fun a q ha=>by
    constructor
    ·rintro ((hq | hq) | hq)
     ·exact .inl hq
     ·exact .inr ⟨hq.1,hq.2.1,by omega⟩
     ·exact .inr ⟨hq.2,by omega,by omega⟩
    ·rintro (hq | hq)
     ·exact .inl (.inl hq)
     ·by_cases hai:a<i
      ·exact .inl (.inr ⟨hq.1,hq.2.1,hai⟩)
      ·exact .inr ⟨by omega,hq.1⟩) (fun a q hq=>by rcases hq with hq | hq; exact h1.ph a q (.inl (.inl hq)); rw [hq.1]; exact hh) (fun _=>.rfl) (fun _ _ _=>.rfl)) (fun a ha ha'=>hc a (by omega) ha') e9)
theorem Inv.plantZ (h:Inv l pr σ F mk g L P B K) {s:Int} (hh:g.has s=true) (hc:∀ a,0<=a->a<=g.lv s->¬P a s/\¬Conn (P a) g.u g.v (g.u s) (g.v s)) {k:Nat} (hk:560<k) {r:M} (e:Go.Tm.plant l p k σ s=some r):Zr l σ r:=by
 obtain ⟨r1,r2,r3⟩:=h.edges.rng s hh
 have lb:=zbz hl
 obtain ⟨e1,e2⟩:=zdR hl h.edges hh
 have ht:=h.turn hl (s:=s) (t:=true) hh
 unfold Go.Tm.plant at e
 dsimp only at e
 rw [e1,e2] at e
 dsimp only at e
 rw [zaU (by omega)] at e
 have ht':Inv l pr (zgs l σ s true) F mk (g.turn s true) L (fun a q=>P a q\/(q=s/\0<=a/\a<0)) B K:=ht.iff hl (fun a q _=>by constructor; exact .inl; rintro (hq | hq); exact hq; omega) (fun a q hq=>by rcases hq with hq | hq; exact ht.ph a q hq; omega) (fun _=>.rfl) (fun _ _ _=>.rfl)
 obtain ⟨σ1,F1,e3,h1⟩:=zji hl hp (g:=g.turn s true) (s:=s) hh hk (n:=g.lv s+1) (by omega) (g.lv s+1).toNat k 0 (by omega) (by omega) (by omega) ht' (fun a ha ha'=>hc a ha (by omega))
 have z1:=zvm hl hp (g:=g.turn s true) (s:=s) hh hk (n:=g.lv s+1) (by omega) (g.lv s+1).toNat k 0 (by omega) (by omega) (by omega) ht' (fun a ha ha'=>hc a ha (by omega)) e3
 rw [show zco l p s (g.u s) (g.v s) k k (zgs l σ s true) 0 (g.lv s+1)=some σ1 from e3,Option.bind_some] at e
 obtain ⟨σ2,mk2,e4,h2⟩:=h1.lmark hl (s:=s) (i:=g.lv s) ⟨r1,r3,by omega⟩ true hk
 rw [e4] at e; cases e
 exact ((h.sameZ hl hp ht (ztQ .refl)).trans z1).trans (h1.sameZ hl hp h2 (zhM e4 .refl))
theorem zyr {s:Int} {m:Nat} (hm:560<m) {n:Int} (hn:n<=l.lev):∀ (j k:Nat) (i:Int) {σ:M} {F:Int->T} {mk:Int->Int} {K:Int->Int->Prop} {r:M},i+j=n->0<=i->j<k->Inv l pr σ F mk g L (fun a q=>P a q/\¬(q=s/\0<=a/\a<i)) B K->(∀ a,0<=a->a<n->P a s) ->
  zeq l p s k m σ i n=some r->Zr l σ r:=by
 intro j
 induction j with
 | zero =>
  intro k i σ F mk K r hij h0 hk h hc e
  obtain ⟨k,rfl⟩:∃ q,k=q+1:=⟨k - 1,by omega⟩
  rw [zeq,Zn (by omega)] at e
  cases e
  exact h.sameZ hl hp h .refl
 | succ j ih =>
  intro k i σ F mk K r2 hij h0 hk h hc e9
  obtain ⟨k,rfl⟩:∃ q,k=q+1:=⟨k - 1,by omega⟩
  have hin:i<n:=by omega
  have lb:=zbz hl
  obtain ⟨r,σ1,F1,mk1,e,h1,_⟩:=h.cut hl hp (s:=s) (i:=i) ⟨h0,by omega⟩ ⟨hc i h0 hin,by omega⟩ hm
  have z1:=h.cutZ hl hp (s:=s) (i:=i) ⟨h0,by omega⟩ ⟨hc i h0 hin,by omega⟩ hm e
  rw [zeq,Zp hin,e,Option.bind_some] at e9
  dsimp only at e9
  rw [zaU (by omega)] at e9
  exact z1.trans (ih k (i+1) (by omega) (by omega) (by omega) (h1.iff hl (P':=fun a q=>P a q/\¬(q=s/\0<=a/\a<i+1)) (fun a q ha=>by
    constructor
    ·rintro ⟨⟨q1,q2⟩,q3⟩
     exact ⟨q1,fun hq=>by
      by_cases hai:a=i
      ·exact q3 ⟨hai,hq.1⟩
      ·exact q2 ⟨hq.1,hq.2.1,by omega⟩⟩
    ·rintro ⟨q1,q2⟩
     exact ⟨⟨q1,fun hq=>q2 ⟨hq.1,hq.2.1,by omega⟩⟩,fun hq=>q2 ⟨hq.2,by omega,by omega⟩⟩) (fun a q hq=>h.ph a q ⟨hq.1,fun hq'=>hq.2 ⟨hq'.1,hq'.2.1,by omega⟩⟩) (fun _=>.rfl) (fun _ _ _=>.rfl)) (fun a ha ha'=>hc a ha ha') e9)
theorem Inv.fellZ (h:Inv l pr σ F mk g L P B K) {s:Int} (hh:g.has s=true) (hc:∀ a,0<=a->a<=g.lv s->P a s) {k:Nat} (hk:560<k) {r:M} (e:Go.Tm.fell l p k σ s=some r):Zr l σ r:=by
 obtain ⟨r1,r2,r3⟩:=h.edges.rng s hh
 have lb:=zbz hl
 obtain ⟨e1,e2⟩:=zdR hl h.edges hh
 unfold Go.Tm.fell at e
 rw [e1,e2] at e
 dsimp only at e
 rw [zaU (by omega)] at e
 exact zyr hl hp (s:=s) hk (n:=g.lv s+1) (by omega) (g.lv s+1).toNat k 0 (by omega) (by omega) (by omega) (h.iff hl (P':=fun a q=>P a q/\¬(q=s/\0<=a/\a<0)) (fun a q _=>⟨fun hq=>⟨hq,by omega⟩,fun hq=>hq.1⟩) (fun a q hq=>h.ph a q hq.1) (fun _=>.rfl) (fun _ _ _=>.rfl)) (fun a ha ha'=>hc a ha (by omega)) e
theorem zau.plainZ (h:zau l pr σ g) {s:Int} (hh:g.has s=true) (ht:g.tr s=false) (hv:g.lv s+1<l.lev) {k:Nat} (hk:560<k) {r:M} (e:Go.Tm.plain l k σ s=some r):Zr l σ r:=by
 obtain ⟨F,mk,L,h⟩:=h
 have hr:=h.edges.rng s hh
 have lb:=zbz hl
 obtain ⟨e1,e2⟩:=zdR hl h.edges hh
 obtain ⟨σ1,mk1,L1,p1,h1⟩:=h.remove hl ⟨hh,ht⟩ hk
 have h2:=h1.lift hl (s:=s) (i:=g.lv s+1) hh (fun hB=>hB.2 Z) ⟨by omega,hv⟩
 obtain ⟨σ2,mk2,L2,p2,h3⟩:=h2.add hl (s:=s) hh (fun hB=>hB.2 rfl) hk
 have e':Go.Tm.plain l k σ s=some σ2:=by
  unfold Go.Tm.plain
  dsimp only
  rw [e1,e2,p1,Option.bind_some]
  dsimp only
  rw [zaU (by omega)]
  exact p2
 have er:σ2=r:=by rw [e'] at e; injection e
 subst er
 exact h.sameZ hl hp h3 (zr8 e .refl)
theorem zau.treeUpZ (h:zau l pr σ g) {s:Int} (hh:g.has s=true) (ht:g.tr s=true) (hv:g.lv s+1<l.lev) {k:Nat} (hk:560<k) {r:M} (e:Go.Tm.treeUp l p k σ s=some r):Zr l σ r:=by
 obtain ⟨F,mk,L,h⟩:=h
 have hr:=h.edges.rng s hh
 have lb:=zbz hl
 obtain ⟨e1,e2⟩:=zdR hl h.edges hh
 have hT:=h.tours (g.lv s) hr.2.2
 have hno:¬Conn (Pg g (g.lv s+1)) g.u g.v (g.u s) (g.v s):=fun hc=>hT.bridge hl hr.2.2 h.lm.forest (s:=s) ⟨hh,ht,Int.le_refl _⟩ (hc.mono fun q hq=>by
  refine ⟨⟨hq.1,hq.2.1,?_⟩,fun he=>?_⟩
  ·have:=hq.2.2; omega
  ·subst he; have:=hq.2.2; omega)
 obtain ⟨σ1,mk1,p1,h1⟩:=h.lmark hl (s:=s) (i:=g.lv s) ⟨hr.1,hr.2.2,by omega⟩ false hk
 have h2:=h1.lift hl (s:=s) (i:=g.lv s+1) hh (fun hB=>by rw [hB.2] at ht; cases ht) ⟨by omega,hv⟩
 obtain ⟨r3,σ3,F3,p3,h3⟩:=h2.link hl hp (s:=s) (i:=g.lv s+1) ⟨by omega,hv⟩ hh (fun hP=>by have:=hP.2.2; omega) hno hk
 have z3:=h2.linkZ hl hp (s:=s) (i:=g.lv s+1) ⟨by omega,hv⟩ hh (fun hP=>by have:=hP.2.2; omega) hno hk p3
 obtain ⟨σ4,mk4,p4,h4⟩:=h3.lmark hl (s:=s) (i:=g.lv s+1) ⟨hr.1,⟨by omega,hv⟩,by omega⟩ true hk
 have e':Go.Tm.treeUp l p k σ s=some σ4:=by
  unfold Go.Tm.treeUp
  dsimp only
  rw [e1,e2]
  dsimp only
  rw [p1,Option.bind_some,zaU (by omega)]
  have p3':Go.Tm.link l p k (zgt l σ1 s (g.lv s+1)) (g.lv s+1) s (g.u s) (g.v s)=some (r3,σ3):=p3
  rw [p3',Option.bind_some]
  exact p4
 have er:σ4=r:=by rw [e'] at e; injection e
 subst er
 exact ((h.sameZ hl hp h2 (zoq (zhM p1 .refl))).trans z3).trans (h3.sameZ hl hp h4 (zhM p4 .refl))
theorem zau.reflZ (h:zau l pr σ g):Zr l σ σ:=by
 obtain ⟨F,mk,L,h⟩:=h; exact h.sameZ hl hp h .refl
theorem zuW {i v:Int} (hv:l.okV i v) (hi:i+1<l.lev) {m:Nat} (hm:560<m):∀ (n k:Nat) {σ:M} {g:G} {x:Int} {r:M},cntE l g i true<=n->n<k->zau l pr σ g->lfirst l m σ i v 1=some (x,σ)->zcn l p i v k m σ x=some r->Zr l σ r:=by
 intro n
 induction n with
 | zero =>
  intro k σ g x r hc hk h hx e
  obtain ⟨k,rfl⟩:∃ q,k=q+1:=⟨k - 1,by omega⟩
  obtain ⟨y,hy,hcase⟩:=h.first1 hl hv hm
  rw [hx] at hy
  have hxy:x=y:=by simp at hy; exact hy
  subst hxy
  rcases hcase with ⟨h0,hn⟩ | ⟨h0,s,hs,hh,ht,hls,hj⟩
  ·rw [zcn,Zn (by simp [h0])] at e; cases e; exact h.reflZ hl hp
  ·have:=zfZ hl (h.rng hl hh).1 hh ht hls; omega
 | succ n ih =>
  intro k σ g x r hc hk h hx e
  obtain ⟨k,rfl⟩:∃ q,k=q+1:=⟨k - 1,by omega⟩
  obtain ⟨y,hy,hcase⟩:=h.first1 hl hv hm
  rw [hx] at hy
  have hxy:x=y:=by simp at hy; exact hy
  subst hxy
  rcases hcase with ⟨h0,hn⟩ | ⟨h0,s,hs,hh,ht,hls,hj⟩
  ·rw [zcn,Zn (by simp [h0])] at e; cases e; exact h.reflZ hl hp
  ·obtain ⟨σ1,e1,h1⟩:=h.treeUp hl hp hh ht (by omega) hm
   have z1:=h.treeUpZ hl hp hh ht (by omega) hm e1
   rw [hls] at h1
   obtain ⟨x1,hx1,_⟩:=h1.first1 hl hv hm
   have hlt:=zfZ hl (h.rng hl hh).1 hh ht hls
   rw [zcn,Zp h0,hs,e1,Option.bind_some,hx1,Option.bind_some] at e
   exact z1.trans (ih k (by omega) (by omega) h1 hx1 e)
theorem zau.treesZ (h:zau l pr σ g) {i v:Int} (hv:l.okV i v) (hi:i+1<l.lev) {k:Nat} (hk:560<k) {r:M} (e:Go.Tm.trees l p k σ i v=some r):Zr l σ r:=by
 obtain ⟨x,hx,_⟩:=h.first1 hl hv hk
 unfold Go.Tm.trees at e
 rw [hx,Option.bind_some] at e
 exact zuW hl hp hv hi hk (cntE l g i true) k (Nat.le_refl _) (by have:=zpW hl (g:=g) (i:=i) (t:=true); omega) h hx e
theorem zxD {i v:Int} (hv:l.okV i v) (hi:i+1<l.lev) {m:Nat} (hm:560<m):∀ (n k:Nat) {σ:M} {g:G} {x:Int} {r:(Int×Bool)×M},cntE l g i false<=n->n<k->zau l pr σ g->lfirst l m σ i v 0=some (x,σ)->zde l i v k m σ x=some r->Zr l σ r.2:=by
 intro n
 induction n with
 | zero =>
  intro k σ g x r hc hk h hx e
  obtain ⟨k,rfl⟩:∃ q,k=q+1:=⟨k - 1,by omega⟩
  obtain ⟨y,hy,hcase⟩:=h.first0 hl hv hm
  rw [hx] at hy
  have hxy:x=y:=by simp at hy; exact hy
  subst hxy
  rcases hcase with ⟨h0,hn⟩ | ⟨h0,w,s,hw,hs,hh,ht,hls,huv,hj⟩
  ·rw [zde,Zn (by simp [h0])] at e; cases e; exact h.reflZ hl hp
  ·have:=zfZ hl (h.rng hl hh).1 hh ht hls; omega
 | succ n ih =>
  intro k σ g x r hc hk h hx e
  obtain ⟨k,rfl⟩:∃ q,k=q+1:=⟨k - 1,by omega⟩
  obtain ⟨y,hy,hcase⟩:=h.first0 hl hv hm
  rw [hx] at hy
  have hxy:x=y:=by simp at hy; exact hy
  subst hxy
  rcases hcase with ⟨h0,hn⟩ | ⟨h0,w,s,hw,hs,hh,ht,hls,huv,hj⟩
  ·rw [zde,Zn (by simp [h0])] at e; cases e; exact h.reflZ hl hp
  ·have hr:=h.rng hl hh
   have hu:l.okV i (g.u s):=⟨hv.1,by omega⟩
   have hv2:l.okV i (g.v s):=⟨hv.1,by omega⟩
   obtain ⟨b,e1,hb⟩:=h.same hl hu hv2 hm
   have hge:=h.eget hl hh
   have start:zde l i v (k+1) m σ x=(Go.Tm.same l m σ i (g.u s) (g.v s)).bind fun b=>if b.1 then (Go.Tm.plain l m b.2 s).bind fun σ2=>(lfirst l m σ2 i v 0).bind fun r=>zde l i v k m r.2 r.1 else some ((s,true),b.2):=by
    rw [zde,Zp h0]
    dsimp only
    rw [hw,hs]
    have:(zf5 l σ w i:M)=σ:=rfl
    rw [this,hge]
    rfl
   rw [start,e1,Option.bind_some] at e
   dsimp only at e
   cases b with
   | false=>rw [Zn (by decide)] at e; cases e; exact h.reflZ hl hp
   | true =>
    rw [Zp Z] at e
    obtain ⟨σ1,e2,h1⟩:=h.plain hl hh ht (by omega) hm
    have z1:=h.plainZ hl hp hh ht (by omega) hm e2
    rw [hls] at h1
    obtain ⟨x1,hx1,_⟩:=h1.first0 hl hv hm
    have hlt:=zfZ hl hr.1 hh ht hls
    rw [e2,Option.bind_some,hx1,Option.bind_some] at e
    exact z1.trans (ih k (by omega) (by omega) h1 hx1 e)
theorem zau.seekZ (h:zau l pr σ g) {i v:Int} (hv:l.okV i v) (hi:i+1<l.lev) {k:Nat} (hk:560<k) {r:(Int×Bool)×M} (e:Go.Tm.seek l k σ i v=some r):Zr l σ r.2:=by
 obtain ⟨x,hx,_⟩:=h.first0 hl hv hk
 unfold Go.Tm.seek at e
 rw [hx,Option.bind_some] at e
 exact zxD hl hp hv hi hk (cntE l g i false) k (Nat.le_refl _) (by have:=zpW hl (g:=g) (i:=i) (t:=false); omega) h hx e
theorem zau.replantZ (h:zau l pr σ g) {q:Int} (hh:g.has q=true) (ht:g.tr q=false) (hc:∀ a,0<=a->a<=g.lv q->¬Jn g a (g.u q) (g.v q)) {k:Nat} (hk:560<k) {σ1 σ2:M} (e1:Go.Tm.remove l k σ q=some σ1) (e2:Go.Tm.plant l p k σ1 q=some σ2):Zr l σ σ2:=by
 obtain ⟨F,mk,L,h⟩:=h
 obtain ⟨σ3,mk1,L1,e3,h1⟩:=h.remove hl ⟨hh,ht⟩ hk
 have er:σ3=σ1:=by rw [e3] at e1; injection e1
 subst er
 exact (h.sameZ hl hp h1 (zg3 e1 .refl)).trans (h1.plantZ hl hp hh (fun a ha ha'=>⟨fun hP=>(by have:=hP.2.1; rw [ht] at this; cases this),hc a ha ha'⟩) hk e2)
theorem zrI (hR:zau l pr σ g) {u v i:Int} (hD:DelI l g u v i) (hi:0<=i) (hi2:i+1<l.lev) (hu:0<=u/\u<l.V) (hv:0<=v/\v<l.V) {k:Nat} (hk:560<k) {q9:(Int×Bool)×M} (e:replace l p k σ i u v=some q9):Zr l σ q9.2:=by
 have lb:=zbz hl
 have ou:l.okV i u:=⟨⟨hi,by omega⟩,hu⟩
 have ov:l.okV i v:=⟨⟨hi,by omega⟩,hv⟩
 obtain ⟨w,hw,hwuv⟩:∃ w,(if nv l g i v<nv l g i u then v else u)=w/\(w=u\/w=v):=by
  split
  ·exact ⟨v,Z,.inr Z⟩
  ·exact ⟨u,Z,.inl Z⟩
 have ow:l.okV i w:=by rcases hwuv with rfl | rfl<;>assumption
 have e1:=hR.smaller hl ou ov hk
 rw [hw] at e1
 obtain ⟨σ1,g1,e2,hR1,hA1⟩:=hR.trees hl hp ow hi2 hk
 have z1:=hR.treesZ hl hp ow hi2 hk e2
 obtain ⟨r,σ2,g2,C,e3,hR2,hA2,hC,hFo⟩:=hR1.seek hl ow hi2 hk
 have z2:=hR1.seekZ hl hp ow hi2 hk e3
 have jn1:∀ {j x y},j<=i->(Jn g1 j x y↔Jn g j x y):=fun hj=>hA1.jn hl hj
 have jn2:∀ {j x y},j<=i->(Jn g2 j x y↔Jn g j x y):=fun hj=>(hA2.jn hl hj).trans (jn1 hj)
 have E2:Ext g g2:=hA1.ext.trans hA2.ext
 have tr2:g2.tr=g.tr:=hA2.tr.trans hA1.tr
 have no2:¬Jn g2 0 u v:=fun c=>hD.no ((jn2 hi).1 c)
 have lo2:∀ q,g2.has q=true->g2.tr q=false->g2.lv q<=i->Jn g2 (g2.lv q) (g2.u q) (g2.v q)\/(Jn g2 (g2.lv q) (g2.u q) u/\Jn g2 (g2.lv q) (g2.v q) v)\/(Jn g2 (g2.lv q) (g2.u q) v/\Jn g2 (g2.lv q) (g2.v q) u):=fun q hq ht hle=>by
  rw [E2.has] at hq; rw [tr2] at ht; rw [E2.u,E2.v]
  have n1:¬(g.has q=true/\g.tr q=true/\g.lv q=i/\Jn g i w (g.u q)):=fun c=>by rw [ht] at c; cases c.2.1
  have n2:¬C q:=fun c=>by have:=(hA2.up q c).2.2; omega
  have h1:g2.lv q=g.lv q:=(hA2.st q n2).trans (hA1.st q n1)
  rw [h1] at hle ⊢
  simp only [jn2 hle]
  exact hD.lo q hq ht hle
 have wr:IntKind.i64.wrap (i+1)=i+1:=zaU (by omega)
 unfold replace at e
 rw [wr,Zn (by omega),e1] at e
 dsimp only [Option.bind_some] at e
 rw [e2] at e
 dsimp only [Option.bind_some] at e
 rw [e3] at e
 dsimp only [Option.bind_some] at e
 rcases hFo with ⟨hr,hno⟩ | ⟨hr,hq,ht,hlv,hnj,hone⟩
 ·rw [hr] at e
  rw [Zn (by decide)] at e
  cases e
  exact z1.trans z2
 ·rw [hr,Zp Z] at e
  have hcr:(Jn g2 i (g2.u r.1) u/\Jn g2 i (g2.v r.1) v)\/(Jn g2 i (g2.u r.1) v/\Jn g2 i (g2.v r.1) u):=by
   rcases lo2 r.1 hq ht (by omega) with c | c | c
   ·rw [hlv] at c; exact absurd c hnj
   ·rw [hlv] at c; exact .inl c
   ·rw [hlv] at c; exact .inr c
  have hcn:∀ a,0<=a->a<=g2.lv r.1->¬Jn g2 a (g2.u r.1) (g2.v r.1):=fun a ha ha' c=>no2 (by
   rw [hlv] at ha'
   rcases hcr with ⟨c1,c2⟩ | ⟨c1,c2⟩
   ·exact Jn.down (g:=g2) (i:=a) ((Conn.symm (c1.down ha')).trans (c.trans (c2.down ha'))) ha
   ·exact Jn.down (g:=g2) (i:=a) ((Conn.symm (c2.down ha')).trans ((Conn.symm c).trans (c1.down ha'))) ha)
  obtain ⟨σ3,σ4,e4,e5,hR4⟩:=hR2.replant hl hp hq ht hcn hk
  have z3:=hR2.replantZ hl hp hq ht hcn hk e4 e5
  rw [e4] at e
  dsimp only [Option.bind_some] at e
  rw [e5] at e
  cases e
  exact (z1.trans z2).trans z3
theorem zks {u v:Int} (hu:0<=u/\u<l.V) (hv:0<=v/\v<l.V) {m:Nat} (hm:560<m):∀ (n k:Nat) {σ:M} {g:G} {i:Int} {b:Int×Bool} {q9:(Int×Bool)×M},i=(n:Int) - 1->n<k->i+1<l.lev->zau l pr σ g->DelI l g u v i->b=(0,false) ->
  zbb l p u v k m σ i b=some q9->Zr l σ q9.2
 | 0,k+1,σ,g,i,b,q9,hi,_,_,hR,hD,hb,e=>by
  rw [zbb,Zn (by omega)] at e
  cases e
  exact hR.reflZ hl hp
 | n+1,k+1,σ,g,i,b,q9,hi,hk,hi2,hR,hD,hb,e=>by
  obtain ⟨r,σ1,g1,e1,hR1,hE,hc⟩:=zfL hl hp hR hD (by omega) hi2 hu hv hm
  have z1:=zrI hl hp hR hD (by omega) hi2 hu hv hm e1
  rw [zbb,Zp (by omega),e1] at e
  dsimp only [Option.bind_some] at e
  rcases hc with ⟨hr,ht,hD1⟩ | ⟨hr,hH,hj,h1,h2,h3⟩
  ·rw [hr,Zn (by decide),zaU (by have:=zbz hl; omega)] at e
   exact z1.trans (zks hu hv hm n k (i:=i - 1) (by omega) (by omega) (by omega) hR1 hD1 (Z:((0:Int),false)=(0,false)) e)
  ·rw [hr,Zp Z] at e
   cases e
   exact z1
theorem zsQ (hR:zau l pr σ g) (hH:Hdt l g) {s:Int} (hh:g.has s=true) {k:Nat} (hk:560<k) {q9:(Bool×Int×Bool)×M} (e9:zbk l p k σ s=some q9):Zr l σ q9.2:=by
 have hr:=hR.rng hl hh
 have e:=hR.eget hl hh
 unfold zbk at e9
 dsimp only at e9
 rw [e] at e9
 dsimp only at e9
 cases ht:g.tr s with
 | false =>
  rw [ht,Zn (by decide),show zeH l σ s=σ from Z] at e9
  obtain ⟨F,mk,L,h⟩:=hR
  obtain ⟨σ1,mk1,L1,e1,h1⟩:=h.remove hl ⟨hh,ht⟩ hk
  rw [e1,Option.bind_some] at e9
  cases e9
  exact Zr.same hl hp (zhq (zg3 e1 .refl)) h.lm.forest (h1.lm.forest.low hl (by unfold zbW; rw [zaz]) fun j hj=>by
   refine zap fun e=>?_
   have:=zdf hl ⟨hr.2.1.1,hr.2.1.2.1⟩ hr.2.1.2.2
   omega)
 | true =>
  rw [ht,Zp Z,show zeH l σ s=σ from Z] at e9
  obtain ⟨σ1,e1,hR1⟩:=hR.fell_del hl hp hh ht hk
  have htop:=(hH.top hl (fun q hq=>by have:=hR.rng hl hq; exact ⟨this.2.1,this.2.2.1⟩) hh).1
  have hb:¬Conn (fun q=>Pg g 0 q/\q≠s) g.u g.v (g.u s) (g.v s):=by
   obtain ⟨F,mk,L,hI⟩:=hR
   exact (hI.tours 0 (by have:=zbz hl; omega)).bridge hl (by have:=zbz hl; omega) hI.lm.forest ⟨hh,ht,hr.2.2.1⟩
  have hD:=DelI.start hH hh ht ⟨⟨hr.2.1.1,by omega⟩,by omega,hr.2.1.2.2⟩ hr.2.2.1 hb
  rw [e1] at e9
  dsimp only [Option.bind_some] at e9
  obtain ⟨q8,e8,e9⟩:=Zb e9
  have z2:=zks hl hp ⟨hr.2.1.1,by omega⟩ ⟨by omega,hr.2.1.2.2⟩ hk ((g.lv s).toNat+1) k (i:=g.lv s) (by omega) (by have:=zbz hl; omega) htop hR1 hD (Z:((0:Int),false)=(0,false)) e8
  cases e9
  obtain ⟨F,mk,L,h⟩:=hR
  have z1:=h.fellZ hl hp hh (fun a _ ha=>⟨hh,ht,ha⟩) hk e1
  obtain ⟨σ1',F1,mk1,e1',h1⟩:=h.fell hl hp hh (fun a _ ha=>⟨hh,ht,ha⟩) hk
  have er:σ1'=σ1:=by rw [e1'] at e1; injection e1
  subst er
  have z3:Zr l σ1' (zbW l σ1' (g.u s) (g.v s)):=Zr.same hl hp (zhq .refl) h1.lm.forest (h1.lm.forest.low hl (by unfold zbW; rw [zaz]) fun j hj=>by
   refine zap fun e=>?_
   have:=zdf hl ⟨hr.2.1.1,hr.2.1.2.1⟩ hr.2.1.2.2
   omega)
  exact (z1.trans z3).trans z2
theorem zsN (hR:zau l pr σ g) {s a b:Int} (hsr:0<=s/\s<l.S) (ha:0<=a/\a<l.V) (hb:0<=b/\b<l.V) (hne:a≠b) (hno:g.has s=false) (hfree:∀ s,g.has s=true->¬(g.u s=min a b/\g.v s=max a b)) {k:Nat} (hk:560<k) {q9:Bool×M} (e9:zbf l p k σ s a b=some q9):Zr l σ q9.2:=by
 have lb:=zbz hl
 obtain ⟨j,e,hj⟩:=hR.same hl (i:=0) (u:=a) (v:=b) ⟨by omega,ha⟩ ⟨by omega,hb⟩ hk
 have hmm:Jn g 0 (min a b) (max a b)↔Jn g 0 a b:=by
  rcases Int.lt_or_le a b with h | h
  ·rw [Int.min_eq_left (by omega),Int.max_eq_right (by omega)]
  ·rw [Int.min_eq_right h,Int.max_eq_left h]; exact ⟨fun c=>c.symm,fun c=>c.symm⟩
 unfold zbf at e9
 rw [e] at e9
 dsimp only [Option.bind_some] at e9
 obtain ⟨F,mk,L,h⟩:=hR
 have h1:=h.put hl (t:=false) hsr (a:=a) (b:=b) (by omega) (by omega) (by omega) (i:=0) (by omega) hno hfree
 have z1:Zr l σ (eput l σ s a b 0 false):=h.sameZ hl hp h1 (ztU .refl)
 have hh:(g.put s (min a b) (max a b) 0 false).has s=true:=by unfold G.put updB; simp
 cases j with
 | true =>
  rw [Zp Z] at e9
  obtain ⟨σ2,mk',L',e2,h2⟩:=h1.add hl hh (fun hB=>by rw [hB.1] at hno; cases hno) hk
  rw [e2] at e9
  cases e9
  exact z1.trans (h1.sameZ hl hp h2 (zzJ e2 .refl))
 | false =>
  have hnj:¬Jn g 0 a b:=fun c=>by have:=hj.2 c; cases this
  rw [Zn (by decide)] at e9
  obtain ⟨σ2,e2,e9⟩:=Zb e9
  cases e9
  have eu:(g.put s (min a b) (max a b) 0 false).u s=min a b:=by unfold G.put updI; simp
  have ev:(g.put s (min a b) (max a b) 0 false).v s=max a b:=by unfold G.put updI; simp
  have el:(g.put s (min a b) (max a b) 0 false).lv s=0:=by unfold G.put updI; simp
  refine z1.trans (h1.plantZ hl hp hh (fun i hi hi'=>?_) hk e2)
  rw [el] at hi'
  have:i=0:=by omega
  subst this
  refine ⟨fun hP=>(by rw [hP.1] at hno; cases hno),fun hc=>hnj (hmm.1 ?_)⟩
  rw [eu,ev] at hc
  exact hc.ends fun q hq=>by
   have hqs:q≠s:=fun hqs=>by rw [hqs] at hq; rw [hq.1] at hno; cases hno
   unfold G.put updI; simp [hqs]
end
structure Bz (l:Lay) (pr:Int->Int) (m1 m':M) (g':G) (row0:Array Acc) (μ:M):Prop where
 z:Zr l m1 μ
 rt:zau l pr μ g'
 w:∀ x,V0 l x->¬l.field x 2∈chgL row0->gf l μ x 2=gf l m1 x 2
 p:∀ x,V0 l x->parent l m' x=parent l μ x
theorem zkt {l:Lay} {p:Pen} {k:Nat} {held:Array Int} {b:Bool} {u v:Int} {σ:Tr} {P:PlanS} (e:planF l p k held b u v σ=some P):P.tree=b:=by
 unfold planF at e
 obtain ⟨q1,_,e⟩:=Zb e
 obtain ⟨q2,_,e⟩:=Zb e
 cases e
 cases b with
 | true=>rw [Zp Z]; rfl
 | false=>rw [Zn (by decide)]
section
variable {W:Pt} {pr ver:Int->Int} {g g':G} {En Lv:Int->Prop} {σ:Tr} {m:M}
theorem zr4 (h:Rdy W pr ver g) (ht:Twin W En Lv σ m) (hw:Writ W.l pr W.p W.par0 ver m g') (hR:Rch W.l W.p W.m1 m) {u v:Int} (hu:W.C u) (hv:W.C v) {held:Array Int} (hh:∀ i,i<held.size->W.N held[i]!) (hZ:Zr W.l W.m1 m) {ex:PlanS} (he:planF W.l W.p 561 held true u v σ=some ex) :
  ∃ row0 A C1 C2 m' ver',PlanD W pr ver g' held ex.roots row0 ex A C1 C2 m' ver'/\Bz W.l pr W.m1 m' g' row0 m:=by
 have hW:=h.ok
 have hl:=hW.hl
 obtain ⟨rt,hrt,_,_⟩:=hw.rt.roots hl
 have hcu:=hW.hc u hu
 have hcv:=hW.hc v hv
 have lb:=zbz hl
 have Nu:W.N (W.l.vertex 0 u):=(nV hW h.pt ⟨by omega,hcu⟩).2 hu
 have Nv:W.N (W.l.vertex 0 v):=(nV hW h.pt ⟨by omega,hcv⟩).2 hv
 obtain ⟨τ1,e1,t1,n1,q1,z1⟩:=zfK hW ht hw.rt hrt (vx0 hl hcu) Nu
 obtain ⟨τ2,e2,t2,n2,q2,z2⟩:=zfK hW t1 hw.rt hrt (vx0 hl hcv) Nv
 unfold planF at he
 rw [e1,Option.bind_some] at he
 dsimp only at he
 rw [e2,Option.bind_some] at he
 dsimp only at he
 have hrs:∀ i,i<(zaw (rt (W.l.vertex 0 u)) (rt (W.l.vertex 0 v))).size->W.N (zaw (rt (W.l.vertex 0 u)) (rt (W.l.vertex 0 v)))[i]!:=fun i hi=>by
  have:=zdx.1 (zb8.2 ⟨i,hi,Z⟩)
  rcases this with e | e<;>rw [e]<;>assumption
 rw [Zp Z] at he
 obtain ⟨A,C1,C2,m',ver',hD,hpar⟩:=zr3 h t2 hw hR (held:=held) (rs:=zaw (rt (W.l.vertex 0 u)) (rt (W.l.vertex 0 v))) hh hrs
 cases he
 refine ⟨τ2.row,A,C1,C2,m',ver',by rw [hD.roots]; exact hD,hZ,hw.rt,fun x hx hc=>?_,hpar⟩
 have a2:=t2.ag h.eq
 by_cases ha:W.A2 (W.l.field x 2)
 ·have x1:get τ2.mem (W.l.field x 2)=gf W.l m x 2:=a2.eq _ ha
  rw [<-x1,<-a2.rp.run,zeE fun a ha hs e=>hc (ziS.2 ⟨a,ha,hs,e⟩)]
  exact h.eq _ ha
 ·exact a2.fr _ ha
theorem ins_z (h:Rdy W pr ver g) {s u v:Int} (hs:W.E s) (hu:W.C u) (hv:W.C v) (hne:u≠v) (hno:g.has s=false) (hf:∀ q,g.has q=true->¬(g.u q=min u v/\g.v q=max u v)) {held:Array Int} (hh:∀ i,i<held.size->W.N held[i]!) {b:Bool} {τ:Tr} {ex:PlanS}
  (e1:zbf W.l W.p 561 (⟨W.m0,#[]⟩:Tr) s u v=some (b,τ)) (e2:planF W.l W.p 561 held b u v τ=some ex) (ht:ex.tree=true) :
  ∃ g2 row0 A C1 C2 m' ver' μ,PlanD W pr ver g2 held ex.roots row0 ex A C1 C2 m' ver'/\Bz W.l pr W.m1 m' g2 row0 μ:=by
 have hW:=h.ok
 have hl:=hW.hl
 obtain ⟨t,m',e,hw,hr⟩:=h.writ.ins hl hW.hp h.hT (hW.he s hs) (hW.hc u hu) (hW.hc v hv) hne hno hf
 have hZ:=zsN hl hW.hp h.calm.rt (hW.he s hs) (hW.hc u hu) (hW.hc v hv) hne hno hf (by decide) e
 have k:=zjt hW 561 h.twin hs (fun c=>by have:=c.1; rw [hno] at this; cases this) hu hv
 rw [e] at k
 have fin:∀ {En Lv:Int->Prop} {τ2:Tr},Twin W En Lv τ2 m'->zbf W.l W.p 561 (⟨W.m0,#[]⟩:Tr) s u v=some (t,τ2)->∃ g2 row0 A C1 C2 m' ver' μ,PlanD W pr ver g2 held ex.roots row0 ex A C1 C2 m' ver'/\Bz W.l pr W.m1 m' g2 row0 μ:=fun {En Lv τ2} h3 er=>by
  rw [e1] at er
  cases er
  have eb:=zkt e2
  rw [ht] at eb
  subst eb
  obtain ⟨row0,A,C1,C2,m2,ver',hD,hB⟩:=zr4 h h3 hw hr hu hv hh hZ e2
  exact ⟨_,row0,A,C1,C2,m2,ver',m',hD,hB⟩
 rcases k with k | k
 ·obtain ⟨⟨t',τ⟩,er,h1,_,h3⟩:=k.ex
  dsimp only at h1 h3
  subst h1
  exact fin h3 er
 ·obtain ⟨⟨t',τ⟩,er,h1,_,h3⟩:=k.ex
  dsimp only at h1 h3
  subst h1
  exact fin h3 er
theorem del_z (h:Rdy W pr ver g) {s:Int} (hh0:g.has s=true) (hu:W.C (g.u s)) {held:Array Int} (hh:∀ i,i<held.size->W.N held[i]!) {r:Bool×Int×Bool} {τ:Tr} {ex:PlanS}
  (e1:zbk W.l W.p 561 (⟨W.m0,#[]⟩:Tr) s=some (r,τ)) (e2:planF W.l W.p 561 held r.1 (g.u s) (g.v s) τ=some ex) (ht:ex.tree=true) :
  ∃ g2 row0 A C1 C2 m' ver' μ,PlanD W pr ver g2 held ex.roots row0 ex A C1 C2 m' ver'/\Bz W.l pr W.m1 m' g2 row0 μ:=by
 have hW:=h.ok
 have hl:=hW.hl
 obtain ⟨t,b,o,m',g',e,hw,_,_,_,hr⟩:=h.writ.del hl hW.hp h.hT hh0
 have hZ:=zsQ hl hW.hp h.calm.rt h.calm.hd hh0 (by decide) e
 have k:=zjw hW (k:=561) (by decide) h.twin h.calm.rt h.calm.hd h.pt.ptg hh0 hu
 rw [e] at k
 obtain ⟨⟨t',τ2⟩,er,h1,_,h3⟩:=k.ex
 dsimp only at h1 h3
 subst h1
 rw [e1] at er
 cases er
 have hv:W.C (g.v s):=(h.pt.uv s hh0).1 hu
 have eb:=zkt e2
 rw [ht] at eb
 dsimp only at eb e2
 subst eb
 obtain ⟨row0,A,C1,C2,m2,ver',hD,hB⟩:=zr4 h h3 hw hr hu hv hh hZ e2
 exact ⟨g',row0,A,C1,C2,m2,ver',m',hD,hB⟩
end
theorem zqa {a b:Int}:zaw a b=zaw b a:=by
 unfold zaw
 by_cases h:a=b
 ·subst h; rfl
 ·rw [Zn h,Zn fun c=>h c.symm,Int.min_comm,Int.max_comm]
theorem zpD {l:Lay} {m:M} {u v:Int}:zbM l m (min u v) (max u v)=zbM l m u v:=by
 rcases Int.le_total u v with h | h
 ·rw [Int.min_eq_left h,Int.max_eq_right h]
 ·rw [Int.min_eq_right h,Int.max_eq_left h]; exact zqa
theorem zvL {l:Lay} {m:M} {u v:Int}:zar l m (min u v) (max u v)=zar l m u v:=by
 unfold zar; rw [zpD]
structure Cl19 (l:Lay) (pr:Int->Int) (k:Nat) (m:M) (tag:Int) (g:G) (d:Array EdR) (P:PlanS) (u v s:Int) (g':G) (d2:Array EdR):Prop where
 hu:0<=u/\u<l.V
 hv:0<=v/\v<l.V
 ex:∃ rt ver row0,Hd19 l pr k m tag g u v rt ver/\PlanR (ptW l ⟨1,tag⟩ (zar l m u v) g u v s) pr ver g' (zbM l m u v) u v row0 P
 dc:Dc g' d2
 hj:∀ w,CW l g u v w->Wh g' w u\/Wh g' w v
 vals:∀ i,i<P.work.size->0<=P.work[i]!.val/\P.work[i]!.val<18446744073709551616
 wsz:P.work.size<=137438953471
 cels:∀ i,i<P.work.size->0<=P.work[i]!.cell/\P.work[i]!.cell<l.cells
 ds:(∃ i,i<d.size/\d[i]!.slot=s/\d[i]!.u=min u v/\d[i]!.v=max u v/\d2=cutA d i)\/d2=d++#[⟨s,min u v,max u v,0,false⟩]
 zr:P.tree=true->∃ rt ver g2 row0 A C1 C2 m' ver' μ,Hd19 l pr k m tag g u v rt ver/\PlanD (ptW l ⟨1,tag⟩ (zar l m u v) g u v s) pr ver g2 (zbM l m u v) P.roots row0 P A C1 C2 m' ver'/\Bz l pr (zar l m u v) m' g2 row0 μ
section
variable {l:Lay} (hl:l.Ok) {pr:Int->Int} {k:Nat} {m:M} {tag:Int} {g:G} {d:Array EdR}
include hl
theorem P19.r14 (h:P19 l pr k m tag g d):R14 l pr m g d:=by
 obtain ⟨ver,hc,_⟩:=h.c
 exact ⟨hc.rt,hc.hd,h.dc⟩
theorem P19.call_ins (h:P19 l pr k m tag g d) (hT:1<=l.T) (hk:k<=60000) {u v s:Int} (hu:0<=u/\u<l.V) (hv:0<=v/\v<l.V) (hne:u≠v) (hs:0<=s/\s<l.S) (hno:∀ j,j<d.size->d[j]!.slot≠s) (hfr:∀ j,j<d.size->¬(d[j]!.u=min u v/\d[j]!.v=max u v)) :
  ∃ b τ P g',zbf l ⟨1,tag⟩ 561 (⟨zar l m u v,#[]⟩:Tr) s u v=some (b,τ)/\planF l ⟨1,tag⟩ 561 (zbM l m u v) b u v τ=some P/\0<τ.row.size/\Cl19 l pr k m tag g d P u v s g' (d++#[⟨s,min u v,max u v,0,false⟩]):=by
 obtain ⟨rt,ver,hH⟩:=h.hold hl hT hk hu hv
 obtain ⟨P,row0,g',h1,h2,h3,h4⟩:=h.ins hl hH hT hk hu hv hne hs hno fun j hj=>decide_eq_false (hfr j hj)
 have rd:=hH.rdy hl (s:=s) hT hk h.tg
 unfold insF at h1
 obtain ⟨⟨b,τ⟩,e1,e2⟩:=Zb h1
 have hg:g.has s=false:=by
  cases e:g.has s with
  | false=>rfl
  | true=>obtain ⟨i,hi,e2⟩:=h.dc.cov s e; exact absurd e2 (hno i hi)
 have hf:∀ q,g.has q=true->¬(g.u q=min u v/\g.v q=max u v):=fun q hq hc=>by
  obtain ⟨i,hi,e2⟩:=h.dc.cov q hq
  have r:=h.dc.row i hi
  rw [<-e2] at hc
  exact hfr i hi ⟨r.2.1.symm.trans hc.1,r.2.2.1.symm.trans hc.2⟩
 have hz:=zAi rd (s:=s) (u:=u) (v:=v) ⟨hs,.inl ⟨hg,Z⟩⟩ ⟨hu,.inl (.refl _)⟩ ⟨hv,.inr (.refl _)⟩ hne hg hf e1
 refine ⟨b,τ,P,g',e1,e2,hz,hu,hv,⟨rt,ver,row0,hH,h2⟩,h3,h4,(Vals.ins e1 e2).get,zvH hl zdW e1 e2,fun i hi=>by have a:=((Vals.ins e1 e2).at i hi).2; have z:((zar l m u v).size:Int)=l.cells:=hH.calm.rt.size; omega,.inr Z,fun ht=>?_⟩
 obtain ⟨g2,row0,A,C1,C2,m',ver',μ,hD,hB⟩:=ins_z rd (s:=s) (u:=u) (v:=v) ⟨hs,.inl ⟨hg,rfl⟩⟩ ⟨hu,.inl (.refl _)⟩ ⟨hv,.inr (.refl _)⟩ hne hg hf (held:=zbM l m u v) (fun i hi=>hH.heldN hl rd hu hv _ (zb8.2 ⟨i,hi,rfl⟩)) e1 e2 ht
 exact ⟨rt,ver,g2,row0,A,C1,C2,m',ver',μ,hH,hD,hB⟩
theorem P19.call_del (h:P19 l pr k m tag g d) (hT:1<=l.T) (hk:k<=60000) {i:Nat} (hi:i<d.size) {u v:Int} (hu:u=d[i]!.u) (hv:v=d[i]!.v) :
  ∃ r τ P g',zbk l ⟨1,tag⟩ 561 (⟨zar l m u v,#[]⟩:Tr) d[i]!.slot=some (r,τ)/\planF l ⟨1,tag⟩ 561 (zbM l m u v) r.1 (eget l (zar l m u v) d[i]!.slot).u (eget l (zar l m u v) d[i]!.slot).v τ=some P/\0<τ.row.size/\Cl19 l pr k m tag g d P u v d[i]!.slot g' (cutA d i):=by
 have rg:=(h.r14 hl).rng hl hi
 have hu':0<=u/\u<l.V:=by omega
 have hv':0<=v/\v<l.V:=by omega
 obtain ⟨rt,ver,hH⟩:=h.hold hl hT hk hu' hv'
 obtain ⟨P,row0,g',h1,h2,h3,h4⟩:=h.del hl hi hu hv hH hT hk
 have rd:=hH.rdy hl (s:=d[i]!.slot) hT hk h.tg
 unfold delF at h1
 obtain ⟨⟨r,τ⟩,e1,e2⟩:=Zb h1
 obtain ⟨r1,r2,r3,_⟩:=h.dc.row i hi
 have hz:=zAT rd (s:=d[i]!.slot) r1 (show CW l g u v (g.u d[i]!.slot) by rw [r2,<-hu]; exact ⟨hu',.inl (.refl _)⟩) e1
 refine ⟨r,τ,P,g',e1,e2,hz,hu',hv',⟨rt,ver,row0,hH,h2⟩,h3,h4,(Vals.del e1 e2).get,zvZ hl zdW e1 e2,fun i hi=>by have a:=((Vals.del e1 e2).at i hi).2; have z:((zar l m u v).size:Int)=l.cells:=hH.calm.rt.size; omega,.inl ⟨i,hi,Z,by rw [hu,hv]; exact (Int.min_eq_left (by omega)).symm,by rw [hu,hv]; exact (Int.max_eq_right (by omega)).symm,Z⟩,fun ht=>?_⟩
 have gu:g.u d[i]!.slot=u:=r2.trans hu.symm
 have gv:g.v d[i]!.slot=v:=r3.trans hv.symm
 have ee:eget l (zar l m u v) d[i]!.slot=⟨g.u d[i]!.slot,g.v d[i]!.slot,g.lv d[i]!.slot,g.tr d[i]!.slot⟩:=hH.calm.rt.eget hl r1
 rw [ee] at e2
 obtain ⟨g2,row0,A,C1,C2,m',ver',μ,hD,hB⟩:=del_z rd (s:=d[i]!.slot) r1 (by rw [gu]; exact ⟨hu',.inl (.refl _)⟩) (held:=zbM l m u v) (fun j hj=>hH.heldN hl rd hu' hv' _ (zb8.2 ⟨j,hj,rfl⟩)) e1 e2 ht
 exact ⟨rt,ver,g2,row0,A,C1,C2,m',ver',μ,hH,hD,hB⟩
theorem Cl19.next {P:PlanS} {u v s:Int} {g':G} {d2:Array EdR} (c:Cl19 l pr k m tag g d P u v s g' d2) (h:P19 l pr k m tag g d) (hT:1<=l.T) (hk:k<=60000) :
  okM (zar l m u v) P.work.toList/\P.work.size≠0/\P19 l pr (k+1) (endM l (zar l m u v) P) (if P.tree then tag+1 else tag) g' d2:=by
 obtain ⟨rt,ver,row0,hH,hp⟩:=c.ex
 have rd:=hH.rdy hl (s:=s) hT hk h.tg
 obtain ⟨m',ver',hL⟩:=hp.left rd rfl c.hu c.hv hH.rt hH.held
 exact ⟨hL.good,hL.ne,h.next hl (row0:=row0) hH hT hk c.hu c.hv hL c.dc c.hj⟩
end
theorem zp2 {d:Array EdR} {a b:Int}:∀ n,(atN d a b n=-1/\∀ j,j<n->¬(d[j]!.u=a/\d[j]!.v=b))\/∃ i:Nat,i<n/\atN d a b n=(i:Int)/\d[i]!.u=a/\d[i]!.v=b
 | 0=>.inl ⟨Z,fun j hj=>absurd hj (Nat.not_lt_zero j)⟩
 | n+1=>by
  rw [atN]
  by_cases h:d[n]!.u=a/\d[n]!.v=b
  ·rw [Zp h]; exact .inr ⟨n,by omega,Z,h.1,h.2⟩
  ·rw [Zn h]
   rcases zp2 (d:=d) (a:=a) (b:=b) n with ⟨h1,h2⟩ | ⟨i,h1,h2⟩
   ·refine .inl ⟨h1,fun j hj=>?_⟩
    by_cases e:j=n
    ·subst e; exact h
    ·exact h2 j (by omega)
   ·exact .inr ⟨i,by omega,h2⟩
theorem least {P:Nat->Prop}:∀ {n:Nat},P n->∃ s,P s/\s<=n/\∀ q,q<s->¬P q:=fun {n} h=>by
 induction n using Nat.strongRecOn with
 | ind n ih =>
  by_cases hq:∃ q,q<n/\P q
  ·obtain ⟨q,h1,h2⟩:=hq
   obtain ⟨s,s1,s2,s3⟩:=ih q h1 h2
   exact ⟨s,s1,by omega,s3⟩
  ·exact ⟨n,h,Nat.le_refl _,fun q hq2 c=>hq ⟨q,hq2,c⟩⟩
section
variable {W:Pt} {pr ver ver':Int->Int} {g g':G} {held rs:Array Int} {row0:Array Acc} {ex:PlanS} {A C1 C2:List Acc} {m':M}
theorem PlanD.a2 (h:PlanD W pr ver g' held rs row0 ex A C1 C2 m' ver'):∀ a∈ex.work.toList,W.A2 a.cell:=fun a ha=>by
 rw [h.work] at ha
 simp only [List.mem_append,List.mem_cons] at ha
 rcases ha with (ha | rfl | ha) | rfl | ha
 ·exact (h.kA a ha).1
 ·exact .inr (.inr Z)
 ·exact (h.k1 a ha).1
 ·exact .inr (.inr Z)
 ·exact (h.k2 a ha).1
theorem PlanD.off (h:PlanD W pr ver g' held rs row0 ex A C1 C2 m' ver') {j:Int} (hj:¬W.A2 j) (n:Nat):get (runM W.m0 (ex.work.toList.take n)) j=get W.m0 j :=
 zeE fun a ha _ e=>hj (by rw [<-e]; exact h.a2 a (List.mem_of_mem_take ha))
theorem PlanD.seen (rd:Rdy W pr ver g) (h:PlanD W pr ver g' held rs row0 ex A C1 C2 m' ver') (hm:W.m1=W.m0) (n:Nat) {x:Int} (hx:V0 W.l x) :
  zaK W.l (runM W.m0 (ex.work.toList.take n)) x 2=(if n<=A.length then W.par0 x else parent W.l m' x)/\zaK W.l (runM W.m0 (ex.work.toList.take n)) x 1=if n<=A.length then ver x else ver' x:=by
 have hW:=rd.ok
 have hl:=hW.hl
 have tp:=hW.hp
 have c0:=rd.calm
 have c1:=h.calm
 obtain ⟨τ,hτ⟩:∃ τ,runM W.m0 (ex.work.toList.take n)=τ:=⟨_,rfl⟩
 rw [hτ]
 by_cases hN:W.N x
 ·by_cases hn:n<=A.length
  ·rw [Zp hn,Zp hn]
   have e:ex.work.toList.take n=A.take n:=by rw [h.work,List.append_assoc,List.take_append_of_le_length hn]
   have ib:IB W ver τ:=by
    rw [<-hτ,e]
    exact IB.run hW rd.hT rd.ver rd.old fun a ha=>h.kA a (List.mem_of_mem_take ha)
   exact ⟨(ib.par x hx hN).lm tp rd.hT ib.st,(ib.vr x hx hN).lm tp rd.hT ib.st⟩
  ·rw [Zn hn,Zn hn]
   by_cases hn2:n<=A.length+1+C1.length
   ·have e:ex.work.toList.take n=A++⟨true,W.l.state W.p.thread,zaT W.p.tag true⟩ :: C1.take (n - A.length - 1):=by
     rw [h.work,List.append_assoc,List.take_append,List.take_of_length_le (by omega),List.take_append_of_le_length (by simp; omega)]
     obtain ⟨q,hq⟩:∃ q,n - A.length=q+1:=⟨n - A.length - 1,by omega⟩
     rw [hq]; rfl
    have ie:IE W (parent W.l m') ver' τ:=by
     rw [<-hτ,e,zcP]
     show IE W (parent W.l m') ver' (runM (acc1 _ (runM W.m0 A)) (C1.take (n - A.length - 1)))
     refine IE.run hW rd.hT (fun y hy hyN=>⟨?_,?_⟩) h.mid fun a ha=>h.k1 a (List.mem_of_mem_take ha)
     ·have p:=(c1.pp y hy).ok
      obtain ⟨ok,_⟩:=zcg p.1
      rw [<-p.2.2.1]; exact ok.n
     ·have p:=(c1.pv y hy).ok
      obtain ⟨ok,_⟩:=zcg p.1
      rw [<-p.2.2.1]; exact ok.n
    exact ⟨(ie.par x hx hN).lm tp rd.hT ie.st,(ie.vr x hx hN).lm tp rd.hT ie.st⟩
   ·have e:ex.work.toList=ex.work.toList.take n++C2.drop (n - (A.length+1+C1.length) - 1):=by
     conv=>lhs; rw [<-List.take_append_drop n ex.work.toList]
     congr 1
     rw [h.work,List.drop_append,List.drop_eq_nil_of_le (by simp; omega),List.nil_append]
     obtain ⟨q,hq⟩:∃ q,n - (A++({ store:=true,cell:=W.l.state W.p.thread,val:=zaT W.p.tag true } :: C1)).length=q+1:=⟨n - (A.length+1+C1.length) - 1,by simp; omega⟩
     rw [hq]
     have:n - (A.length+1+C1.length) - 1=q:=by simp at hq; omega
     rw [this]; rfl
    have key:∀ f,f=1\/f=2->gf W.l τ x f=gf W.l m' x f:=fun f hf=>by
     have hA2:=a2_f hN (f:=f) (by omega)
     have hfin:=h.fin _ hA2
     rw [e,zcP,hτ] at hfin
     rw [zeE fun a ha hs e2=>?_] at hfin
     ·exact hfin
     ·obtain ⟨y,hy,_,_,e3,_⟩:=(h.k2 a (List.mem_of_mem_drop ha)).2 hs
      have:=(zac hl hx.1 (by omega) hy.1 (by decide)).1 (e2.symm.trans e3)
      omega
    exact ⟨zaC (by rw [key 2 (.inr Z)]; exact c1.pp x hx),zaC (by rw [key 1 (.inl Z)]; exact c1.pv x hx)⟩
 ·have off:∀ f,(0<=f/\f<7)->¬W.A2 (W.l.field x f):=fun f hf c=>hN (zhx hW hx.1 hf c)
  have k0:∀ f,(0<=f/\f<7)->gf W.l τ x f=gf W.l W.m1 x f:=fun f hf=>by
   unfold gf; rw [<-hτ,h.off (off f hf) n,hm]
  have k1:∀ f,(0<=f/\f<7)->gf W.l m' x f=gf W.l W.m1 x f:=fun f hf=>h.fr _ (off f hf)
  have p2:zbx (gf W.l τ x 2) (W.par0 x):=by rw [k0 2 (by decide),rd.par]; exact c0.pp x hx
  have p1:zbx (gf W.l τ x 1) (ver x):=by rw [k0 1 (by decide)]; exact c0.pv x hx
  have e2:parent W.l m' x=W.par0 x:=by rw [rd.par]; exact zbD (k1 2 (by decide))
  have e1:ver' x=ver x:=by
   have a:=(c1.pv x hx).ok.2.2.1
   have b:=(c0.pv x hx).ok.2.2.1
   rw [k1 1 (by decide)] at a
   exact a.symm.trans b
  rw [zaC p2,zaC p1,e2,e1]
  exact ⟨by split<;>rfl,by split<;>rfl⟩
theorem PlanN.seen (rd:Rdy W pr ver g) (h:PlanN W pr ver g' ex m') (hm:W.m1=W.m0) (n:Nat) {x:Int} (hx:V0 W.l x) :
  zaK W.l (runM W.m0 (ex.work.toList.take n)) x 2=W.par0 x/\zaK W.l (runM W.m0 (ex.work.toList.take n)) x 1=ver x:=by
 have key:∀ f,(0<=f/\f<=2)->gf W.l (runM W.m0 (ex.work.toList.take n)) x f=gf W.l W.m1 x f:=fun f hf=>by
  rw [hm]
  exact zeE fun a ha hs e=>(h.k a (List.mem_of_mem_take ha)).2.ne rd.ok.hl hs hx.1 hf e
 exact ⟨zaC (by rw [key 2 (by decide),rd.par]; exact rd.calm.pp x hx),zaC (by rw [key 1 (by decide)]; exact rd.calm.pv x hx)⟩
end
section
variable {W:Pt} {pr ver ver':Int->Int} {g g':G} {held rs:Array Int} {row0:Array Acc} {ex:PlanS} {A C1 C2:List Acc} {m':M}
end
section
variable {l:Lay} (hl:l.Ok) {pr:Int->Int} {k:Nat} {m:M} {tag:Int} {g:G} {d:Array EdR} {P:PlanS} {u v s:Int} {g':G} {d2:Array EdR}
include hl
end
theorem zt6 {d:Array Acc} {pq c:Int} (h:∀ a∈d.toList,a.store=true->a.cell≠c):∀ i,i<=d.size->(Go.Eng.mget (zke d pq i) c).getD 0=0
 | 0,_=>by rw [zke,Go.Eng.mget_nil]; rfl
 | i+1,hi=>by
  have ih:=zt6 (pq:=pq) h i (by omega)
  rw [zke]
  split
  ·next q =>
   have hm:d[i]!∈d.toList:=by rw [getElem!_pos d i (by omega)]; simp
   rw [Go.Eng.mget_put,Zn fun e=>h _ hm q.2 e.symm]; exact ih
  ·exact ih
section
variable {l:Lay} (hl:l.Ok) {pr:Int->Int} {k:Nat} {m:M} {tag:Int} {g:G} {d:Array EdR} {P:PlanS} {u v s:Int} {g':G} {d2:Array EdR}
include hl
theorem Cl19.single (c:Cl19 l pr k m tag g d P u v s g' d2):∀ x f,V0 l x->f=1\/f=2->(Go.Eng.mget (zke P.work P.point P.work.size) (l.field x f)).getD 0<=1:=fun x f hx hf=>by
 obtain ⟨rt,ver,row0,hH,hp⟩:=c.ex
 cases hp with
 | plain hD hr =>
  rw [zt6 (fun a ha hs=>(hD.k a ha).2.ne hl hs hx.1 (by omega)) _ (Nat.le_refl _)]
  decide
 | tree hD hr =>
  rename_i A C1 C2 m' ver'
  have e:P.work.toList.take P.work.size=P.work.toList:=List.take_of_length_le (by simp)
  rw [hD.point,zpV _ (Nat.le_refl _),e,hD.work,List.append_assoc,List.take_left']
  ·have:=hD.one x hx
   have o1:A.countP (isSt (l.field x 2))<=1:=this.1
   have o2:A.countP (isSt (l.field x 1))<=1:=this.2
   rcases hf with rfl | rfl<;>omega
  ·rfl
end
section
variable {l:Lay} (hl:l.Ok) {pr:Int->Int} {k:Nat} {m:M} {tag:Int} {g:G} {d:Array EdR} {P:PlanS} {u v s:Int} {g':G} {d2:Array EdR}
include hl
theorem Cl19.roots (c:Cl19 l pr k m tag g d P u v s g' d2) (h:P19 l pr k m tag g d) (hT:1<=l.T) (hk:k<=60000) :
  (∀ x∈P.roots.toList,V0 l x/\zaK l (runM (zar l m u v) P.work.toList) x 2=0)/\(P.roots.size=1\/P.roots.size=2/\P.roots[0]!<P.roots[1]!):=by
 obtain ⟨rt,ver,row0,hH,hp⟩:=c.ex
 have rd:=hH.rdy hl (s:=s) hT hk h.tg
 obtain ⟨m',ver',hL⟩:=hp.left rd rfl c.hu c.hv hH.rt hH.held
 have e:runM (zar l m u v) P.work.toList=m':=hL.run
 obtain ⟨rt',hrt',hrs⟩:=hL.rts
 have hrt2:Rt l m' rt':=hrt'
 have hrs':P.roots=zaw (rt' (l.vertex 0 u)) (rt' (l.vertex 0 v)):=hrs
 have hc:Calm l pr _ ver' m' g':=hL.calm
 rw [e]
 refine ⟨fun x hx=>?_,?_⟩
 ·rw [hrs',zdx] at hx
  rcases hx with rfl | rfl
  ·obtain ⟨_,_,a⟩:=hrt2 _ (vx0 hl c.hu)
   exact ⟨a.last.1,(zaC (hc.pp _ a.last.1)).trans a.last.2⟩
  ·obtain ⟨_,_,a⟩:=hrt2 _ (vx0 hl c.hv)
   exact ⟨a.last.1,(zaC (hc.pp _ a.last.1)).trans a.last.2⟩
 ·rw [hrs']
  unfold zaw
  split
  ·exact .inl Z
  ·next hne =>
   refine .inr ⟨Z,?_⟩
   show min _ _<max _ _
   omega
end
def zfC (l:Lay) (m0:M) (P:PlanS) (n:Nat) (dw:Array Int) (iv:Value) (di:Array Int):Prop :=
 n=0\/dw=zgZ l m0 l.nodes.toNat/\(iv=.slice none 0 0/\di=#[]\/P.tree=true/\∃ n':Nat,P.point<n'/\n'<=P.work.size/\di=zgZ l (runA m0 P.work n') l.nodes.toNat)
section
variable {l:Lay} (hl:l.Ok) {pr:Int->Int} {k:Nat} {m:M} {tag:Int} {g:G} {d:Array EdR} {P:PlanS} {u v s:Int} {g':G} {d2:Array EdR} {n:Nat} {dw di:Array Int} {iv:Value}
theorem zfC.zero:zfC l m P 0 dw iv di:=.inl Z
theorem zfC.set {m0:M} (h:zfC l m0 P n dw iv di) (hn:¬(n:Int)=0) (hz:n<=P.work.size) (ht:¬(P.tree=false\/(n:Int)<=P.point)) {i2:Value} {S9:Array Int} (e:S9=zgZ l (runA m0 P.work n) l.nodes.toNat):zfC l m0 P (n+1) dw i2 S9:=by
 rcases h with h | h
 ·omega
 ·have h1:P.tree=true:=by
   cases e:P.tree with
   | true=>rfl
   | false=>exact absurd (.inl e) ht
  exact .inr ⟨h.1,.inr ⟨h1,n,by have:¬(n:Int)<=P.point:=fun c=>ht (.inr c); omega,hz,e⟩⟩
include hl
end
theorem P19.born {l:Lay} (hl:l.Ok) {pr:Int->Int} {σ:M} (hB:Born l pr σ):P19 l pr 0 σ 0 G0 #[]:=by
 have lb:=zbz hl
 refine ⟨Dc.nil,⟨fun _=>0,hB.calm0 hl,fun x hx=>⟨Int.le_refl _,Int.le_refl _⟩⟩,⟨Int.le_refl _,Int.le_refl _⟩,fun rt hrt x hx=>?_⟩
 have e:∀ w:Int,0<=w/\w<l.V->rt (l.vertex 0 w)=l.vertex 0 w:=fun w hw=>by
  obtain ⟨h,_,a⟩:=hrt _ (vx0 hl hw)
  exact (a.uniq (Up.top (vx0 hl hw) (hB.parent0 hl (vx0 hl hw).1))).2
 show gf l σ x 0=_
 rw [hB.lock x hx]
 unfold zhh
 rcases zex hl hx with ⟨i,w,hv,rfl⟩ | ⟨s,i,d,ha,rfl⟩
 ·rw [(zaf hl hv).2.1]
  by_cases hi:i=0
  ·subst hi
   rw [if_pos ⟨Z,Z⟩,if_pos ⟨w,hv.2,(e w hv.2).symm⟩]
  ·rw [Zn fun c=>hi c.2,if_neg]
   rintro ⟨w2,hw2,h⟩
   rw [e w2 hw2] at h
   exact hi ((zcW hl hv ⟨by omega,hw2⟩).1 h).1
 ·rw [(zay hl ha).2,Zn (fun c=>by have:=c.1; cases this),if_neg]
  rintro ⟨w2,hw2,h⟩
  rw [e w2 hw2] at h
  exact zaN hl ⟨by omega,hw2⟩ ha h.symm
def zx9 (l:Lay) (m0:M) (held:Array Int):Nat->Array Bool
 | 0=>#[]
 | k+1=>zx9 l m0 held k++#[decide (zaS l m0 (k:Int)∈held.toList)]
def zxf (l:Lay) (m0:M) (held:Array Int) (n:Nat) (dm:Array Bool):Prop:=n=0\/dm=zx9 l m0 held l.V
theorem zxf.eq {l:Lay} {m0:M} {held:Array Int} {n:Nat} {dm:Array Bool} (h:zxf l m0 held n dm) (hn:¬(n:Int)=0):dm=zx9 l m0 held l.V:=h.resolve_left fun e=>hn (by omega)
section
variable {d:Array EdR} {e:EdR} {j:Nat}
end
section
variable {l:Lay} (hl:l.Ok) {pr:Int->Int} {k:Nat} {m:M} {tag:Int} {g:G} {d:Array EdR} {P:PlanS} {u v s:Int} {g':G} {d2:Array EdR}
include hl
end
section
variable {l:Lay} {nd:Array Nm} {near slot:Int->Prop}
end
theorem zw8 {α:Type} [Inhabited α] {d e:Array α} {j:Nat} (h:j<d.size):(d++e)[j]! =d[j]!:=by
 rw [getElem!_pos _ j (by simp; omega),Array.getElem_append,dif_pos h,getElem!_pos d j h]
section
variable {l:Lay} (hl:l.Ok) {pr:Int->Int} {k:Nat} {m:M} {tag:Int} {g:G} {d:Array EdR} {P:PlanS} {u v s:Int} {g':G} {d2:Array EdR}
include hl
end
def wlk (par:Int->Int) (r:Int):Nat->Int->Int
 | 0,x=>x
 | k+1,x=>if x=r\/par x=0 then x else wlk par r k (par x)
def trA (l:Lay) (par:Int->Int) (r:Int):Nat->Array Int
 | 0=>#[]
 | k+1=>if zbJ l ((k+1:Nat):Int)=true/\wlk par r (l.nodes.toNat+1) ((k+1:Nat):Int)=r then trA l par r k++#[((k+1:Nat):Int)] else trA l par r k
instance {l:Lay} {x:Int}:Decidable (V0 l x):=inferInstanceAs (Decidable ((1<=x/\x<=l.nodes)/\zbJ l x=true))
def verV (l:Lay) (σ:M) (x:Int):Int:=if V0 l x then zaK l σ x 1 else 0
def zbr (l:Lay) (σ:M) (x:Int):Array Int:=if V0 l x/\zaK l σ x 2=0 then trA l (fun y=>zaK l σ y 2) x l.nodes.toNat else #[]
theorem zwn {P:Int->Prop} {par:Int->Int} {r:Int} (hr:par r=0) {h:Nat} {x z:Int} (u:Up par P h x z):∀ k,h<=k->(wlk par r k x=r↔z=r):=by
 induction u with
 | @top x hx h0 =>
  intro k hk
  obtain ⟨k,rfl⟩:∃ q,k=q+1:=⟨k - 1,by omega⟩
  rw [wlk,Zp (.inr h0)]
 | @step h x r' hx h0 hu ih =>
  intro k hk
  obtain ⟨k,rfl⟩:∃ q,k=q+1:=⟨k - 1,by omega⟩
  rw [wlk,Zn (by rintro (e | e); (· subst e; exact h0 hr); exact h0 e)]
  exact ih k (by omega)
theorem zuL {par:Int->Int} {r x z:Int} {N k:Nat} (hk:k<=N) (hx:x≠r) (h:par x≠0) (hr:wlk par r (N+1 - k) x=z):wlk par r (N+1 - (k+1)) (par x)=z:=by
 rw [show N+1 - k=(N+1 - (k+1))+1 by omega,wlk,Zn (fun c=>c.elim hx h)] at hr
 exact hr
theorem zdL {par:Int->Int} {r x z:Int} {N k:Nat} (h:x=r\/par x=0\/N<k) (hr:wlk par r (N+1 - k) x=z):x=z:=by
 cases e:N+1 - k with
 | zero=>rw [e,wlk] at hr; exact hr
 | succ q =>
  rw [e,wlk,Zp (by rcases h with h | h | h; (· exact .inl h); (· exact .inr h); omega)] at hr
  exact hr
theorem zhB {l:Lay} {par:Int->Int} {r x:Int} {k:Nat} (h:(l.node ((k+1:Nat):Int)).1.level=0) (hw:x=wlk par r (l.nodes.toNat+1) ((k+1:Nat):Int)) (hx:x=r):trA l par r k++#[((k+1:Nat):Int)]=trA l par r (k+1):=by
 rw [trA,if_pos ⟨show zbJ l ((k+1:Nat):Int)=true from decide_eq_true h,hw.symm.trans hx⟩]
theorem zki {l:Lay} {par:Int->Int} {r x:Int} {k:Nat} (hw:x=wlk par r (l.nodes.toNat+1) ((k+1:Nat):Int)) (hx:¬x=r):trA l par r k=trA l par r (k+1):=by
 rw [trA,Zn fun c=>hx (hw.trans c.2)]
theorem zxr {l:Lay} {par:Int->Int} {r:Int} {k:Nat} (h:¬(l.node ((k+1:Nat):Int)).1.level=0):trA l par r k=trA l par r (k+1):=by
 rw [trA,Zn fun c=>h (of_decide_eq_true c.1)]
theorem zmn {l:Lay} {par par':Int->Int} {r:Int} (h:∀ x,V0 l x->(wlk par r (l.nodes.toNat+1) x=r↔wlk par' r (l.nodes.toNat+1) x=r)):∀ k:Nat,(k:Int)<=l.nodes->trA l par r k=trA l par' r k
 | 0,_=>rfl
 | k+1,hk=>by
  have ih:=zmn h k (by omega)
  rw [trA,trA,ih]
  by_cases hs:zbJ l ((k+1:Nat):Int)=true
  ·have:=h ((k+1:Nat):Int) ⟨⟨by omega,by omega⟩,hs⟩
   by_cases e:wlk par r (l.nodes.toNat+1) ((k+1:Nat):Int)=r
   ·rw [if_pos ⟨hs,e⟩,if_pos ⟨hs,this.1 e⟩]
   ·rw [Zn fun c=>e c.2,Zn fun c=>e (this.2 c.2)]
  ·rw [Zn fun c=>hs c.1,Zn fun c=>hs c.1]
theorem zmm {l:Lay} {par:Int->Int} {r:Int}:∀ k,(trA l par r k).size<=k
 | 0=>Nat.le_refl _
 | k+1=>by
  have:=zmm (l:=l) (par:=par) (r:=r) k
  rw [trA]
  split
  ·simp; omega
  ·omega
theorem zoR {l:Lay} {σ:M} {x:Int}:(zbr l σ x).size<=l.nodes.toNat:=by
 unfold zbr
 split
 ·exact zmm _
 ·simp
section
variable {l:Lay} (hl:l.Ok) {pr:Int->Int} {k:Nat} {m:M} {tag:Int} {g:G} {d:Array EdR} {P:PlanS} {u v s:Int} {g':G} {d2:Array EdR}
include hl
theorem zgC {σ τ:M} {rt rt' par par':Int->Int} (h1:∀ x,V0 l x->zaK l σ x 2=par x) (h2:∀ x,V0 l x->zaK l τ x 2=par' x)
  (u1:∀ x,V0 l x->∃ h:Nat,(h:Int)<=l.nodes/\Up par (V0 l) h x (rt x)) (u2:∀ x,V0 l x->∃ h:Nat,(h:Int)<=l.nodes/\Up par' (V0 l) h x (rt' x))
  {r:Int} (hp:V0 l r->(par r=0↔par' r=0)) (hr:V0 l r->par r=0->∀ y,V0 l y->(rt y=r↔rt' y=r)):zbr l τ r=zbr l σ r:=by
 unfold zbr
 by_cases hV:V0 l r
 ·by_cases h0:par r=0
  ·have h0':=(hp hV).1 h0
   rw [if_pos ⟨hV,by rw [h2 r hV]; exact h0'⟩,if_pos ⟨hV,by rw [h1 r hV]; exact h0⟩]
   have hn:=zaB hl
   refine zmn (fun y hy=>?_) _ (by omega)
   obtain ⟨a,ha,ua⟩:=u1 y hy
   obtain ⟨b,hb,ub⟩:=u2 y hy
   rw [zwn (par:=fun y=>zaK l τ y 2) (by rw [h2 r hV]; exact h0') (ub.congr fun z hz=>h2 z hz) _ (by omega),zwn (par:=fun y=>zaK l σ y 2) (by rw [h1 r hV]; exact h0) (ua.congr fun z hz=>h1 z hz) _ (by omega)]
   exact (hr hV h0 y hy).symm
  ·rw [Zn fun c=>h0 ((hp hV).2 ((h2 r hV).symm.trans c.2)),Zn fun c=>h0 ((h1 r hV).symm.trans c.2)]
 ·rw [Zn fun c=>hV c.1,Zn fun c=>hV c.1]
theorem zau.rtm {σ:M} (hR:zau l pr σ g) {rt:Int->Int} (h:∀ x,V0 l x->∃ h:Nat,(h:Int)<=l.nodes/\Up (parent l σ) (V0 l) h x (rt x)) {x:Int} (hx:V0 l x):Go.Tm.rtm l σ x=rt x:=by
 unfold Go.Tm.rtm
 rw [hR.rootS hl (fun _ _=>rfl) (fun x hx=>by obtain ⟨h,_,k⟩:=h x hx; exact ⟨h,k⟩) hx (k:=561) (by decide)]
theorem Cl19.vtree (c:Cl19 l pr k m tag g d P u v s g' d2) (h:P19 l pr k m tag g d) (hT:1<=l.T) (hk:k<=60000) (x:Int) :
  (verV l (runA (zar l m u v) P.work P.work.size) x=verV l (zar l m u v) x\/P.tree=true/\verV l (runA (zar l m u v) P.work P.work.size) x=verV l (zar l m u v) x+1) /\
  (verV l (runA (zar l m u v) P.work P.work.size) x=verV l (zar l m u v) x->zbr l (runA (zar l m u v) P.work P.work.size) x=zbr l (zar l m u v) x):=by
 rw [zeO (Nat.le_refl _)]
 have key:P.tree=false\/∃ rt ver g2 row0 A C1 C2 m' ver' μ,Hd19 l pr k m tag g u v rt ver/\PlanD (ptW l ⟨1,tag⟩ (zar l m u v) g u v s) pr ver g2 (zbM l m u v) P.roots row0 P A C1 C2 m' ver'/\Bz l pr (zar l m u v) m' g2 row0 μ:=by
  cases e:P.tree with
  | false=>exact .inl Z
  | true=>exact .inr (c.zr e)
 rcases key with ht | ⟨rt,ver,g2,row0,A,C1,C2,m',ver',μ,hH,hD,hB⟩
 ·obtain ⟨rt,ver,row0,hH,hp⟩:=c.ex
  have rd:=hH.rdy hl (s:=s) hT hk h.tg
  cases hp with
  | tree hD hr=>rw [hD.tree] at ht; cases ht
  | plain hD hr =>
   have c0:Calm l pr ⟨1,tag⟩ ver (zar l m u v) g:=hH.calm
   have a1:∀ y,V0 l y->zaK l (zar l m u v) y 2=parent l (zar l m u v) y:=fun y hy=>zaC (c0.pp y hy)
   have a2:∀ y,V0 l y->zaK l (runM (zar l m u v) (P.work.toList.take P.work.size)) y 2=parent l (zar l m u v) y:=fun y hy=>(hD.seen rd Z P.work.size hy).1
   have e:verV l (runM (zar l m u v) (P.work.toList.take P.work.size)) x=verV l (zar l m u v) x:=by
    unfold verV
    by_cases hx:V0 l x
    ·rw [Zp hx,Zp hx]; exact (hD.seen rd Z P.work.size hx).2.trans (zaC (c0.pv x hx)).symm
    ·rw [Zn hx,Zn hx]
   obtain ⟨rt0,hrt,_,_⟩:=c0.rt.roots hl
   exact ⟨.inl e,fun _=>zgC hl a1 a2 hrt hrt (fun _=>Iff.rfl) fun _ _ _ _=>Iff.rfl⟩
 ·have rd:=hH.rdy hl (s:=s) hT hk h.tg
  have c0:Calm l pr ⟨1,tag⟩ ver (zar l m u v) g:=hH.calm
  have hz:¬P.work.size<=A.length:=by
   have:P.work.size=P.work.toList.length:=by simp
   rw [this,hD.work]; simp
  have b1:∀ y,V0 l y->zaK l (zar l m u v) y 1=ver y:=fun y hy=>zaC (c0.pv y hy)
  have b2:∀ y,V0 l y->zaK l (runM (zar l m u v) (P.work.toList.take P.work.size)) y 1=ver' y:=fun y hy=>by
   have:=(hD.seen rd Z P.work.size hy).2
   rw [Zn hz] at this; exact this
  have a1:∀ y,V0 l y->zaK l (zar l m u v) y 2=parent l (zar l m u v) y:=fun y hy=>zaC (c0.pp y hy)
  have a2:∀ y,V0 l y->zaK l (runM (zar l m u v) (P.work.toList.take P.work.size)) y 2=parent l μ y:=fun y hy=>by
   have:=(hD.seen rd Z P.work.size hy).1
   rw [Zn hz] at this; exact this.trans (hB.p y hy)
  obtain ⟨rt0,hrt,_,_⟩:=c0.rt.roots hl
  obtain ⟨rt1,hrt1,_,_⟩:=hB.rt.roots hl
  refine ⟨?_,fun e=>?_⟩
  ·unfold verV
   by_cases hx:V0 l x
   ·rw [Zp hx,Zp hx,b1 x hx,b2 x hx]
    rcases hD.vers x hx with q | q
    ·exact .inl q
    ·exact .inr ⟨hD.tree,q⟩
   ·rw [Zn hx,Zn hx]; exact .inl Z
  ·by_cases hx:V0 l x
   ·unfold verV at e
    rw [Zp hx,Zp hx,b1 x hx,b2 x hx] at e
    have nb:¬(l.field x 2∈chgL row0/\(parent l (zar l m u v) x=0\/parent l m' x=0)):=fun q=>by
     have:=hD.bump x hx q.1 q.2
     omega
    by_cases hw:l.field x 2∈chgL row0
    ·have n1:parent l (zar l m u v) x≠0:=fun q=>nb ⟨hw,.inl q⟩
     have n2:parent l μ x≠0:=fun q=>nb ⟨hw,.inr ((hB.p x hx).trans q)⟩
     exact zgC hl a1 a2 hrt hrt1 (fun _=>⟨fun q=>absurd q n1,fun q=>absurd q n2⟩) fun _ q=>absurd q n1
    ·have ew:=hB.w x hx hw
     have ep:parent l μ x=parent l (zar l m u v) x:=zbD ew
     have nW:¬Wn l μ x:=fun q=>by
      have:=q hx.2
      rw [ew] at this
      exact this (c0.pp x hx).ok.2.1
     refine zgC hl a1 a2 hrt hrt1 (fun _=>by rw [ep]) fun _ _ y hy=>?_
     have r0:=c0.rt.rtm hl hrt hy
     have r1:=hB.rt.rtm hl hrt1 hy
     rcases hB.z.rt y hy.1 with q | ⟨q1,q2⟩
     ·rw [r0,r1] at q; rw [q]
     ·rw [r0] at q1; rw [r1] at q2
      exact ⟨fun q=>absurd (by rw [<-q]; exact q1) nW,fun q=>absurd (by rw [<-q]; exact q2) nW⟩
   ·unfold zbr; rw [Zn fun q=>hx q.1,Zn fun q=>hx q.1]
end
def zfX (x:Option Addr×Nat×Nat):List Value:=[.slice x.1 x.2.1 x.2.2]
theorem zhs (x:Option Addr×Nat×Nat):(zfX x).length=1/\∀ u∈zfX x,u.oneCell'=true:=⟨rfl,by intro u hu; simp only [zfX,List.mem_cons,List.not_mem_nil,or_false] at hu; subst hu; rfl⟩
def zdj (s:Array (Option Addr×Nat×Nat)) (t:Nat->Array Int) (j:Nat):Assn:=rowS (.slice s[j]!.1 s[j]!.2.1 s[j]!.2.2) (t j)
theorem zpb {α:Type} [Inhabited α] {s:Array α} {x:α}:(s++#[x])[s.size]! =x:=by
 rw [getElem!_pos _ _ (by simp)]; simp
theorem zcY {s:Array (Option Addr×Nat×Nat)} {t:Nat->Array Int} {k:Nat} {x:Option Addr×Nat×Nat} (hk:s.size=k) {A:Array Int} (e:A=t k):(∀ h,rowS (.slice x.1 x.2.1 x.2.2) A h->zdj (s++#[x]) t k h)/\∀ j,j<k->∀ h,zdj s t j h->zdj (s++#[x]) t j h:=by
 subst hk e
 refine ⟨fun h hh=>?_,fun j hj h hh=>?_⟩
 ·unfold zdj; rw [zpb]; exact hh
 ·unfold zdj at hh ⊢
  rw [zw8 hj]; exact hh
def vrA (l:Lay) (σ:M):Nat->Array Int
 | 0=>#[]
 | k+1=>vrA l σ k++#[verV l σ (k:Int)]
theorem zdX {l:Lay} {σ:M}:∀ k,(vrA l σ k).size=k
 | 0=>rfl
 | k+1=>by rw [vrA,Array.size_append,zdX k]; rfl
theorem zns {l:Lay} {σ:M} {i:Nat}:∀ {k},i<k->(vrA l σ k)[i]! =verV l σ (i:Int)
 | 0,h=>absurd h (Nat.not_lt_zero _)
 | k+1,h=>by
  rw [vrA]
  by_cases e:i=k
  ·subst e
   have:=zpb (s:=vrA l σ i) (x:=verV l σ (i:Int))
   rw [zdX] at this; exact this
  ·rw [zw8 (by rw [zdX]; omega)]; exact zns (by omega)
theorem zhI {l:Lay} (hl:l.Ok) {k:Nat} (hk:(k:Int)<=l.nodes):(l.node (k:Int)).2=true↔l.nd (k:Int):=by
 have hn:=zaB hl
 unfold Lay.node below Lay.nd
 rw [wr64 (by omega)]
 dsimp only
 split
 ·next h =>
  split<;>exact ⟨fun _=>by omega,fun _=>Z⟩
 ·next h =>
  refine ⟨fun c=>(by cases c),fun c=>absurd (by omega) h⟩
theorem zrc {l:Lay} {σ:M} {x:Int} (h:¬V0 l x):(0:Int)=verV l σ x:=by unfold verV; rw [Zn h]
theorem zoN {l:Lay} {σ:M} {x:Int} (h:V0 l x):zaK l σ x 1=verV l σ x:=by unfold verV; rw [Zp h]
theorem zf7 {l:Lay} {σ:M} {x:Int} (h:¬(V0 l x/\zaK l σ x 2=0)):(#[]:Array Int)=zbr l σ x:=by unfold zbr; rw [Zn h]
theorem zre {l:Lay} {σ:M} {x:Int} (h:V0 l x/\zaK l σ x 2=0):trA l (fun y=>zaK l σ y 2) x l.nodes.toNat=zbr l σ x:=by unfold zbr; rw [Zp h]
section
variable {P:Program} {w0:World} {R:Assn} {n:Nat} {Q:Exit->Act->World->Prop} {env:List (Nat×Value)} {L:List (Nat×Assn)}
theorem TC.starO {x:Code} (k m:Nat) {A B:Assn} (hL:lk L k=some (star A B)) (hm:m≠k) (h:TC P w0 R n x Q env ((m,B) :: (k,A) :: L)):TC P w0 R n x Q env L:=fun a w ha hs=>by
 have h1:=hs.open_star hL m hm
 exact h a w ha h1
end
section
variable {P:Program} {w0:World} {R:Assn} {n:Nat} {Q:Exit->Act->World->Prop} {env:List (Nat×Value)} {L:List (Nat×Assn)}
theorem TC.starC {x:Code} (k m:Nat) {A B:Assn} (hA:lk L k=some A) (hB:lk L m=some B) (hm:m≠k) (h:TC P w0 R n x Q env ((m,emp) :: (k,star A B) :: L)):TC P w0 R n x Q env L :=
 fun a w ha hs=>h a w ha (zeN hs hm hA hB fun _ f g s1 s2 hd ha hb=>⟨f,g,s1,s2,hd,ha,hb⟩)
end
def zoG (l:Lay) (m0:M) (n:Nat) (dw:Array Int) (s:Array (Option Addr×Nat×Nat)) (t:Nat->Array Int):Prop :=
 n=0\/dw=vrA l m0 (l.nodes.toNat+1)/\t=(fun j:Nat=>zbr l m0 (j:Int))/\s.size=l.nodes.toNat+1
theorem zoG.next {l:Lay} {m0:M} {n:Nat} {dw:Array Int} {s:Array (Option Addr×Nat×Nat)} {t:Nat->Array Int} (h:zoG l m0 n dw s t) (hn:¬(n:Int)=0):zoG l m0 (n+1) dw s t:=.inr (h.resolve_left (by omega))
end Go.Tm
