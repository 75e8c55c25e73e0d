import Derived.Test.YtabjfnfglcghfaaGreatEngF
set_option linter.unusedVariables false
set_option linter.unusedSimpArgs false
set_option linter.unusedSectionVars false
namespace Go.Tm
open MemLike Eng
theorem zc5 {a b x:Int}:x∈(zau a b).toList↔x=a\/x=b:=by
 unfold zau
 split
 ·next h=>subst h; simp
 ·simp only [List.mem_cons,List.not_mem_nil,or_false]
  rcases Int.le_total a b with c | c
  ·rw [Int.min_eq_left c,Int.max_eq_right c]
  ·rw [Int.min_eq_right c,Int.max_eq_left c]; exact Or.comm
theorem zwo {g g':G} {s:Int} (e1:g'.has=updB g.has s false) (e2:g'.u=g.u) (e3:g'.v=g.v) {a w:Int} (ha:a=g.u s\/a=g.v s) (h:Wh g a w):Wh g' (g.u s) w\/Wh g' (g.v s) w:=by
 unfold Wh at h
 induction h with
 | refl=>rcases ha with rfl | rfl; (· exact .inl (.refl _)); exact .inr (.refl _)
 | step c q hq he ih =>
  by_cases eq:q=s
  ·subst eq
   rcases he with ⟨_,h2⟩ | ⟨_,h2⟩
   ·right; rw [<-h2]; exact .refl _
   ·left; rw [<-h2]; exact .refl _
  ·have hq':g'.has q=true:=by rw [e1]; unfold updB; rw [Zn eq]; exact hq
   exact ih.imp (fun k=>Conn.step k q hq' (by rw [e2,e3]; exact he)) fun k=>Conn.step k q hq' (by rw [e2,e3]; exact he)
theorem zwn {g:G} {s a b i:Int} {t:Bool} (hno:g.has s=false) {x y:Int} (h:Wh g x y):Wh (g.put s a b i t) x y:=by
 unfold Wh at *
 have ne:∀ q,g.has q=true->q≠s:=fun q hq e=>by rw [e,hno] at hq; cases hq
 refine Conn.mono (P:=fun q=>g.has q=true) (Conn.ends h fun q hq=>?_) fun q hq=>?_
 ·constructor<;>(simp [G.put,updI,ne q hq])
 ·simp [G.put,updB,hq]
section
variable {l:Lay} (hl:l.Ok) {pr:Int->Int} {k:Nat} {m:M} {tag:Int} {g:G} {d:Array EdR}
structure Hd19 (l:Lay) (pr:Int->Int) (k:Nat) (m:M) (tag:Int) (g:G) (u v:Int) (rt ver:Int->Int):Prop where
 held:zcG l m u v=zau (rt (l.vertex 0 u)) (rt (l.vertex 0 v))
 rtm:Rt l m rt
 rt:Rt l (zaN l m u v) rt
 calm:Calm l pr ⟨1,tag⟩ ver (zaN l m u v) g
 par:∀ x,l.nd x->parent l (zaN l m u v) x=parent l m x
 ver:∀ x,V0 l x->0<=ver x/\ver x<=k
 lock:∀ x,l.nd x->get (zaN l m u v) (l.field x 0)=if x∈(zcG l m u v).toList then 1 else get m (l.field x 0)
 oth:∀ j,(∀ x,l.nd x->j≠l.field x 0)->get (zaN l m u v) j=get m j
include hl
theorem P19.hold (h:P19 l pr k m tag g d) (hT:1<=l.T) (hk:k<=60000) {u v:Int} (hu:0<=u/\u<l.V) (hv:0<=v/\v<l.V):∃ rt ver,Hd19 l pr k m tag g u v rt ver:=by
 obtain ⟨ver,hc,hver⟩:=h.c
 have tg:=h.tg
 have hp:PenOk ⟨1,tag⟩:=⟨(show (1:Int)<=1/\(1:Int)<=8 by decide),by show 0<=tag/\tag<=16777215; omega⟩
 obtain ⟨rt,hrt,_,_⟩:=hc.rt.roots hl
 have e:zcG l m u v=zau (rt (l.vertex 0 u)) (rt (l.vertex 0 v)):=by
  unfold zcG
  rw [zhe hl (fun x hx=>zaG (hc.pp x hx)) hrt hu,zhe hl (fun x hx=>zaG (hc.pp x hx)) hrt hv]
 have hnd:∀ x∈(zcG l m u v).toList,l.nd x:=fun x hx=>by
  rw [e,zc5] at hx
  rcases hx with rfl | rfl
  ·obtain ⟨_,_,a⟩:=hrt _ (vx0 hl hu); exact a.last.1.1
  ·obtain ⟨_,_,a⟩:=hrt _ (vx0 hl hv); exact a.last.1.1
 have hz:m.size=l.cells:=hc.rt.size
 obtain ⟨z1,z2,z3⟩:=zjr hl hz (d:=zcG l m u v) (v:=1) (by decide) hnd
 have hpar:∀ x,l.nd x->parent l (zaN l m u v) x=parent l m x:=fun x hx=>zbM (z3 _ fun y hy e=>by have:=(zad hl hx (by decide) hy (by decide)).1 e; omega)
 refine ⟨rt,ver,e,hrt,fun x hx=>?_,hc.locks hl hp (by show (1:Int)<=l.T; omega) z1 z3,hpar,hver,z2,z3⟩
 obtain ⟨h,h1,h2⟩:=hrt x hx
 exact ⟨h,h1,h2.congr fun y hy=>hpar y hy.1⟩
variable {u v s:Int} {rt ver:Int->Int}
theorem Hd19.rdy (h:Hd19 l pr k m tag g u v rt ver) (hT:1<=l.T) (hk:k<=60000) (tg:0<=tag/\tag<=k):Rdy (ptW l ⟨1,tag⟩ (zaN l m u v) g u v s) pr ver g :=
 zxP hl ⟨(show (1:Int)<=1/\(1:Int)<=8 by decide),by show 0<=tag/\tag<=16777215; omega⟩ (by show (1:Int)<=l.T; omega) (by show tag+1<=16777215; omega) h.calm fun x hx=>by have:=h.ver x hx; omega
theorem Hd19.heldN (h:Hd19 l pr k m tag g u v rt ver) (rd:Rdy (ptW l ⟨1,tag⟩ (zaN l m u v) g u v s) pr ver g) (hu:0<=u/\u<l.V) (hv:0<=v/\v<l.V):∀ x∈(zcG l m u v).toList,(ptW l ⟨1,tag⟩ (zaN l m u v) g u v s).N x:=fun x hx=>by
 rw [h.held,zc5] at hx
 rcases hx with rfl | rfl
 ·exact rd.held h.rt (v:=u) ⟨hu,.inl (.refl _)⟩
 ·exact rd.held h.rt (v:=v) ⟨hv,.inr (.refl _)⟩
theorem P19.ins (h:P19 l pr k m tag g d) (hH:Hd19 l pr k m tag g u v rt ver) (hT:1<=l.T) (hk:k<=60000) (hu:0<=u/\u<l.V) (hv:0<=v/\v<l.V) (hne:u≠v) (hs:0<=s/\s<l.S) (hno:∀ j,j<d.size->d[j]!.slot≠s) (hfr:∀ j,j<d.size->bwB d u v j=false) :
  ∃ ex row0 g',insF l ⟨1,tag⟩ 561 (zcG l m u v) (zaN l m u v) s u v=some ex/\PlanR (ptW l ⟨1,tag⟩ (zaN l m u v) g u v s) pr ver g' (zcG l m u v) u v row0 ex/\Dc g' (d++#[⟨s,min u v,max u v,0,false⟩])/\∀ w,CW l g u v w->Wh g' w u\/Wh g' w v:=by
 have rd:=hH.rdy hl (s:=s) hT hk h.tg
 have hg:g.has s=false:=by
  cases e:g.has s with
  | false=>rfl
  | true=>obtain ⟨i,hi,e2⟩:=h.dc.cov s e; exact absurd e2 (hno i hi)
 obtain ⟨ex,row0,t,h1,h2,_⟩:=zvG rd (s:=s) (u:=u) (v:=v) ⟨hs,.inl ⟨hg,rfl⟩⟩ ⟨hu,.inl (.refl _)⟩ ⟨hv,.inr (.refl _)⟩ hne hg (fun q hq hc=>by
  obtain ⟨i,hi,e2⟩:=h.dc.cov q hq
  have r:=h.dc.row i hi
  have:=hfr i hi
  unfold bwB at this
  rw [decide_eq_false_iff_not] at this
  rw [<-e2] at hc
  exact this ⟨r.2.1.symm.trans hc.1,r.2.2.1.symm.trans hc.2⟩) (held:=zcG l m u v) (fun i hi=>hH.heldN hl rd hu hv _ (zcN.2 ⟨i,hi,Z⟩))
 exact ⟨ex,row0,_,h1,h2,h.dc.put hg,fun w hw=>hw.2.imp (fun c=>zwn hg c) fun c=>zwn hg c⟩
theorem P19.del (h:P19 l pr k m tag g d) {i:Nat} (hi:i<d.size) (hu:u=d[i]!.u) (hv:v=d[i]!.v) (hH:Hd19 l pr k m tag g u v rt ver) (hT:1<=l.T) (hk:k<=60000) :
  ∃ ex row0 g',delF l ⟨1,tag⟩ 561 (zcG l m u v) (zaN l m u v) d[i]!.slot=some ex/\PlanR (ptW l ⟨1,tag⟩ (zaN l m u v) g u v d[i]!.slot) pr ver g' (zcG l m u v) u v row0 ex/\Dc g' (cutA d i)/\∀ w,CW l g u v w->Wh g' w u\/Wh g' w v:=by
 have rd:=hH.rdy hl (s:=d[i]!.slot) hT hk h.tg
 obtain ⟨r1,r2,r3,_⟩:=h.dc.row i hi
 have rg:=hH.calm.rt.rng hl r1
 have gu:g.u d[i]!.slot=u:=r2.trans hu.symm
 have gv:g.v d[i]!.slot=v:=r3.trans hv.symm
 rw [gu,gv] at rg
 obtain ⟨ex,row0,g',h1,h2,e1,e2,e3⟩:=zv0 rd (s:=d[i]!.slot) r1 (by rw [gu]; exact ⟨by omega,.inl (.refl _)⟩) (held:=zcG l m u v) (fun j hj=>hH.heldN hl rd (by omega) (by omega) _ (zcN.2 ⟨j,hj,rfl⟩))
 rw [gu,gv] at h2
 refine ⟨ex,row0,g',h1,h2,(h.dc.del hl hi).ext e1 e2 e3,fun w hw=>?_⟩
 have:=hw.2.elim (fun c=>zwo e1 e2 e3 (s:=d[i]!.slot) (.inl gu.symm) (Conn.symm c)) fun c=>zwo e1 e2 e3 (s:=d[i]!.slot) (.inr gv.symm) (Conn.symm c)
 rw [gu,gv] at this
 exact this.imp Conn.symm Conn.symm
def endM (l:Lay) (t:M) (ex:PlanS):M:=zbl l ex.roots [] 0 ex.roots.size (runM t ex.work.toList)
theorem P19.next (h:P19 l pr k m tag g d) (hH:Hd19 l pr k m tag g u v rt ver) (hT:1<=l.T) (hk:k<=60000) (hu:0<=u/\u<l.V) (hv:0<=v/\v<l.V) {g':G} {d':Array EdR} {row0:Array Acc} {ex:PlanS} {m':M} {ver':Int->Int}
  (hp:Left (ptW l ⟨1,tag⟩ (zaN l m u v) g u v s) pr ver g' (zcG l m u v) u v ex m' ver') (hd:Dc g' d') (hj:∀ w,CW l g u v w->Wh g' w u\/Wh g' w v) :
  P19 l pr (k+1) (endM l (zaN l m u v) ex) (if ex.tree then tag+1 else tag) g' d':=by
 have tg:=h.tg
 have rd:=hH.rdy hl (s:=s) hT hk tg
 obtain ⟨rt',hrt',hrs⟩:=hp.rts
 have hrs':ex.roots=zau (rt' (l.vertex 0 u)) (rt' (l.vertex 0 v)):=hrs
 have hR':zaz l pr m' g':=hp.calm.rt
 have hnd:∀ x∈ex.roots.toList,l.nd x:=fun x hx=>by
  rw [hrs',zc5] at hx
  rcases hx with rfl | rfl
  ·obtain ⟨_,_,a⟩:=hrt' _ (vx0 hl hu); exact a.last.1.1
  ·obtain ⟨_,_,a⟩:=hrt' _ (vx0 hl hv); exact a.last.1.1
 have hz:m'.size=l.cells:=hR'.size
 obtain ⟨z1,z2,z3⟩:=zjr hl hz (d:=ex.roots) (v:=0) (by decide) hnd
 have eE:endM l (zaN l m u v) ex=zbl l ex.roots [] 0 ex.roots.size m':=by unfold endM; rw [show runM (zaN l m u v) ex.work.toList=m' from hp.run]
 have hpar:∀ x,l.nd x->parent l (endM l (zaN l m u v) ex) x=parent l m' x:=fun x hx=>by
  rw [eE]; exact zbM (z3 _ fun y hy e=>by have:=(zad hl hx (by decide) hy (by decide)).1 e; omega)
 have calm':Calm l pr ⟨1,if ex.tree then tag+1 else tag⟩ ver' m' g':=hp.calm
 refine ⟨hd,⟨ver',?_,fun x hx=>?_⟩,?_,fun rt2 hrt2 x hx=>?_⟩
 ·rw [eE]
  exact calm'.locks hl ⟨(show (1:Int)<=1/\(1:Int)<=8 by decide),by show 0<=(if ex.tree then tag+1 else tag)/\(if ex.tree then tag+1 else tag)<=16777215; split<;>omega⟩ (by show (1:Int)<=l.T; omega) z1 z3
 ·have a:=hH.ver x hx
  rcases hp.vers x hx with e | ⟨e,_⟩<;>(rw [e]; omega)
 ·split<;>omega
 ·have e2:∀ w:Int,0<=w/\w<l.V->rt2 (l.vertex 0 w)=rt' (l.vertex 0 w):=fun w hw=>by
   obtain ⟨_,_,a⟩:=hrt2 _ (vx0 hl hw)
   obtain ⟨_,_,b⟩:=hrt' _ (vx0 hl hw)
   exact (a.uniq (b.congr fun y hy=>hpar y hy.1)).2
  have lkx:=h.lk rt hH.rtm x hx
  have lockx:get (zaN l m u v) (l.field x 0)=if x∈(zcG l m u v).toList then 1 else get m (l.field x 0):=hH.lock x hx
  have lock2:get m' (l.field x 0)=zqU ⟨1,tag⟩ (zcG l m u v) ex.roots x (get (zaN l m u v) (l.field x 0)):=hp.lock x hx
  rw [eE,z2 x hx]
  have inC:∀ w:Int,CW l g u v w->rt' (l.vertex 0 w)∈ex.roots.toList:=fun w hw=>by
   rw [hrs',zc5]
   rcases hj w hw with c | c
   ·exact .inl ((zmC hl hR' hrt' hw.1 hu).2 ((zmk hl hR' hp.calm.hd).1 c))
   ·exact .inr ((zmC hl hR' hrt' hw.1 hv).2 ((zmk hl hR' hp.calm.hd).1 c))
  have inC0:∀ w:Int,CW l g u v w->rt (l.vertex 0 w)∈(zcG l m u v).toList:=fun w hw=>by
   rw [hH.held,zc5]
   rcases hw.2 with c | c
   ·exact .inl ((zmC hl hH.calm.rt hH.rt hw.1 hu).2 ((zmk hl hH.calm.rt hH.calm.hd).1 c))
   ·exact .inr ((zmC hl hH.calm.rt hH.rt hw.1 hv).2 ((zmk hl hH.calm.rt hH.calm.hd).1 c))
  have outC:∀ w:Int,0<=w/\w<l.V->¬CW l g u v w->rt' (l.vertex 0 w)=rt (l.vertex 0 w)/\¬(rt (l.vertex 0 w)∈(zcG l m u v).toList):=fun w hw hc=>by
   have lb:=zcg hl
   have nN:¬(ptW l ⟨1,tag⟩ (zaN l m u v) g u v s).N (l.vertex 0 w):=fun c=>hc ((nV rd.ok rd.pt (show l.okV 0 w from ⟨by omega,hw⟩)).1 c)
   refine ⟨zwu rd.ok rd.pt hH.calm.rt hH.rt hrt' (fun y hy hn=>hp.out y hy hn) (vx0 hl hw) nN,fun c=>nN ?_⟩
   exact (zxH rd.ok rd.pt hH.calm.rt hH.rt (vx0 hl hw)).1 (hH.heldN hl rd hu hv _ c)
  by_cases hr:x∈ex.roots.toList
  ·rw [Zp hr,if_pos]
   rw [hrs',zc5] at hr
   rcases hr with e | e
   ·exact ⟨u,hu,by rw [e2 u hu]; exact e⟩
   ·exact ⟨v,hv,by rw [e2 v hv]; exact e⟩
  ·rw [Zn hr,lock2]
   unfold zqU
   by_cases hx1:x∈(zcG l m u v).toList
   ·rw [if_pos ⟨hx1,hr⟩,if_neg]
    rintro ⟨w,hw,e⟩
    rw [e2 w hw] at e
    by_cases hc:CW l g u v w
    ·exact hr (by rw [e]; exact inC w hc)
    ·obtain ⟨o1,o2⟩:=outC w hw hc
     rw [o1] at e
     exact o2 (by rw [<-e]; exact hx1)
   ·rw [Zn fun c=>hx1 c.1,Zn fun c=>hr c.1,lockx,Zn hx1,lkx]
    have:(∃ w:Int,(0<=w/\w<l.V)/\x=rt (l.vertex 0 w))↔∃ w:Int,(0<=w/\w<l.V)/\x=rt2 (l.vertex 0 w):=by
     constructor
     ·rintro ⟨w,hw,e⟩
      by_cases hc:CW l g u v w
      ·exact absurd (by rw [e]; exact inC0 w hc) hx1
      ·exact ⟨w,hw,by rw [e2 w hw,(outC w hw hc).1]; exact e⟩
     ·rintro ⟨w,hw,e⟩
      rw [e2 w hw] at e
      by_cases hc:CW l g u v w
      ·exact absurd (by rw [e]; exact inC w hc) hr
      ·exact ⟨w,hw,by rw [e]; exact (outC w hw hc).1⟩
    split
    ·next hc=>rw [Zp (this.1 hc)]
    ·next hc=>rw [Zn fun c=>hc (this.2 c)]
end
theorem zqV {l:Lay} {σ:M} {d:Array Int} {k:Nat}:st (zbl l d [] 0 k σ) (l.field d[k]! 0) 0=zbl l d [] 0 (k+1) σ:=by
 conv=>rhs; rw [zbl]
 rw [Zn (by simp)]
def zgZ (l:Lay) (σ:M):Nat->Array Int
 | 0=>#[]
 | k+1=>if zbQ l ((k+1:Nat):Int) then zgZ l σ k++#[zbH l σ ((k+1:Nat):Int) 2,zbH l σ ((k+1:Nat):Int) 1] else zgZ l σ k
end Go.Tm
namespace Go.Tm
def zke (d:Array Acc) (pq:Int):Nat->List (Int×Int)
 | 0=>[]
 | i+1=>if (i:Int)<pq/\d[i]!.store=true then Go.Eng.mput (zke d pq i) d[i]!.cell ((Go.Eng.mget (zke d pq i) d[i]!.cell).getD 0+1) else zke d pq i
theorem zp5 {d:Array Acc} {pt:Nat} {c:Int}:∀ i,i<=d.size->(Go.Eng.mget (zke d (pt:Int) i) c).getD 0=(((d.toList.take i).take pt).countP (isSt c):Int)
 | 0,_=>by rw [zke,Go.Eng.mget_nil]; simp
 | i+1,hi=>by
  have ih:=zp5 (d:=d) (pt:=pt) (c:=c) i (by omega)
  have hil:i<d.toList.length:=by simp; omega
  have ei:d.toList[i]=d[i]!:=by rw [getElem!_pos d i (by omega)]; simp
  have et:d.toList.take (i+1)=d.toList.take i++[d[i]!]:=by rw [<-ei]; exact (List.take_append_getElem hil).symm
  have hlen:(d.toList.take i).length=i:=by rw [List.length_take]; omega
  rw [et,List.take_append]
  have e2:(d.toList.take i).length=i:=hlen
  rw [zke,List.countP_append,e2]
  by_cases hp:(i:Int)<pt
  ·rw [List.take_of_length_le (l:=[d[i]!]) (by simp; omega)]
   by_cases hs:d[i]!.store=true
   ·rw [if_pos ⟨hp,hs⟩,Go.Eng.mget_put]
    by_cases ec:c=d[i]!.cell
    ·subst ec
     have:isSt d[i]!.cell d[i]! =true:=by unfold isSt; rw [hs,decide_eq_true Z]; rfl
     rw [Zp Z,Option.getD_some,ih,List.countP_cons,this]; simp
    ·have:isSt c d[i]! =false:=by unfold isSt; rw [decide_eq_false fun e=>ec e.symm,Bool.and_false]
     rw [Zn ec,ih,List.countP_cons,this]; simp
   ·rw [Zn fun c=>hs c.2,ih]
    have:isSt c d[i]! =false:=by unfold isSt; rw [show d[i]!.store=false by simpa using hs]; rfl
    rw [List.countP_cons,this]; simp
  ·rw [Zn fun c=>hp c.1,ih,show pt - i=0 by omega]; simp
open MemLike Eng
def atN (d:Array EdR) (a b:Int):Nat->Int
 | 0=>-1
 | i+1=>if d[i]!.u=a/\d[i]!.v=b then (i:Int) else atN d a b i
theorem zoM {d:Array EdR} {a b:Int} {i:Nat} (h:d[i]!.u=a) (h2:d[i]!.v=b):(i:Int)=atN d a b (i+1):=by rw [atN,if_pos ⟨h,h2⟩]
theorem zux {d:Array EdR} {a b:Int} {i:Nat} (h:¬d[i]!.u=a):atN d a b i=atN d a b (i+1):=by rw [atN,Zn fun c=>h c.1]
theorem zuw {d:Array EdR} {a b:Int} {i:Nat} (h:¬d[i]!.v=b):atN d a b i=atN d a b (i+1):=by rw [atN,Zn fun c=>h c.2]
def UsE (d:Array EdR) (k:Nat) (D:Array Bool):Prop:=∀ s:Nat,s<D.size->(D[s]! =true↔∃ j,j<k/\d[j]!.slot=(s:Int))
theorem UsE.start {d:Array EdR} {N:Nat}:UsE d 0 (Array.replicate N false):=fun s hs=>by
 constructor
 ·intro h
  rw [getElem!_pos _ s hs] at h
  simp at h
 ·rintro ⟨j,hj,_⟩; omega
theorem UsE.step {d:Array EdR} {k:Nat} {D:Array Bool} (h:UsE d k D) {s:Nat} (hs:d[k]!.slot=(s:Int)):UsE d (k+1) (D.setIfInBounds s true):=fun q hq=>by
 have hq':q<D.size:=by simpa using hq
 have ih:=h q hq'
 rw [getElem!_pos _ q hq,Array.getElem_setIfInBounds (by simpa using hq)]
 rw [getElem!_pos D q hq'] at ih
 by_cases e:s=q
 ·subst e
  rw [Zp Z]
  exact ⟨fun _=>⟨k,by omega,hs⟩,fun _=>Z⟩
 ·rw [Zn e,ih]
  constructor
  ·rintro ⟨j,hj,e2⟩; exact ⟨j,by omega,e2⟩
  ·rintro ⟨j,hj,e2⟩
   refine ⟨j,?_,e2⟩
   by_cases ej:j=k
   ·subst ej; rw [hs] at e2; omega
   ·omega
theorem UsE.first {d:Array EdR} {n S q s:Nat} {D:Array Bool} (hU:UsE d n D) (hz:D.size=S) (hq:q<S) (hs:q<=s) (hlt:∀ q:Nat,q<s->∃ j,j<n/\d[j]!.slot=(q:Int)) (h:D[q]! =false):q=s:=by
 rcases Nat.lt_or_ge q s with h9 | h9
 ·rw [(hU q (by omega)).2 (hlt q h9)] at h; cases h
 ·omega
theorem UsE.more {d:Array EdR} {n S q s:Nat} {D:Array Bool} (hU:UsE d n D) (hz:D.size=S) (hq:q<S) (hs:q<=s) (hno:∀ j,j<n->d[j]!.slot≠(s:Int)) (h:D[q]! =true):q+1<=s:=by
 rcases Nat.lt_or_ge q s with h9 | h9
 ·omega
 ·obtain rfl:q=s:=by omega
  obtain ⟨j,hj,e⟩:=(hU q (by omega)).1 h
  exact absurd e (hno j hj)
section
variable {W:Pt} {pr ver:Int->Int} {g g':G} {En Lv:Int->Prop} {τ:Tr} {m':M}
theorem zxt (h:Rdy W pr ver g) (ht:Twin W En Lv τ m') {c:Int} (hc:W.Adr c) (hne:get m' c≠get W.m1 c):0<τ.row.size:=by
 rcases Nat.eq_zero_or_pos τ.row.size with h0 | h0
 ·refine absurd ?_ hne
  have e:τ.row.toList=[]:=by rw [Array.size_eq_zero_iff.1 h0]
  have r:=ht.rp.run
  rw [e] at r
  rw [<-ht.eq c hc,<-show W.m0=τ.mem from r]
  exact h.eq c (.inl hc)
 ·exact h0
theorem zkB {l:Lay} {m m2:M} {u v:Int} (h:get m (l.edge u v)=get m2 (l.edge u v)):find l m u v=find l m2 u v:=by
 unfold find; rw [h]
theorem zAp (h:Rdy W pr ver g) {s u v:Int} (hs:W.E s) (hu:W.C u) (hv:W.C v) (hne:u≠v) (hno:g.has s=false) (hf:∀ q,g.has q=true->¬(g.u q=min u v/\g.v q=max u v)) {t:Bool} (e0:zbu W.l W.p 561 (⟨W.m0,#[]⟩:Tr) s u v=some (t,τ)):0<τ.row.size:=by
 have hW:=h.ok
 have hcu:=hW.hc u hu
 have hcv:=hW.hc v hv
 obtain ⟨t1,m',e,hw,hr⟩:=h.writ.ins hW.hl hW.hp h.hT (hW.he s hs) hcu hcv hne hno hf
 have k:=zm8 hW 561 h.twin hs (fun c=>by have:=c.1; rw [hno] at this; cases this) hu hv
 rw [e,e0] at k
 have hval:Val3 W.l ⟨1,u,v⟩:=⟨hne,hcu.1,hcu.2,hcv.1,hcv.2⟩
 have hd:get m' (W.l.edge u v)≠get W.m1 (W.l.edge u v):=fun ec=>by
  have e1:=zkB (l:=W.l) ec
  rcases (hw.edges hW.hl).found hW.hl hval with ⟨q,_,_,_,e2,_⟩ | ⟨n2,_⟩
  ·rcases (h.writ.edges hW.hl).found hW.hl hval with ⟨q2,b2,_,h2,_,_⟩ | ⟨_,e3⟩
   ·exact hf q2 h2 b2.2
   ·have e2:find W.l m' u v=⟨q,_,true⟩:=e2
    have e3:find W.l W.m1 u v=⟨0,false,false⟩:=e3
    rw [e2,e3] at e1
    injection e1 with _ _ c
    cases c
  ·refine n2 ⟨s,?_,?_⟩
   ·simp [GA.of,G.put,updB]
   ·simp [GA.of,G.put,updI]
 have ha:W.Adr (W.l.edge u v):=.inl (.inr (.inl ⟨u,v,hu,hv,Z⟩))
 rcases k with k | k
 ·exact zxt h k.2.2 ha hd
 ·exact zxt h k.2.2 ha hd
theorem zAW (h:Rdy W pr ver g) {s:Int} (hh0:g.has s=true) (hu:W.C (g.u s)) {r:Bool×Int×Bool} (e0:zbv W.l W.p 561 (⟨W.m0,#[]⟩:Tr) s=some (r,τ)):0<τ.row.size:=by
 have hW:=h.ok
 have hv:W.C (g.v s):=(h.pt.uv s hh0).1 hu
 have hcu:=hW.hc _ hu
 have hcv:=hW.hc _ hv
 have rg:=h.calm.rt.rng hW.hl hh0
 obtain ⟨t,b,o,m',g',e,hw,x1,x2,x3,hr⟩:=h.writ.del hW.hl hW.hp h.hT hh0
 have k:=zna hW (k:=561) (by decide) h.twin h.calm.rt h.calm.hd h.pt.ptg hh0 hu
 rw [e,e0] at k
 have hval:Val3 W.l ⟨1,g.u s,g.v s⟩:=⟨(show g.u s≠g.v s by omega),hcu.1,hcu.2,hcv.1,hcv.2⟩
 have hbt:(GA.of g).bt ⟨1,g.u s,g.v s⟩ s:=⟨hh0,(Int.min_eq_left (by show g.u s<=g.v s; omega)).symm,(Int.max_eq_right (by show g.u s<=g.v s; omega)).symm⟩
 have hd:get m' (W.l.edge (g.u s) (g.v s))≠get W.m1 (W.l.edge (g.u s) (g.v s)):=fun ec=>by
  have e1:=zkB (l:=W.l) ec
  rcases (h.writ.edges hW.hl).found hW.hl hval with ⟨q,b1,_,h1,e2,un⟩ | ⟨n2,_⟩
  ·have eqs:=un s hbt
   rcases (hw.edges hW.hl).found hW.hl hval with ⟨q2,b2,_,h2,_,_⟩ | ⟨_,e3⟩
   ·have h2':updB g.has s false q2=true:=by rw [<-x1]; exact h2
    unfold updB at h2'
    by_cases eq:q2=s
    ·rw [Zp eq] at h2'; cases h2'
    ·rw [Zn eq] at h2'
     have b2':(GA.of g).bt ⟨1,g.u s,g.v s⟩ q2:=⟨h2',by have:=b2.2.1; simpa [GA.of,x2] using this,by have:=b2.2.2; simpa [GA.of,x3] using this⟩
     have:=un q2 b2'
     omega
   ·have e2:find W.l W.m1 (g.u s) (g.v s)=⟨q,_,true⟩:=e2
    have e3:find W.l m' (g.u s) (g.v s)=⟨0,false,false⟩:=e3
    rw [e2,e3] at e1
    injection e1 with _ _ c
    cases c
  ·exact n2 ⟨s,hbt⟩
 exact zxt h k.2.2 (.inl (.inr (.inl ⟨_,_,hu,hv,Z⟩))) hd
end
def Vals (N:Nat) (d:Array Acc):Prop:=∀ a∈d.toList,(0<=a.val/\a.val<18446744073709551616)/\0<=a.cell/\a.cell<(N:Int)
structure Vt (N:Nat) (σ:Tr):Prop where
 sz:σ.mem.size=N
 v:Vals N σ.row
theorem Vals.at {N:Nat} {d:Array Acc} (h:Vals N d):∀ i,i<d.size->(0<=d[i]!.val/\d[i]!.val<18446744073709551616)/\0<=d[i]!.cell/\d[i]!.cell<(N:Int):=fun i hi=>h _ (by rw [getElem!_pos d i hi]; simp)
theorem Vals.get {N:Nat} {d:Array Acc} (h:Vals N d):∀ i,i<d.size->0<=d[i]!.val/\d[i]!.val<18446744073709551616:=fun i hi=>(h.at i hi).1
theorem Vals.push {N:Nat} {d:Array Acc} {a:Acc} (h:Vals N d) (ha:(0<=a.val/\a.val<18446744073709551616)/\0<=a.cell/\a.cell<(N:Int)):Vals N (d++#[a]):=fun b hb=>by
 rw [Array.toList_append,List.mem_append] at hb
 rcases hb with hb | hb
 ·exact h b hb
 ·rw [List.mem_singleton] at hb; subst hb; exact ha
section
variable {N:Nat} {σ:Tr} {l:Lay} {p:Pen}
theorem Vt.ld (h:Vt N σ) (i:Int):Vt N (MemLike.ld σ i:Tr):=by
 rw [zkc]
 split
 ·next hi=>exact ⟨h.sz,h.v.push ⟨(show 0<=MemLike.get σ.mem i/\_ from MemLike.rng _ _),hi.1,by have:=h.sz; show i<_; omega⟩⟩
 ·exact h
theorem Vt.st (h:Vt N σ) (i v:Int) (hv:0<=v/\v<18446744073709551616):Vt N (MemLike.st σ i v:Tr):=by
 rw [zkb]
 split
 ·next hi=>exact ⟨by show (MemLike.st σ.mem i v:Array UInt64).size=N; rw [zay]; exact h.sz,h.v.push ⟨hv,hi.1,by have:=h.sz; show i<_; omega⟩⟩
 ·exact h
theorem Vt.write (h:Vt N σ) (c x:Int):Vt N (p.write σ c x):=by
 unfold Pen.write
 split
 ·split
  ·exact (h.ld c).st _ _ (zbA _ _)
  ·exact h.ld c
 ·exact h.ld c
theorem Vt.clean (h:Vt N σ) (c:Int):Vt N (zbq σ c):=by
 unfold zbq
 split
 ·split
  ·exact (h.ld c).st _ _ (zbA _ _)
  ·exact h.ld c
 ·exact h.ld c
theorem Vt.state (h:Vt N σ) (tag:Int) (dn:Bool):Vt N (za0 l p σ tag dn):=by
 unfold za0
 split
 ·refine h.st _ _ ?_
  unfold zaV
  split
  ·exact zbA _ _
  ·exact zcY _
 ·exact h
theorem Rch.vals {σ0:Tr} (h0:Vt N σ0) (h:Rch l p σ0 σ):Vt N σ:=by
 induction h with
 | refl=>exact h0
 | ld i _ ih=>exact ih.ld i
 | nf _ hf hv ih=>exact ih.st _ _ hv
 | par _ hs hv ih=>exact ih.st _ _ hv
 | wr _ hs ih=>exact ih.write _ _
 | low _ hj hv ih=>exact ih.st _ _ hv
theorem Vt.vers {ch:List Int} {d:Array Int} (h:Vt N σ):∀ k,Vt N (zb6 l p ch d k σ)
 | 0=>h
 | k+1=>by
  have ih:=Vt.vers (ch:=ch) (d:=d) h k
  rw [zb6]
  unfold ziZ
  split
  ·dsimp only
   split
   ·exact ((ih.ld _).ld _).write _ _
   ·exact ih.ld _
  ·exact ih
theorem Vt.lock {d:Array Int} {but:List Int} {v:Int} (hv:0<=v/\v<18446744073709551616) (h:Vt N σ):∀ k,Vt N (zbl l d but v k σ)
 | 0=>h
 | k+1=>by
  have ih:=Vt.lock (d:=d) (but:=but) hv h k
  rw [zbl]
  split
  ·exact ih
  ·exact ih.st _ _ hv
theorem Vt.cleanC {ch:List Int} {c:Int} (h:Vt N σ):Vt N (cleanC ch σ c):=by
 unfold Go.Tm.cleanC
 split
 ·exact h.clean _
 ·exact h
theorem Vt.cleanW {ch:List Int} {d:Array Int} (h:Vt N σ):∀ k,Vt N (cleanW l ch d k σ)
 | 0=>h
 | k+1=>by
  have ih:=Vt.cleanW (ch:=ch) (d:=d) h k
  rw [Go.Tm.cleanW]
  exact ih.cleanC.cleanC
theorem Vt.root:∀ {k:Nat} {σ τ:Tr} {x r:Int},Go.Tm.root l k σ x=some (r,τ)->Vt N σ->Vt N τ:=fun {k σ τ x r} e h=>Rch.vals (p:=⟨0,0⟩) h (zie e .refl)
theorem Vals.onceO {row:Array Acc} {pt:Nat} {q:List (Int×Int)×List (Int×Int)} {N:Nat} (h:Vals N row):∀ i,i<=row.size->Vals N (onceO row pt q i).1
 | 0,_=>fun a ha=>by cases ha
 | i+1,hi=>by
  have ih:=Vals.onceO (pt:=pt) (q:=q) h i (by omega)
  rw [Go.Tm.onceO]
  dsimp only
  split
  ·exact ih
  ·exact ih.push (h.at i (by omega))
theorem Vals.planT {held rs:Array Int} (h:Vt N σ):Vals N (planT l p held rs σ).work:=by
 unfold Go.Tm.planT
 dsimp only
 refine Vals.onceO (Vt.v ?_) _ (Nat.le_refl _)
 exact ((((((h.vers _).lock (zcY _) _).state _ _).cleanW _).state _ _).lock (by decide) _)
theorem Vals.planF {held:Array Int} {k:Nat} {t:Bool} {u v:Int} {P:PlanS} (h:Vt N σ) (e:planF l p k held t u v σ=some P):Vals N P.work:=by
 unfold Go.Tm.planF at e
 obtain ⟨a,e1,e⟩:=Zb e
 obtain ⟨b,e2,e⟩:=Zb e
 have hb:Vt N b.2:=Vt.root e2 (Vt.root e1 h)
 cases e
 split
 ·exact Vals.planT hb
 ·exact hb.v
theorem zoW {m:M}:Vt m.size (⟨m,#[]⟩:Tr):=⟨rfl,fun a ha=>by cases ha⟩
theorem Vals.ins {held:Array Int} {k:Nat} {m:M} {s u v:Int} {b:Bool} {P:PlanS} (e1:zbu l p k (⟨m,#[]⟩:Tr) s u v=some (b,σ)) (e2:Go.Tm.planF l p k held b u v σ=some P):Vals m.size P.work:=Vals.planF (Rch.vals zoW (zm9 e1 .refl)) e2
theorem Vals.del {held:Array Int} {k:Nat} {m:M} {s u v:Int} {r:Bool×Int×Bool} {P:PlanS} (e1:zbv l p k (⟨m,#[]⟩:Tr) s=some (r,σ)) (e2:Go.Tm.planF l p k held r.1 u v σ=some P):Vals m.size P.work:=Vals.planF (Rch.vals zoW (zjy e1 .refl)) e2
end
theorem zmO {row:Array Acc} {pt:Nat} {q:List (Int×Int)×List (Int×Int)}:∀ i,(onceO row pt q i).1.size<=i
 | 0=>Nat.le_refl _
 | i+1=>by
  have ih:=zmO (row:=row) (pt:=pt) (q:=q) i
  rw [onceO]
  dsimp only
  split
  ·omega
  ·simp; omega
theorem zkr {l:Lay} (hl:l.Ok) {p:Pen} {held:Array Int} {k:Nat} {t:Bool} {u v:Int} {σ:Tr} {P:PlanS} (hk:k<=561) (hh2:held.size<=2) (hz:Room 20000 σ) (e:planF l p k held t u v σ=some P):P.work.size<=137438953471:=by
 have hnb:=zaD hl
 have hsl:=zdI l l.nodes.toNat
 have hsn:(zav l l.nodes.toNat).size<=560:=by omega
 unfold planF at e
 obtain ⟨a,e1,e⟩:=Zb e
 obtain ⟨b,e2,e⟩:=Zb e
 have hz2:Room 15000 b.2:=zdU e2 (zdU e1 (hz.le (by omega)))
 have hw:=zdY (x:=a.1) (y:=b.1)
 cases e
 split
 ·unfold planT
  dsimp only
  refine Nat.le_trans (zmO _) (show _+0<=_ from zcV.1 (Room.le (m:=0) ?_ (Nat.le_refl _)))
  exact zds (zfe (zer (zfe (zds (zc0 (hz2.le (by omega)))))))
 ·have:=zcV.1 hz2
  show b.2.row.size<=_
  omega
theorem zvF {l:Lay} (hl:l.Ok) {p:Pen} {held:Array Int} {m:M} {s u v:Int} {b:Bool} {σ:Tr} {P:PlanS} (hh2:held.size<=2) (e1:zbu l p 561 (⟨m,#[]⟩:Tr) s u v=some (b,σ)) (e2:planF l p 561 held b u v σ=some P):P.work.size<=137438953471:=by
 have hz0:Room 100000000 (⟨m,#[]⟩:Tr):=zcV.2 (by show 0+100000000<=_; decide)
 exact zkr hl (Nat.le_refl _) hh2 (zjw e1 (hz0.le (by decide))) e2
theorem zvZ {l:Lay} (hl:l.Ok) {p:Pen} {held:Array Int} {m:M} {s u v:Int} {r:Bool×Int×Bool} {σ:Tr} {P:PlanS} (hh2:held.size<=2) (e1:zbv l p 561 (⟨m,#[]⟩:Tr) s=some (r,σ)) (e2:planF l p 561 held r.1 u v σ=some P):P.work.size<=137438953471:=by
 have hz0:Room 130000000000 (⟨m,#[]⟩:Tr):=zcV.2 (by show 0+130000000000<=_; decide)
 exact zkr hl (Nat.le_refl _) hh2 (zjz e1 (hz0.le (by decide))) e2
theorem zqk {a b:Int}:zau a b=zau b a:=by
 unfold zau
 by_cases h:a=b
 ·subst h; rfl
 ·rw [Zn h,Zn fun c=>h c.symm,Int.min_comm,Int.max_comm]
theorem zpO {l:Lay} {m:M} {u v:Int}:zcG l m (min u v) (max u v)=zcG l m u v:=by
 rcases Int.le_total u v with h | h
 ·rw [Int.min_eq_left h,Int.max_eq_right h]
 ·rw [Int.min_eq_right h,Int.max_eq_left h]; exact zqk
theorem zvJ {l:Lay} {m:M} {u v:Int}:zaN l m (min u v) (max u v)=zaN l m u v:=by
 unfold zaN; rw [zpO]
structure Cl19 (l:Lay) (pr:Int->Int) (k:Nat) (m:M) (tag:Int) (g:G) (d:Array EdR) (P:PlanS) (u v s:Int) (g':G) (d2:Array EdR):Prop where
 hu:0<=u/\u<l.V
 hv:0<=v/\v<l.V
 ex:∃ rt ver row0,Hd19 l pr k m tag g u v rt ver/\PlanR (ptW l ⟨1,tag⟩ (zaN l m u v) g u v s) pr ver g' (zcG l m u v) u v row0 P
 dc:Dc g' d2
 hj:∀ w,CW l g u v w->Wh g' w u\/Wh g' w v
 vals:∀ i,i<P.work.size->0<=P.work[i]!.val/\P.work[i]!.val<18446744073709551616
 wsz:P.work.size<=137438953471
 cels:∀ i,i<P.work.size->0<=P.work[i]!.cell/\P.work[i]!.cell<l.cells
 ds:(∃ i,i<d.size/\d[i]!.slot=s/\d[i]!.u=min u v/\d[i]!.v=max u v/\d2=cutA d i)\/d2=d++#[⟨s,min u v,max u v,0,false⟩]
section
variable {l:Lay} (hl:l.Ok) {pr:Int->Int} {k:Nat} {m:M} {tag:Int} {g:G} {d:Array EdR}
include hl
theorem P19.r14 (h:P19 l pr k m tag g d):R14 l pr m g d:=by
 obtain ⟨ver,hc,_⟩:=h.c
 exact ⟨hc.rt,hc.hd,h.dc⟩
theorem P19.call_ins (h:P19 l pr k m tag g d) (hT:1<=l.T) (hk:k<=60000) {u v s:Int} (hu:0<=u/\u<l.V) (hv:0<=v/\v<l.V) (hne:u≠v) (hs:0<=s/\s<l.S) (hno:∀ j,j<d.size->d[j]!.slot≠s) (hfr:∀ j,j<d.size->¬(d[j]!.u=min u v/\d[j]!.v=max u v)) :
  ∃ b τ P g',zbu l ⟨1,tag⟩ 561 (⟨zaN l m u v,#[]⟩:Tr) s u v=some (b,τ)/\planF l ⟨1,tag⟩ 561 (zcG l m u v) b u v τ=some P/\0<τ.row.size/\Cl19 l pr k m tag g d P u v s g' (d++#[⟨s,min u v,max u v,0,false⟩]):=by
 obtain ⟨rt,ver,hH⟩:=h.hold hl hT hk hu hv
 obtain ⟨P,row0,g',h1,h2,h3,h4⟩:=h.ins hl hH hT hk hu hv hne hs hno fun j hj=>decide_eq_false (hfr j hj)
 have rd:=hH.rdy hl (s:=s) hT hk h.tg
 unfold insF at h1
 obtain ⟨⟨b,τ⟩,e1,e2⟩:=Zb h1
 have hg:g.has s=false:=by
  cases e:g.has s with
  | false=>rfl
  | true=>obtain ⟨i,hi,e2⟩:=h.dc.cov s e; exact absurd e2 (hno i hi)
 have hz:=zAp rd (s:=s) (u:=u) (v:=v) ⟨hs,.inl ⟨hg,Z⟩⟩ ⟨hu,.inl (.refl _)⟩ ⟨hv,.inr (.refl _)⟩ hne hg (fun q hq hc=>by
  obtain ⟨i,hi,e2⟩:=h.dc.cov q hq
  have r:=h.dc.row i hi
  rw [<-e2] at hc
  exact hfr i hi ⟨r.2.1.symm.trans hc.1,r.2.2.1.symm.trans hc.2⟩) e1
 exact ⟨b,τ,P,g',e1,e2,hz,hu,hv,⟨rt,ver,row0,hH,h2⟩,h3,h4,(Vals.ins e1 e2).get,zvF hl zdY e1 e2,fun i hi=>by have a:=((Vals.ins e1 e2).at i hi).2; have z:((zaN l m u v).size:Int)=l.cells:=hH.calm.rt.size; omega,.inr Z⟩
theorem P19.call_del (h:P19 l pr k m tag g d) (hT:1<=l.T) (hk:k<=60000) {i:Nat} (hi:i<d.size) {u v:Int} (hu:u=d[i]!.u) (hv:v=d[i]!.v) :
  ∃ r τ P g',zbv l ⟨1,tag⟩ 561 (⟨zaN l m u v,#[]⟩:Tr) d[i]!.slot=some (r,τ)/\planF l ⟨1,tag⟩ 561 (zcG l m u v) r.1 (eget l (zaN l m u v) d[i]!.slot).u (eget l (zaN l m u v) d[i]!.slot).v τ=some P/\0<τ.row.size/\Cl19 l pr k m tag g d P u v d[i]!.slot g' (cutA d i):=by
 have rg:=(h.r14 hl).rng hl hi
 have hu':0<=u/\u<l.V:=by omega
 have hv':0<=v/\v<l.V:=by omega
 obtain ⟨rt,ver,hH⟩:=h.hold hl hT hk hu' hv'
 obtain ⟨P,row0,g',h1,h2,h3,h4⟩:=h.del hl hi hu hv hH hT hk
 have rd:=hH.rdy hl (s:=d[i]!.slot) hT hk h.tg
 unfold delF at h1
 obtain ⟨⟨r,τ⟩,e1,e2⟩:=Zb h1
 obtain ⟨r1,r2,r3,_⟩:=h.dc.row i hi
 have hz:=zAW rd (s:=d[i]!.slot) r1 (show CW l g u v (g.u d[i]!.slot) by rw [r2,<-hu]; exact ⟨hu',.inl (.refl _)⟩) e1
 exact ⟨r,τ,P,g',e1,e2,hz,hu',hv',⟨rt,ver,row0,hH,h2⟩,h3,h4,(Vals.del e1 e2).get,zvZ hl zdY e1 e2,fun i hi=>by have a:=((Vals.del e1 e2).at i hi).2; have z:((zaN l m u v).size:Int)=l.cells:=hH.calm.rt.size; omega,.inl ⟨i,hi,Z,by rw [hu,hv]; exact (Int.min_eq_left (by omega)).symm,by rw [hu,hv]; exact (Int.max_eq_right (by omega)).symm,Z⟩⟩
theorem Cl19.next {P:PlanS} {u v s:Int} {g':G} {d2:Array EdR} (c:Cl19 l pr k m tag g d P u v s g' d2) (h:P19 l pr k m tag g d) (hT:1<=l.T) (hk:k<=60000) :
  okM (zaN l m u v) P.work.toList/\P.work.size≠0/\P19 l pr (k+1) (endM l (zaN l m u v) P) (if P.tree then tag+1 else tag) g' d2:=by
 obtain ⟨rt,ver,row0,hH,hp⟩:=c.ex
 have rd:=hH.rdy hl (s:=s) hT hk h.tg
 obtain ⟨m',ver',hL⟩:=hp.left rd rfl c.hu c.hv hH.rt hH.held
 exact ⟨hL.good,hL.ne,h.next hl (row0:=row0) hH hT hk c.hu c.hv hL c.dc c.hj⟩
end
theorem zqb {d:Array EdR} {a b:Int}:∀ n,(atN d a b n=-1/\∀ j,j<n->¬(d[j]!.u=a/\d[j]!.v=b))\/∃ i:Nat,i<n/\atN d a b n=(i:Int)/\d[i]!.u=a/\d[i]!.v=b
 | 0=>.inl ⟨Z,fun j hj=>absurd hj (Nat.not_lt_zero j)⟩
 | n+1=>by
  rw [atN]
  by_cases h:d[n]!.u=a/\d[n]!.v=b
  ·rw [Zp h]; exact .inr ⟨n,by omega,Z,h.1,h.2⟩
  ·rw [Zn h]
   rcases zqb (d:=d) (a:=a) (b:=b) n with ⟨h1,h2⟩ | ⟨i,h1,h2⟩
   ·refine .inl ⟨h1,fun j hj=>?_⟩
    by_cases e:j=n
    ·subst e; exact h
    ·exact h2 j (by omega)
   ·exact .inr ⟨i,by omega,h2⟩
theorem least {P:Nat->Prop}:∀ {n:Nat},P n->∃ s,P s/\s<=n/\∀ q,q<s->¬P q:=fun {n} h=>by
 induction n using Nat.strongRecOn with
 | ind n ih =>
  by_cases hq:∃ q,q<n/\P q
  ·obtain ⟨q,h1,h2⟩:=hq
   obtain ⟨s,s1,s2,s3⟩:=ih q h1 h2
   exact ⟨s,s1,by omega,s3⟩
  ·exact ⟨n,h,Nat.le_refl _,fun q hq2 c=>hq ⟨q,hq2,c⟩⟩
section
variable {W:Pt} {pr ver ver':Int->Int} {g g':G} {held rs:Array Int} {row0:Array Acc} {ex:PlanS} {A C1 C2:List Acc} {m':M}
theorem PlanD.a2 (h:PlanD W pr ver g' held rs row0 ex A C1 C2 m' ver'):∀ a∈ex.work.toList,W.A2 a.cell:=fun a ha=>by
 rw [h.work] at ha
 simp only [List.mem_append,List.mem_cons] at ha
 rcases ha with (ha | rfl | ha) | rfl | ha
 ·exact (h.kA a ha).1
 ·exact .inr (.inr Z)
 ·exact (h.k1 a ha).1
 ·exact .inr (.inr Z)
 ·exact (h.k2 a ha).1
end
section
variable {W:Pt} {pr ver ver':Int->Int} {g g':G} {held rs:Array Int} {row0:Array Acc} {ex:PlanS} {A C1 C2:List Acc} {m':M}
end
section
variable {l:Lay} (hl:l.Ok) {pr:Int->Int} {k:Nat} {m:M} {tag:Int} {g:G} {d:Array EdR} {P:PlanS} {u v s:Int} {g':G} {d2:Array EdR}
include hl
end
theorem zub {d:Array Acc} {pq c:Int} (h:∀ a∈d.toList,a.store=true->a.cell≠c):∀ i,i<=d.size->(Go.Eng.mget (zke d pq i) c).getD 0=0
 | 0,_=>by rw [zke,Go.Eng.mget_nil]; rfl
 | i+1,hi=>by
  have ih:=zub (pq:=pq) h i (by omega)
  rw [zke]
  split
  ·next q =>
   have hm:d[i]!∈d.toList:=by rw [getElem!_pos d i (by omega)]; simp
   rw [Go.Eng.mget_put,Zn fun e=>h _ hm q.2 e.symm]; exact ih
  ·exact ih
section
variable {l:Lay} (hl:l.Ok) {pr:Int->Int} {k:Nat} {m:M} {tag:Int} {g:G} {d:Array EdR} {P:PlanS} {u v s:Int} {g':G} {d2:Array EdR}
include hl
theorem Cl19.single (c:Cl19 l pr k m tag g d P u v s g' d2):∀ x f,V0 l x->f=1\/f=2->(Go.Eng.mget (zke P.work P.point P.work.size) (l.field x f)).getD 0<=1:=fun x f hx hf=>by
 obtain ⟨rt,ver,row0,hH,hp⟩:=c.ex
 cases hp with
 | plain hD hr =>
  rw [zub (fun a ha hs=>(hD.k a ha).2.ne hl hs hx.1 (by omega)) _ (Nat.le_refl _)]
  decide
 | tree hD hr =>
  rename_i A C1 C2 m' ver'
  have e:P.work.toList.take P.work.size=P.work.toList:=List.take_of_length_le (by simp)
  rw [hD.point,zp5 _ (Nat.le_refl _),e,hD.work,List.append_assoc,List.take_left']
  ·have:=hD.one x hx
   have o1:A.countP (isSt (l.field x 2))<=1:=this.1
   have o2:A.countP (isSt (l.field x 1))<=1:=this.2
   rcases hf with rfl | rfl<;>omega
  ·rfl
end
section
variable {l:Lay} (hl:l.Ok) {pr:Int->Int} {k:Nat} {m:M} {tag:Int} {g:G} {d:Array EdR} {P:PlanS} {u v s:Int} {g':G} {d2:Array EdR}
include hl
theorem Cl19.roots (c:Cl19 l pr k m tag g d P u v s g' d2) (h:P19 l pr k m tag g d) (hT:1<=l.T) (hk:k<=60000) :
  (∀ x∈P.roots.toList,V0 l x/\zbH l (runM (zaN l m u v) P.work.toList) x 2=0)/\(P.roots.size=1\/P.roots.size=2/\P.roots[0]!<P.roots[1]!):=by
 obtain ⟨rt,ver,row0,hH,hp⟩:=c.ex
 have rd:=hH.rdy hl (s:=s) hT hk h.tg
 obtain ⟨m',ver',hL⟩:=hp.left rd rfl c.hu c.hv hH.rt hH.held
 have e:runM (zaN l m u v) P.work.toList=m':=hL.run
 obtain ⟨rt',hrt',hrs⟩:=hL.rts
 have hrt2:Rt l m' rt':=hrt'
 have hrs':P.roots=zau (rt' (l.vertex 0 u)) (rt' (l.vertex 0 v)):=hrs
 have hc:Calm l pr _ ver' m' g':=hL.calm
 rw [e]
 refine ⟨fun x hx=>?_,?_⟩
 ·rw [hrs',zc5] at hx
  rcases hx with rfl | rfl
  ·obtain ⟨_,_,a⟩:=hrt2 _ (vx0 hl c.hu)
   exact ⟨a.last.1,(zaG (hc.pp _ a.last.1)).trans a.last.2⟩
  ·obtain ⟨_,_,a⟩:=hrt2 _ (vx0 hl c.hv)
   exact ⟨a.last.1,(zaG (hc.pp _ a.last.1)).trans a.last.2⟩
 ·rw [hrs']
  unfold zau
  split
  ·exact .inl Z
  ·next hne =>
   refine .inr ⟨Z,?_⟩
   show min _ _<max _ _
   omega
end
def zfF (l:Lay) (m0:M) (P:PlanS) (n:Nat) (dw:Array Int) (iv:Value) (di:Array Int):Prop :=
 n=0\/dw=zgZ l m0 l.nodes.toNat/\(iv=.slice none 0 0/\di=#[]\/P.tree=true/\∃ n':Nat,P.point<n'/\n'<=P.work.size/\di=zgZ l (runA m0 P.work n') l.nodes.toNat)
section
variable {l:Lay} (hl:l.Ok) {pr:Int->Int} {k:Nat} {m:M} {tag:Int} {g:G} {d:Array EdR} {P:PlanS} {u v s:Int} {g':G} {d2:Array EdR} {n:Nat} {dw di:Array Int} {iv:Value}
theorem zfF.zero:zfF l m P 0 dw iv di:=.inl Z
theorem zfF.set {m0:M} (h:zfF l m0 P n dw iv di) (hn:¬(n:Int)=0) (hz:n<=P.work.size) (ht:¬(P.tree=false\/(n:Int)<=P.point)) {i2:Value} {S9:Array Int} (e:S9=zgZ l (runA m0 P.work n) l.nodes.toNat):zfF l m0 P (n+1) dw i2 S9:=by
 rcases h with h | h
 ·omega
 ·have h1:P.tree=true:=by
   cases e:P.tree with
   | true=>rfl
   | false=>exact absurd (.inl e) ht
  exact .inr ⟨h.1,.inr ⟨h1,n,by have:¬(n:Int)<=P.point:=fun c=>ht (.inr c); omega,hz,e⟩⟩
include hl
end
theorem P19.born {l:Lay} (hl:l.Ok) {pr:Int->Int} {σ:M} (hB:Born l pr σ):P19 l pr 0 σ 0 G0 #[]:=by
 have lb:=zcg hl
 refine ⟨Dc.nil,⟨fun _=>0,hB.calm0 hl,fun x hx=>⟨Int.le_refl _,Int.le_refl _⟩⟩,⟨Int.le_refl _,Int.le_refl _⟩,fun rt hrt x hx=>?_⟩
 have e:∀ w:Int,0<=w/\w<l.V->rt (l.vertex 0 w)=l.vertex 0 w:=fun w hw=>by
  obtain ⟨h,_,a⟩:=hrt _ (vx0 hl hw)
  exact (a.uniq (Up.top (vx0 hl hw) (hB.parent0 hl (vx0 hl hw).1))).2
 show gf l σ x 0=_
 rw [hB.lock x hx]
 unfold zhh
 rcases zez hl hx with ⟨i,w,hv,rfl⟩ | ⟨s,i,d,ha,rfl⟩
 ·rw [(zag hl hv).2.1]
  by_cases hi:i=0
  ·subst hi
   rw [if_pos ⟨Z,Z⟩,if_pos ⟨w,hv.2,(e w hv.2).symm⟩]
  ·rw [Zn fun c=>hi c.2,if_neg]
   rintro ⟨w2,hw2,h⟩
   rw [e w2 hw2] at h
   exact hi ((zcZ hl hv ⟨by omega,hw2⟩).1 h).1
 ·rw [(zaA hl ha).2,Zn (fun c=>by have:=c.1; cases this),if_neg]
  rintro ⟨w2,hw2,h⟩
  rw [e w2 hw2] at h
  exact zaS hl ⟨by omega,hw2⟩ ha h.symm
def zyb (l:Lay) (m0:M) (held:Array Int):Nat->Array Bool
 | 0=>#[]
 | k+1=>zyb l m0 held k++#[decide (zaP l m0 (k:Int)∈held.toList)]
theorem zuS {x y:Int}:0<(zau x y).size:=by unfold zau; split<;>simp
def zxk (l:Lay) (m0:M) (held:Array Int) (n:Nat) (dm:Array Bool):Prop:=n=0\/dm=zyb l m0 held l.V
theorem zxk.eq {l:Lay} {m0:M} {held:Array Int} {n:Nat} {dm:Array Bool} (h:zxk l m0 held n dm) (hn:¬(n:Int)=0):dm=zyb l m0 held l.V:=h.resolve_left fun e=>hn (by omega)
section
variable {d:Array EdR} {e:EdR} {j:Nat}
end
section
variable {l:Lay} (hl:l.Ok) {pr:Int->Int} {k:Nat} {m:M} {tag:Int} {g:G} {d:Array EdR} {P:PlanS} {u v s:Int} {g':G} {d2:Array EdR}
include hl
theorem Cl19.ends (c:Cl19 l pr k m tag g d P u v s g' d2) (h:P19 l pr k m tag g d) (hT:1<=l.T) (hk:k<=60000):R14 l pr (runM (zaN l m u v) P.work.toList) g' d2:=by
 obtain ⟨rt,ver,row0,hH,hp⟩:=c.ex
 have rd:=hH.rdy hl (s:=s) hT hk h.tg
 obtain ⟨m',ver',hL⟩:=hp.left rd rfl c.hu c.hv hH.rt hH.held
 have e:runM (zaN l m u v) P.work.toList=m':=hL.run
 rw [e]
 exact ⟨hL.calm.rt,hL.calm.hd,c.dc⟩
end
def rtm (l:Lay) (m:M) (x:Int):Int:=match root l 561 m x with | some r=>r.1 | none=>0
section
variable {l:Lay} (hl:l.Ok) {p:Pen} (hp:PenOk p) {mk mk' pr:Int->Int} {m m' m'':M} {F F':Int->T}
include hl
theorem Forest.rtm (hF:Forest l pr mk m F) {x:Int} (hx:l.nd x):Go.Tm.rtm l m x=(F x).root:=by
 unfold Go.Tm.rtm
 rw [hF.root hl hx (by decide)]
theorem Forest.par0 (hF:Forest l pr mk m F) {y:Int} (hy:l.nd y) (h:parent l m y=0):(F y).root=y:=by
 have h1:=hF.root hl hy (k:=561) (by decide)
 rw [Go.Tm.root] at h1
 have hy0:y≠0:=by unfold Lay.nd at hy; omega
 rw [Zp hy0,Zp h] at h1
 injection h1 with h1
 exact (congrArg Prod.fst h1).symm
omit hl
include hl
include hp
end
section
variable {l:Lay} (hl:l.Ok) {p:Pen} (hp:PenOk p) {mk:Int->Int} {pr:Int->Int} {σ:M} {F:Int->T}
include hl hp
end
section
variable {l:Lay} (hl:l.Ok) {p:Pen} (hp:PenOk p) {mk:Int->Int} {pr:Int->Int} {σ σ':M} {F:Int->T} {L:Int->Int->List Int} {g g':G} {P P':Int->Int->Prop} {B B':Int->Prop} {K K':Int->Int->Prop}
include hl hp
end
def zls (d:Array EdR) (a b w:Int):Prop:=jdB d w a=true\/jdB d w b=true
def zz0 (d d2:Array EdR) (a b q:Int):Prop:=∃ i,i<(d++d2).size/\(d++d2)[i]!.slot=q/\zls d a b (d++d2)[i]!.u
structure FineN (l:Lay) (nd:Array Nm) (near slot:Int->Prop) (n:Nm):Prop where
 k1:n.k=1->n.a=1
 k4:n.k=4\/n.k=5\/n.k=6\/n.k=7->slot n.a
 k8:n.k=8->near n.a
 k9:n.k=9->near n.a/\near n.b
 k10:n.k=10->(1<=n.a/\n.a<=l.nodes)/\(nd[(n.a - 1).toNat]!.k=1->near nd[(n.a - 1).toNat]!.b)/\(nd[(n.a - 1).toNat]!.k≠1->slot nd[(n.a - 1).toNat]!.a)
 ks:n.k=1\/n.k=4\/n.k=5\/n.k=6\/n.k=7\/n.k=8\/n.k=9\/n.k=10
section
variable {l:Lay} {nd:Array Nm} {near slot:Int->Prop}
theorem FineN.of1 {n:Nm} (h:n.k=1) (ha:n.a=1):FineN l nd near slot n:=⟨fun _=>ha,by omega,by omega,by omega,by omega,by omega⟩
theorem FineN.of4 {n:Nm} (h:n.k=4\/n.k=5\/n.k=6\/n.k=7) (ha:slot n.a):FineN l nd near slot n:=⟨by omega,fun _=>ha,by omega,by omega,by omega,by omega⟩
theorem FineN.of8 {n:Nm} (h:n.k=8) (ha:near n.a):FineN l nd near slot n:=⟨by omega,by omega,fun _=>ha,by omega,by omega,by omega⟩
theorem FineN.of9 {n:Nm} (h:n.k=9) (ha:near n.a) (hb:near n.b):FineN l nd near slot n:=⟨by omega,by omega,by omega,fun _=>⟨ha,hb⟩,by omega,by omega⟩
theorem FineN.of10 {n:Nm} (h:n.k=10) (ha:1<=n.a/\n.a<=l.nodes) (h1:nd[(n.a - 1).toNat]!.k=1->near nd[(n.a - 1).toNat]!.b) (h2:nd[(n.a - 1).toNat]!.k≠1->slot nd[(n.a - 1).toNat]!.a):FineN l nd near slot n:=⟨by omega,by omega,by omega,by omega,fun _=>⟨ha,h1,h2⟩,by omega⟩
theorem zyp {W:Pt} (hW:W.Ok) (ht:W.p.thread=1) (hT:1<=W.l.T) {nd:Array Nm} (hN:NN W.l nd) (hz:(nd.size:Int)=W.l.nodes) (hC:∀ w,W.C w->near w) (hE:∀ q,W.E q->slot q) {j:Int} (h0:0<=j) (hj:W.A2 j) {n:Nm} (hn:W.l.posI n=j):FineN W.l nd near slot n:=by
 have hl:=hW.hl
 have hh:W.l.heads=W.l.T+1+W.l.S * 7:=rfl
 have key:∀ {n':Nm},W.l.posI n'=j->n=n':=fun {n'} h=>zpm hl (by omega) (hn.trans h.symm)
 have fld:∀ x f,W.N x->(0<=f/\f<7)->j=W.l.field x f->FineN W.l nd near slot n:=fun x f hx hf e=>by
  have en:=key (n':=⟨10,x,f,0⟩) ((zmJ hl hx.1 hf).trans e.symm)
  subst en
  have hx1:=hx.1
  unfold Lay.nd at hx1
  have hk:=hN (x - 1).toNat (by omega)
  rw [show (((x - 1).toNat:Nat):Int)+1=x by omega] at hk
  refine .of10 Z hx1 (fun k1=>?_) fun k1=>?_
  ·rcases hk.as with ⟨_,_,a3,a4⟩ | ⟨a1,_⟩
   ·have:=hx.2.1
    rw [<-a4,(zag hl a3).2.1] at this
    exact hC _ (this Z)
   ·rw [a1] at k1; cases k1
  ·rcases hk.as with ⟨a1,_⟩ | ⟨_,a2,a3⟩
   ·exact absurd a1 k1
   ·have:=hx.2.2
    rw [<-a3,(zaA hl a2).2] at this
    exact hE _ (this Z)
 rcases hj with ((⟨s,hs,hj⟩ | ⟨a,b,ha,hb,hj⟩ | ⟨v,i,hv,hj⟩) | ⟨x,f,hx,hf,hj⟩) | ⟨x,hx,hj | hj⟩ | hj
 ·have r:=hW.he s hs
  have p:=zpl hl r
  have en:∃ k b:Int,n=⟨k,s,b,0⟩/\(k=4\/k=5\/k=6\/k=7):=by
   have eo:∀ f,0<=f->W.l.of s f=W.l.T+1+s * 7+f:=fun f _=>by unfold Lay.of; rw [Zp (show below s W.l.S from r)]
   rcases hj with hj | hj | ⟨d,hj | hj⟩
   ·exact ⟨4,0,key (by rw [hj,p.2.1]; exact (eo 1 (by decide)).symm),.inl Z⟩
   ·exact ⟨5,0,key (by rw [hj,p.2.2.1]; exact (eo 2 (by decide)).symm),.inr (.inl Z)⟩
   ·unfold Lay.next at hj
    by_cases hd:below d 2
    ·rw [Zp hd,eo _ (by unfold below at hd; omega)] at hj
     refine ⟨6,d,key ?_,.inr (.inr (.inl Z))⟩
     unfold below at hd
     unfold Lay.posI
     rw [hj]
     simp [r]
     omega
    ·rw [Zn hd] at hj; omega
   ·unfold Lay.prev at hj
    by_cases hd:below d 2
    ·rw [Zp hd,eo _ (by unfold below at hd; omega)] at hj
     refine ⟨7,d,key ?_,.inr (.inr (.inr Z))⟩
     unfold below at hd
     unfold Lay.posI
     rw [hj]
     simp [r]
     omega
    ·rw [Zn hd] at hj; omega
  obtain ⟨k,b,rfl,hk⟩:=en
  exact .of4 hk (hE s hs)
 ·have ra:=hW.hc a ha
  have rb:=hW.hc b hb
  rcases Int.lt_trichotomy a b with h | h | h
  ·have en:=key (n':=⟨9,a,b,0⟩) ((zll hl ⟨ra.1,h⟩ rb.2).trans hj.symm)
   subst en
   exact .of9 Z (hC a ha) (hC b hb)
  ·exfalso
   subst h
   unfold Lay.edge at hj
   simp at hj
   omega
  ·have e2:W.l.edge a b=W.l.edge b a:=by
    unfold Lay.edge; rw [Int.min_comm,Int.max_comm]
   have en:=key (n':=⟨9,b,a,0⟩) ((zll hl ⟨rb.1,h⟩ ra.2).trans (e2.symm.trans hj.symm))
   subst en
   exact .of9 Z (hC b hb) (hC a ha)
 ·have rv:=hW.hc v hv
  by_cases hi:0<=i/\i<W.l.lev
  ·have en:=key (n':=⟨8,v,i,0⟩) ((zlk hl rv hi).trans hj.symm)
   subst en
   exact .of8 Z (hC v hv)
  ·exfalso
   unfold Lay.head at hj
   rw [Zn (fun c=>hi c.2)] at hj
   omega
 ·exact fld x f hx (by omega) hj
 ·exact fld x 0 hx (by decide) hj
 ·exact fld x 1 hx (by decide) hj
 ·rw [ht,zcn hl ⟨Int.le_refl _,by omega⟩] at hj
  have en:=key (n':=⟨1,1,0,0⟩) ((zmI hl ⟨Int.le_refl _,by omega⟩).trans hj.symm)
  subst en
  exact .of1 Z Z
end
theorem zxe {α:Type} [Inhabited α] {d e:Array α} {j:Nat} (h:j<d.size):(d++e)[j]! =d[j]!:=by
 rw [getElem!_pos _ j (by simp; omega),Array.getElem_append,dif_pos h,getElem!_pos d j h]
section
variable {l:Lay} (hl:l.Ok) {pr:Int->Int} {k:Nat} {m:M} {tag:Int} {g:G} {d:Array EdR} {P:PlanS} {u v s:Int} {g':G} {d2:Array EdR}
include hl
theorem Cl19.a2 (c:Cl19 l pr k m tag g d P u v s g' d2):∀ a∈P.work.toList,(ptW l ⟨1,tag⟩ (zaN l m u v) g u v s).A2 a.cell:=fun a ha=>by
 obtain ⟨rt,ver,row0,hH,hp⟩:=c.ex
 cases hp with
 | tree hD hr=>exact hD.a2 a ha
 | plain hD hr=>exact (hD.k a ha).1
theorem Cl19.fine (c:Cl19 l pr k m tag g d P u v s g' d2) (h:P19 l pr k m tag g d) (hT:1<=l.T) (hk:k<=60000) {nm nd:Array Nm} (hI:NI l nm) (hz:(nm.size:Int)=l.cells) (hN:NN l nd) (hz2:(nd.size:Int)=l.nodes) {i:Nat} (hi:i<P.work.size) {a b:Int} (ha:min u v=a) (hb:max u v=b) :
  FineN l nd (zls d a b) (zz0 d d2 a b) nm[P.work[i]!.cell.toNat]!:=by
 obtain ⟨rt,ver,row0,hH,_⟩:=c.ex
 have rd:=hH.rdy hl (s:=s) hT hk h.tg
 have r14:=h.r14 hl
 have near:∀ w,CW l g u v w->zls d a b w:=fun w hw=>by
  have e1:Wh g w u->jdB d w u=true:=fun q=>(r14.jd hl).2 q
  have e2:Wh g w v->jdB d w v=true:=fun q=>(r14.jd hl).2 q
  unfold zls
  rw [<-ha,<-hb]
  rcases Int.le_total u v with q | q
  ·rw [Int.min_eq_left q,Int.max_eq_right q]; exact hw.2.imp e1 e2
  ·rw [Int.min_eq_right q,Int.max_eq_left q]; exact (hw.2.imp e1 e2).symm
 have hc:=c.cels i hi
 have hnp:=hI P.work[i]!.cell.toNat (by omega)
 refine zyp (W:=ptW l ⟨1,tag⟩ (zaN l m u v) g u v s) rd.ok Z hT hN hz2 near (fun q hq=>?_) hc.1 (c.a2 hl _ (by rw [getElem!_pos _ i hi]; simp)) (by show l.posI _=_; rw [hnp]; omega)
 rcases hq.2 with ⟨q1,q2⟩ | ⟨q1,q2⟩
 ·rcases c.ds with ⟨i2,h1,h2,_⟩ | h1
  ·have:=(h.dc.row i2 h1).1
   rw [h2,<-q2,q1] at this; cases this
  ·have hs:(d++d2).size=d.size+d2.size:=Array.size_append
   have hs2:d2.size=d.size+1:=by rw [h1]; simp
   have e9:(d++d2)[d.size+d.size]! =⟨s,min u v,max u v,0,false⟩:=by
    rw [getElem!_pos _ _ (by omega),Array.getElem_append,dif_neg (by omega)]
    subst h1
    simp
   refine ⟨d.size+d.size,by omega,by rw [e9]; exact q2.symm,?_⟩
   rw [e9]
   unfold zls
   rw [<-ha]
   exact .inl ((r14.jd hl).2 (.refl _))
 ·obtain ⟨j,hj,e⟩:=h.dc.cov q q1
  have r:=h.dc.row j hj
  refine ⟨j,by rw [Array.size_append]; omega,by rw [zxe hj]; exact e,?_⟩
  rw [zxe hj]
  rw [e] at r
  rw [<-r.2.1]
  exact near _ q2
end
end Go.Tm
namespace Go.Tm
theorem zmR {d:Array EdR} {a b w:Int} (h:zls d a b w):(jdB d w a || jdB d w b)=true:=by
 unfold zls at h
 rcases h with h | h<;>simp [h]
theorem zAj {d:Array EdR} {a b w:Int} (h:(jdB d w a || jdB d w b)=false):¬zls d a b w:=fun c=>by rw [zmR c] at h; cases h
theorem zqf {P:Nat->Prop} {i:Nat} (h:∀ j,j<i->¬P j) (hi:¬P i):∀ j,j<i+1->¬P j:=fun j hj=>by
 by_cases e:j=i
 ·subst e; exact hi
 ·exact h j (by omega)
theorem zyc (σ:M):(decide (σ.size=σ.size) && eqN (memF σ) (memF σ) σ.size)=true:=by
 rw [decide_eq_true Z,Bool.true_and]
 exact zw9 fun i hi=>Z
end Go.Tm
