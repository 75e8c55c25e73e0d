import Derived.Test.YtabjfnfglcghfaaGreatEngF
set_option linter.unusedVariables false
set_option linter.unusedSimpArgs false
set_option linter.unusedSectionVars false
namespace Go.Tm
open MemLike Eng
theorem zcJ {a b x:Int}:x∈(zar a b).toList↔x=a\/x=b:=by
 unfold zar
 split
 ·next h=>subst h; simp
 ·simp only [List.mem_cons,List.not_mem_nil,or_false]
  rcases Int.le_total a b with c | c
  ·rw [Int.min_eq_left c,Int.max_eq_right c]
  ·rw [Int.min_eq_right c,Int.max_eq_left c]; exact Or.comm
theorem zvU {g g':G} {s:Int} (e1:g'.has=updB g.has s false) (e2:g'.u=g.u) (e3:g'.v=g.v) {a w:Int} (ha:a=g.u s\/a=g.v s) (h:Wh g a w):Wh g' (g.u s) w\/Wh g' (g.v s) w:=by
 unfold Wh at h
 induction h with
 | refl=>rcases ha with rfl | rfl; (· exact .inl (.refl _)); exact .inr (.refl _)
 | step c q hq he ih =>
  by_cases eq:q=s
  ·subst eq
   rcases he with ⟨_,h2⟩ | ⟨_,h2⟩
   ·right; rw [<-h2]; exact .refl _
   ·left; rw [<-h2]; exact .refl _
  ·have hq':g'.has q=true:=by rw [e1]; unfold updB; rw [if_neg eq]; exact hq
   exact ih.imp (fun k=>Conn.step k q hq' (by rw [e2,e3]; exact he)) fun k=>Conn.step k q hq' (by rw [e2,e3]; exact he)
theorem zvT {g:G} {s a b i:Int} {t:Bool} (hno:g.has s=false) {x y:Int} (h:Wh g x y):Wh (g.put s a b i t) x y:=by
 unfold Wh at *
 have ne:∀ q,g.has q=true->q≠s:=fun q hq e=>by rw [e,hno] at hq; cases hq
 refine Conn.mono (P:=fun q=>g.has q=true) (Conn.ends h fun q hq=>?_) fun q hq=>?_
 ·constructor<;>(simp [G.put,updI,ne q hq])
 ·simp [G.put,updB,hq]
section
variable {l:Lay} (hl:l.Ok) {pr:Int->Int} {k:Nat} {m:M} {tag:Int} {g:G} {d:Array EdR}
structure Hd19 (l:Lay) (pr:Int->Int) (k:Nat) (m:M) (tag:Int) (g:G) (u v:Int) (rt ver:Int->Int):Prop where
 held:za1 l m u v=zar (rt (l.vertex 0 u)) (rt (l.vertex 0 v))
 rtm:Rt l m rt
 rt:Rt l (zaB l m u v) rt
 calm:Calm l pr ⟨1,tag⟩ ver (zaB l m u v) g
 par:∀ x,l.nd x->parent l (zaB l m u v) x=parent l m x
 ver:∀ x,V0 l x->0<=ver x/\ver x<=k
 lock:∀ x,l.nd x->get (zaB l m u v) (l.field x 0)=if x∈(za1 l m u v).toList then 1 else get m (l.field x 0)
 oth:∀ j,(∀ x,l.nd x->j≠l.field x 0)->get (zaB l m u v) j=get m j
include hl
theorem P19.hold (h:P19 l pr k m tag g d) (hT:1<=l.T) (hk:k<=60000) {u v:Int} (hu:0<=u/\u<l.V) (hv:0<=v/\v<l.V):∃ rt ver,Hd19 l pr k m tag g u v rt ver:=by
 obtain ⟨ver,hc,hver⟩:=h.c
 have tg:=h.tg
 have hp:PenOk ⟨1,tag⟩:=⟨(show (1:Int)<=1/\(1:Int)<=8 by decide),by show 0<=tag/\tag<=16777215; omega⟩
 obtain ⟨rt,hrt,_,_⟩:=hc.rt.roots hl
 have e:za1 l m u v=zar (rt (l.vertex 0 u)) (rt (l.vertex 0 v)):=by
  unfold za1
  rw [zgZ hl (fun x hx=>zaJ (hc.pp x hx)) hrt hu,zgZ hl (fun x hx=>zaJ (hc.pp x hx)) hrt hv]
 have hnd:∀ x∈(za1 l m u v).toList,l.nd x:=fun x hx=>by
  rw [e,zcJ] at hx
  rcases hx with rfl | rfl
  ·obtain ⟨_,_,a⟩:=hrt _ (vx0 hl hu); exact a.last.1.1
  ·obtain ⟨_,_,a⟩:=hrt _ (vx0 hl hv); exact a.last.1.1
 have hz:m.size=l.cells:=hc.rt.size
 obtain ⟨z1,z2,z3⟩:=zi8 hl hz (d:=za1 l m u v) (v:=1) (by decide) hnd
 have hpar:∀ x,l.nd x->parent l (zaB l m u v) x=parent l m x:=fun x hx=>zbK (z3 _ fun y hy e=>by have:=(zac hl hx (by decide) hy (by decide)).1 e; omega)
 refine ⟨rt,ver,e,hrt,fun x hx=>?_,hc.locks hl hp (by show (1:Int)<=l.T; omega) z1 z3,hpar,hver,z2,z3⟩
 obtain ⟨h,h1,h2⟩:=hrt x hx
 exact ⟨h,h1,h2.congr fun y hy=>hpar y hy.1⟩
variable {u v s:Int} {rt ver:Int->Int}
theorem Hd19.rdy (h:Hd19 l pr k m tag g u v rt ver) (hT:1<=l.T) (hk:k<=60000) (tg:0<=tag/\tag<=k):Rdy (ptW l ⟨1,tag⟩ (zaB l m u v) g u v s) pr ver g :=
 zxb hl ⟨(show (1:Int)<=1/\(1:Int)<=8 by decide),by show 0<=tag/\tag<=16777215; omega⟩ (by show (1:Int)<=l.T; omega) (by show tag+1<=16777215; omega) h.calm fun x hx=>by have:=h.ver x hx; omega
theorem Hd19.heldN (h:Hd19 l pr k m tag g u v rt ver) (rd:Rdy (ptW l ⟨1,tag⟩ (zaB l m u v) g u v s) pr ver g) (hu:0<=u/\u<l.V) (hv:0<=v/\v<l.V):∀ x∈(za1 l m u v).toList,(ptW l ⟨1,tag⟩ (zaB l m u v) g u v s).N x:=fun x hx=>by
 rw [h.held,zcJ] at hx
 rcases hx with rfl | rfl
 ·exact rd.held h.rt (v:=u) ⟨hu,.inl (.refl _)⟩
 ·exact rd.held h.rt (v:=v) ⟨hv,.inr (.refl _)⟩
theorem P19.ins (h:P19 l pr k m tag g d) (hH:Hd19 l pr k m tag g u v rt ver) (hT:1<=l.T) (hk:k<=60000) (hu:0<=u/\u<l.V) (hv:0<=v/\v<l.V) (hne:u≠v) (hs:0<=s/\s<l.S) (hno:∀ j,j<d.size->d[j]!.slot≠s) (hfr:∀ j,j<d.size->bwB d u v j=false) :
  ∃ ex row0 g',insF l ⟨1,tag⟩ 561 (za1 l m u v) (zaB l m u v) s u v=some ex/\PlanR (ptW l ⟨1,tag⟩ (zaB l m u v) g u v s) pr ver g' (za1 l m u v) u v row0 ex/\Dc g' (d++#[⟨s,min u v,max u v,0,false⟩])/\∀ w,CW l g u v w->Wh g' w u\/Wh g' w v:=by
 have rd:=hH.rdy hl (s:=s) hT hk h.tg
 have hg:g.has s=false:=by
  cases e:g.has s with
  | false=>rfl
  | true=>obtain ⟨i,hi,e2⟩:=h.dc.cov s e; exact absurd e2 (hno i hi)
 obtain ⟨ex,row0,t,h1,h2,_⟩:=zve rd (s:=s) (u:=u) (v:=v) ⟨hs,.inl ⟨hg,rfl⟩⟩ ⟨hu,.inl (.refl _)⟩ ⟨hv,.inr (.refl _)⟩ hne hg (fun q hq hc=>by
  obtain ⟨i,hi,e2⟩:=h.dc.cov q hq
  have r:=h.dc.row i hi
  have:=hfr i hi
  unfold bwB at this
  rw [decide_eq_false_iff_not] at this
  rw [<-e2] at hc
  exact this ⟨r.2.1.symm.trans hc.1,r.2.2.1.symm.trans hc.2⟩) (held:=za1 l m u v) (fun i hi=>hH.heldN hl rd hu hv _ (zcC.2 ⟨i,hi,rfl⟩))
 exact ⟨ex,row0,_,h1,h2,h.dc.put hg,fun w hw=>hw.2.imp (fun c=>zvT hg c) fun c=>zvT hg c⟩
theorem P19.del (h:P19 l pr k m tag g d) {i:Nat} (hi:i<d.size) (hu:u=d[i]!.u) (hv:v=d[i]!.v) (hH:Hd19 l pr k m tag g u v rt ver) (hT:1<=l.T) (hk:k<=60000) :
  ∃ ex row0 g',delF l ⟨1,tag⟩ 561 (za1 l m u v) (zaB l m u v) d[i]!.slot=some ex/\PlanR (ptW l ⟨1,tag⟩ (zaB l m u v) g u v d[i]!.slot) pr ver g' (za1 l m u v) u v row0 ex/\Dc g' (cutA d i)/\∀ w,CW l g u v w->Wh g' w u\/Wh g' w v:=by
 have rd:=hH.rdy hl (s:=d[i]!.slot) hT hk h.tg
 obtain ⟨r1,r2,r3,_⟩:=h.dc.row i hi
 have rg:=hH.calm.rt.rng hl r1
 have gu:g.u d[i]!.slot=u:=r2.trans hu.symm
 have gv:g.v d[i]!.slot=v:=r3.trans hv.symm
 rw [gu,gv] at rg
 obtain ⟨ex,row0,g',h1,h2,e1,e2,e3⟩:=zvw rd (s:=d[i]!.slot) r1 (by rw [gu]; exact ⟨by omega,.inl (.refl _)⟩) (held:=za1 l m u v) (fun j hj=>hH.heldN hl rd (by omega) (by omega) _ (zcC.2 ⟨j,hj,rfl⟩))
 rw [gu,gv] at h2
 refine ⟨ex,row0,g',h1,h2,(h.dc.del hl hi).ext e1 e2 e3,fun w hw=>?_⟩
 have:=hw.2.elim (fun c=>zvU e1 e2 e3 (s:=d[i]!.slot) (.inl gu.symm) (Conn.symm c)) fun c=>zvU e1 e2 e3 (s:=d[i]!.slot) (.inr gv.symm) (Conn.symm c)
 rw [gu,gv] at this
 exact this.imp Conn.symm Conn.symm
def endM (l:Lay) (t:M) (ex:PlanS):M:=zbl l ex.roots [] 0 ex.roots.size (runM t ex.work.toList)
theorem P19.next (h:P19 l pr k m tag g d) (hH:Hd19 l pr k m tag g u v rt ver) (hT:1<=l.T) (hk:k<=60000) (hu:0<=u/\u<l.V) (hv:0<=v/\v<l.V) {g':G} {d':Array EdR} {row0:Array Acc} {ex:PlanS} {m':M} {ver':Int->Int}
  (hp:Left (ptW l ⟨1,tag⟩ (zaB l m u v) g u v s) pr ver g' (za1 l m u v) u v ex m' ver') (hd:Dc g' d') (hj:∀ w,CW l g u v w->Wh g' w u\/Wh g' w v) :
  P19 l pr (k+1) (endM l (zaB l m u v) ex) (if ex.tree then tag+1 else tag) g' d':=by
 have tg:=h.tg
 have rd:=hH.rdy hl (s:=s) hT hk tg
 obtain ⟨rt',hrt',hrs⟩:=hp.rts
 have hrs':ex.roots=zar (rt' (l.vertex 0 u)) (rt' (l.vertex 0 v)):=hrs
 have hR':zay l pr m' g':=hp.calm.rt
 have hnd:∀ x∈ex.roots.toList,l.nd x:=fun x hx=>by
  rw [hrs',zcJ] at hx
  rcases hx with rfl | rfl
  ·obtain ⟨_,_,a⟩:=hrt' _ (vx0 hl hu); exact a.last.1.1
  ·obtain ⟨_,_,a⟩:=hrt' _ (vx0 hl hv); exact a.last.1.1
 have hz:m'.size=l.cells:=hR'.size
 obtain ⟨z1,z2,z3⟩:=zi8 hl hz (d:=ex.roots) (v:=0) (by decide) hnd
 have eE:endM l (zaB l m u v) ex=zbl l ex.roots [] 0 ex.roots.size m':=by unfold endM; rw [show runM (zaB l m u v) ex.work.toList=m' from hp.run]
 have hpar:∀ x,l.nd x->parent l (endM l (zaB l m u v) ex) x=parent l m' x:=fun x hx=>by
  rw [eE]; exact zbK (z3 _ fun y hy e=>by have:=(zac hl hx (by decide) hy (by decide)).1 e; omega)
 have calm':Calm l pr ⟨1,if ex.tree then tag+1 else tag⟩ ver' m' g':=hp.calm
 refine ⟨hd,⟨ver',?_,fun x hx=>?_⟩,?_,fun rt2 hrt2 x hx=>?_⟩
 ·rw [eE]
  exact calm'.locks hl ⟨(show (1:Int)<=1/\(1:Int)<=8 by decide),by show 0<=(if ex.tree then tag+1 else tag)/\(if ex.tree then tag+1 else tag)<=16777215; split<;>omega⟩ (by show (1:Int)<=l.T; omega) z1 z3
 ·have a:=hH.ver x hx
  rcases hp.vers x hx with e | ⟨e,_⟩<;>(rw [e]; omega)
 ·split<;>omega
 ·have e2:∀ w:Int,0<=w/\w<l.V->rt2 (l.vertex 0 w)=rt' (l.vertex 0 w):=fun w hw=>by
   obtain ⟨_,_,a⟩:=hrt2 _ (vx0 hl hw)
   obtain ⟨_,_,b⟩:=hrt' _ (vx0 hl hw)
   exact (a.uniq (b.congr fun y hy=>hpar y hy.1)).2
  have lkx:=h.lk rt hH.rtm x hx
  have lockx:get (zaB l m u v) (l.field x 0)=if x∈(za1 l m u v).toList then 1 else get m (l.field x 0):=hH.lock x hx
  have lock2:get m' (l.field x 0)=zqp ⟨1,tag⟩ (za1 l m u v) ex.roots x (get (zaB l m u v) (l.field x 0)):=hp.lock x hx
  rw [eE,z2 x hx]
  have inC:∀ w:Int,CW l g u v w->rt' (l.vertex 0 w)∈ex.roots.toList:=fun w hw=>by
   rw [hrs',zcJ]
   rcases hj w hw with c | c
   ·exact .inl ((zmf hl hR' hrt' hw.1 hu).2 ((zlW hl hR' hp.calm.hd).1 c))
   ·exact .inr ((zmf hl hR' hrt' hw.1 hv).2 ((zlW hl hR' hp.calm.hd).1 c))
  have inC0:∀ w:Int,CW l g u v w->rt (l.vertex 0 w)∈(za1 l m u v).toList:=fun w hw=>by
   rw [hH.held,zcJ]
   rcases hw.2 with c | c
   ·exact .inl ((zmf hl hH.calm.rt hH.rt hw.1 hu).2 ((zlW hl hH.calm.rt hH.calm.hd).1 c))
   ·exact .inr ((zmf hl hH.calm.rt hH.rt hw.1 hv).2 ((zlW hl hH.calm.rt hH.calm.hd).1 c))
  have outC:∀ w:Int,0<=w/\w<l.V->¬CW l g u v w->rt' (l.vertex 0 w)=rt (l.vertex 0 w)/\¬(rt (l.vertex 0 w)∈(za1 l m u v).toList):=fun w hw hc=>by
   have lb:=zcj hl
   have nN:¬(ptW l ⟨1,tag⟩ (zaB l m u v) g u v s).N (l.vertex 0 w):=fun c=>hc ((nV rd.ok rd.pt (show l.okV 0 w from ⟨by omega,hw⟩)).1 c)
   refine ⟨zv0 rd.ok rd.pt hH.calm.rt hH.rt hrt' (fun y hy hn=>hp.out y hy hn) (vx0 hl hw) nN,fun c=>nN ?_⟩
   exact (zw3 rd.ok rd.pt hH.calm.rt hH.rt (vx0 hl hw)).1 (hH.heldN hl rd hu hv _ c)
  by_cases hr:x∈ex.roots.toList
  ·rw [if_pos hr,if_pos]
   rw [hrs',zcJ] at hr
   rcases hr with e | e
   ·exact ⟨u,hu,by rw [e2 u hu]; exact e⟩
   ·exact ⟨v,hv,by rw [e2 v hv]; exact e⟩
  ·rw [if_neg hr,lock2]
   unfold zqp
   by_cases hx1:x∈(za1 l m u v).toList
   ·rw [if_pos ⟨hx1,hr⟩,if_neg]
    rintro ⟨w,hw,e⟩
    rw [e2 w hw] at e
    by_cases hc:CW l g u v w
    ·exact hr (by rw [e]; exact inC w hc)
    ·obtain ⟨o1,o2⟩:=outC w hw hc
     rw [o1] at e
     exact o2 (by rw [<-e]; exact hx1)
   ·rw [if_neg fun c=>hx1 c.1,if_neg fun c=>hr c.1,lockx,if_neg hx1,lkx]
    have:(∃ w:Int,(0<=w/\w<l.V)/\x=rt (l.vertex 0 w))↔∃ w:Int,(0<=w/\w<l.V)/\x=rt2 (l.vertex 0 w):=by
     constructor
     ·rintro ⟨w,hw,e⟩
      by_cases hc:CW l g u v w
      ·exact absurd (by rw [e]; exact inC0 w hc) hx1
      ·exact ⟨w,hw,by rw [e2 w hw,(outC w hw hc).1]; exact e⟩
     ·rintro ⟨w,hw,e⟩
      rw [e2 w hw] at e
      by_cases hc:CW l g u v w
      ·exact absurd (by rw [e]; exact inC w hc) hr
      ·exact ⟨w,hw,by rw [e]; exact (outC w hw hc).1⟩
    split
    ·next hc=>rw [if_pos (this.1 hc)]
    ·next hc=>rw [if_neg fun c=>hc (this.2 c)]
end
theorem zqq {l:Lay} {σ:M} {d:Array Int} {k:Nat}:st (zbl l d [] 0 k σ) (l.field d[k]! 0) 0=zbl l d [] 0 (k+1) σ:=by
 conv=>rhs; rw [zbl]
 rw [if_neg (by simp)]
def zgJ (l:Lay) (σ:M):Nat->Array Int
 | 0=>#[]
 | k+1=>if zb3 l ((k+1:Nat):Int) then zgJ l σ k++#[zbF l σ ((k+1:Nat):Int) 2,zbF l σ ((k+1:Nat):Int) 1] else zgJ l σ k
end Go.Tm
namespace Go.Tm
def zjX (d:Array Acc) (pq:Int):Nat->List (Int×Int)
 | 0=>[]
 | i+1=>if (i:Int)<pq/\d[i]!.store=true then Go.Eng.mput (zjX d pq i) d[i]!.cell ((Go.Eng.mget (zjX d pq i) d[i]!.cell).getD 0+1) else zjX d pq i
theorem zpB {d:Array Acc} {pt:Nat} {c:Int}:∀ i,i<=d.size->(Go.Eng.mget (zjX d (pt:Int) i) c).getD 0=(((d.toList.take i).take pt).countP (isSt c):Int)
 | 0,_=>by rw [zjX,Go.Eng.mget_nil]; simp
 | i+1,hi=>by
  have ih:=zpB (d:=d) (pt:=pt) (c:=c) i (by omega)
  have hil:i<d.toList.length:=by simp; omega
  have ei:d.toList[i]=d[i]!:=by rw [getElem!_pos d i (by omega)]; simp
  have et:d.toList.take (i+1)=d.toList.take i++[d[i]!]:=by rw [<-ei]; exact (List.take_append_getElem hil).symm
  have hlen:(d.toList.take i).length=i:=by rw [List.length_take]; omega
  rw [et,List.take_append]
  have e2:(d.toList.take i).length=i:=hlen
  rw [zjX,List.countP_append,e2]
  by_cases hp:(i:Int)<pt
  ·rw [List.take_of_length_le (l:=[d[i]!]) (by simp; omega)]
   by_cases hs:d[i]!.store=true
   ·rw [if_pos ⟨hp,hs⟩,Go.Eng.mget_put]
    by_cases ec:c=d[i]!.cell
    ·subst ec
     have:isSt d[i]!.cell d[i]! =true:=by unfold isSt; rw [hs,decide_eq_true rfl]; rfl
     rw [if_pos rfl,Option.getD_some,ih,List.countP_cons,this]; simp
    ·have:isSt c d[i]! =false:=by unfold isSt; rw [decide_eq_false fun e=>ec e.symm,Bool.and_false]
     rw [if_neg ec,ih,List.countP_cons,this]; simp
   ·rw [if_neg fun c=>hs c.2,ih]
    have:isSt c d[i]! =false:=by unfold isSt; rw [show d[i]!.store=false by simpa using hs]; rfl
    rw [List.countP_cons,this]; simp
  ·rw [if_neg fun c=>hp c.1,ih,show pt - i=0 by omega]; simp
open MemLike Eng
def atN (d:Array EdR) (a b:Int):Nat->Int
 | 0=>-1
 | i+1=>if d[i]!.u=a/\d[i]!.v=b then (i:Int) else atN d a b i
theorem zok {d:Array EdR} {a b:Int} {i:Nat} (h:d[i]!.u=a) (h2:d[i]!.v=b):(i:Int)=atN d a b (i+1):=by rw [atN,if_pos ⟨h,h2⟩]
theorem zt4 {d:Array EdR} {a b:Int} {i:Nat} (h:¬d[i]!.u=a):atN d a b i=atN d a b (i+1):=by rw [atN,if_neg fun c=>h c.1]
theorem zt3 {d:Array EdR} {a b:Int} {i:Nat} (h:¬d[i]!.v=b):atN d a b i=atN d a b (i+1):=by rw [atN,if_neg fun c=>h c.2]
def UsE (d:Array EdR) (k:Nat) (D:Array Bool):Prop:=∀ s:Nat,s<D.size->(D[s]! =true↔∃ j,j<k/\d[j]!.slot=(s:Int))
theorem UsE.start {d:Array EdR} {N:Nat}:UsE d 0 (Array.replicate N false):=fun s hs=>by
 constructor
 ·intro h
  rw [getElem!_pos _ s hs] at h
  simp at h
 ·rintro ⟨j,hj,_⟩; omega
theorem UsE.step {d:Array EdR} {k:Nat} {D:Array Bool} (h:UsE d k D) {s:Nat} (hs:d[k]!.slot=(s:Int)):UsE d (k+1) (D.setIfInBounds s true):=fun q hq=>by
 have hq':q<D.size:=by simpa using hq
 have ih:=h q hq'
 rw [getElem!_pos _ q hq,Array.getElem_setIfInBounds (by simpa using hq)]
 rw [getElem!_pos D q hq'] at ih
 by_cases e:s=q
 ·subst e
  rw [if_pos rfl]
  exact ⟨fun _=>⟨k,by omega,hs⟩,fun _=>rfl⟩
 ·rw [if_neg e,ih]
  constructor
  ·rintro ⟨j,hj,e2⟩; exact ⟨j,by omega,e2⟩
  ·rintro ⟨j,hj,e2⟩
   refine ⟨j,?_,e2⟩
   by_cases ej:j=k
   ·subst ej; rw [hs] at e2; omega
   ·omega
theorem UsE.first {d:Array EdR} {n S q s:Nat} {D:Array Bool} (hU:UsE d n D) (hz:D.size=S) (hq:q<S) (hs:q<=s) (hlt:∀ q:Nat,q<s->∃ j,j<n/\d[j]!.slot=(q:Int)) (h:D[q]! =false):q=s:=by
 rcases Nat.lt_or_ge q s with h9 | h9
 ·rw [(hU q (by omega)).2 (hlt q h9)] at h; cases h
 ·omega
theorem UsE.more {d:Array EdR} {n S q s:Nat} {D:Array Bool} (hU:UsE d n D) (hz:D.size=S) (hq:q<S) (hs:q<=s) (hno:∀ j,j<n->d[j]!.slot≠(s:Int)) (h:D[q]! =true):q+1<=s:=by
 rcases Nat.lt_or_ge q s with h9 | h9
 ·omega
 ·obtain rfl:q=s:=by omega
  obtain ⟨j,hj,e⟩:=(hU q (by omega)).1 h
  exact absurd e (hno j hj)
section
variable {W:Pt} {pr ver:Int->Int} {g g':G} {En Lv:Int->Prop} {τ:Tr} {m':M}
theorem zwP (h:Rdy W pr ver g) (ht:Twin W En Lv τ m') {c:Int} (hc:W.Adr c) (hne:get m' c≠get W.m1 c):0<τ.row.size:=by
 rcases Nat.eq_zero_or_pos τ.row.size with h0 | h0
 ·refine absurd ?_ hne
  have e:τ.row.toList=[]:=by rw [Array.size_eq_zero_iff.1 h0]
  have r:=ht.rp.run
  rw [e] at r
  rw [<-ht.eq c hc,<-show W.m0=τ.mem from r]
  exact h.eq c (.inl hc)
 ·exact h0
theorem zkj {l:Lay} {m m2:M} {u v:Int} (h:get m (l.edge u v)=get m2 (l.edge u v)):find l m u v=find l m2 u v:=by
 unfold find; rw [h]
theorem zzB (h:Rdy W pr ver g) {s u v:Int} (hs:W.E s) (hu:W.C u) (hv:W.C v) (hne:u≠v) (hno:g.has s=false) (hf:∀ q,g.has q=true->¬(g.u q=min u v/\g.v q=max u v)) {t:Bool} (e0:zbt W.l W.p 561 (⟨W.m0,#[]⟩:Tr) s u v=some (t,τ)):0<τ.row.size:=by
 have hW:=h.ok
 have hcu:=hW.hc u hu
 have hcv:=hW.hc v hv
 obtain ⟨t1,m',e,hw,hr⟩:=h.writ.ins hW.hl hW.hp h.hT (hW.he s hs) hcu hcv hne hno hf
 have k:=zmE hW 561 h.twin hs (fun c=>by have:=c.1; rw [hno] at this; cases this) hu hv
 rw [e,e0] at k
 have hval:Val3 W.l ⟨1,u,v⟩:=⟨hne,hcu.1,hcu.2,hcv.1,hcv.2⟩
 have hd:get m' (W.l.edge u v)≠get W.m1 (W.l.edge u v):=fun ec=>by
  have e1:=zkj (l:=W.l) ec
  rcases (hw.edges hW.hl).found hW.hl hval with ⟨q,_,_,_,e2,_⟩ | ⟨n2,_⟩
  ·rcases (h.writ.edges hW.hl).found hW.hl hval with ⟨q2,b2,_,h2,_,_⟩ | ⟨_,e3⟩
   ·exact hf q2 h2 b2.2
   ·have e2:find W.l m' u v=⟨q,_,true⟩:=e2
    have e3:find W.l W.m1 u v=⟨0,false,false⟩:=e3
    rw [e2,e3] at e1
    injection e1 with _ _ c
    cases c
  ·refine n2 ⟨s,?_,?_⟩
   ·simp [GA.of,G.put,updB]
   ·simp [GA.of,G.put,updI]
 have ha:W.Adr (W.l.edge u v):=.inl (.inr (.inl ⟨u,v,hu,hv,rfl⟩))
 rcases k with k | k
 ·exact zwP h k.2.2 ha hd
 ·exact zwP h k.2.2 ha hd
theorem zAa (h:Rdy W pr ver g) {s:Int} (hh0:g.has s=true) (hu:W.C (g.u s)) {r:Bool×Int×Bool} (e0:zbu W.l W.p 561 (⟨W.m0,#[]⟩:Tr) s=some (r,τ)):0<τ.row.size:=by
 have hW:=h.ok
 have hv:W.C (g.v s):=(h.pt.uv s hh0).1 hu
 have hcu:=hW.hc _ hu
 have hcv:=hW.hc _ hv
 have rg:=h.calm.rt.rng hW.hl hh0
 obtain ⟨t,b,o,m',g',e,hw,x1,x2,x3,hr⟩:=h.writ.del hW.hl hW.hp h.hT hh0
 have k:=zmG hW (k:=561) (by decide) h.twin h.calm.rt h.calm.hd h.pt.ptg hh0 hu
 rw [e,e0] at k
 have hval:Val3 W.l ⟨1,g.u s,g.v s⟩:=⟨(show g.u s≠g.v s by omega),hcu.1,hcu.2,hcv.1,hcv.2⟩
 have hbt:(GA.of g).bt ⟨1,g.u s,g.v s⟩ s:=⟨hh0,(Int.min_eq_left (by show g.u s<=g.v s; omega)).symm,(Int.max_eq_right (by show g.u s<=g.v s; omega)).symm⟩
 have hd:get m' (W.l.edge (g.u s) (g.v s))≠get W.m1 (W.l.edge (g.u s) (g.v s)):=fun ec=>by
  have e1:=zkj (l:=W.l) ec
  rcases (h.writ.edges hW.hl).found hW.hl hval with ⟨q,b1,_,h1,e2,un⟩ | ⟨n2,_⟩
  ·have eqs:=un s hbt
   rcases (hw.edges hW.hl).found hW.hl hval with ⟨q2,b2,_,h2,_,_⟩ | ⟨_,e3⟩
   ·have h2':updB g.has s false q2=true:=by rw [<-x1]; exact h2
    unfold updB at h2'
    by_cases eq:q2=s
    ·rw [if_pos eq] at h2'; cases h2'
    ·rw [if_neg eq] at h2'
     have b2':(GA.of g).bt ⟨1,g.u s,g.v s⟩ q2:=⟨h2',by have:=b2.2.1; simpa [GA.of,x2] using this,by have:=b2.2.2; simpa [GA.of,x3] using this⟩
     have:=un q2 b2'
     omega
   ·have e2:find W.l W.m1 (g.u s) (g.v s)=⟨q,_,true⟩:=e2
    have e3:find W.l m' (g.u s) (g.v s)=⟨0,false,false⟩:=e3
    rw [e2,e3] at e1
    injection e1 with _ _ c
    cases c
  ·exact n2 ⟨s,hbt⟩
 exact zwP h k.2.2 (.inl (.inr (.inl ⟨_,_,hu,hv,rfl⟩))) hd
end
def Vals (d:Array Acc):Prop:=∀ a∈d.toList,0<=a.val/\a.val<18446744073709551616
theorem Vals.get {d:Array Acc} (h:Vals d):∀ i,i<d.size->0<=d[i]!.val/\d[i]!.val<18446744073709551616:=fun i hi=>h _ (by rw [getElem!_pos d i hi]; simp)
theorem Vals.push {d:Array Acc} {a:Acc} (h:Vals d) (ha:0<=a.val/\a.val<18446744073709551616):Vals (d++#[a]):=fun b hb=>by
 rw [Array.toList_append,List.mem_append] at hb
 rcases hb with hb | hb
 ·exact h b hb
 ·rw [List.mem_singleton] at hb; subst hb; exact ha
section
variable {σ:Tr} {l:Lay} {p:Pen}
theorem Vals.ld (h:Vals σ.row) (i:Int):Vals (MemLike.ld σ i:Tr).row:=by
 rw [zjV]
 split
 ·exact h.push (show 0<=MemLike.get σ.mem i/\_ from MemLike.rng _ _)
 ·exact h
theorem Vals.st (h:Vals σ.row) (i v:Int) (hv:0<=v/\v<18446744073709551616):Vals (MemLike.st σ i v:Tr).row:=by
 rw [zjU]
 split
 ·exact h.push hv
 ·exact h
theorem Vals.write (h:Vals σ.row) (c x:Int):Vals (p.write σ c x).row:=by
 unfold Pen.write
 split
 ·split
  ·exact (h.ld c).st _ _ (zby _ _)
  ·exact h.ld c
 ·exact h.ld c
theorem Vals.clean (h:Vals σ.row) (c:Int):Vals (zbq σ c).row:=by
 unfold zbq
 split
 ·split
  ·exact (h.ld c).st _ _ (zby _ _)
  ·exact h.ld c
 ·exact h.ld c
theorem Vals.state (h:Vals σ.row) (tag:Int) (dn:Bool):Vals (zaZ l p σ tag dn).row:=by
 unfold zaZ
 split
 ·refine h.st _ _ ?_
  unfold zaS
  split
  ·exact zby _ _
  ·exact zcR _
 ·exact h
theorem Rch.vals {σ0:Tr} (h0:Vals σ0.row) (h:Rch l p σ0 σ):Vals σ.row:=by
 induction h with
 | refl=>exact h0
 | ld i _ ih=>exact ih.ld i
 | nf _ hf hv ih=>exact ih.st _ _ hv
 | par _ hs hv ih=>exact ih.st _ _ hv
 | wr _ hs ih=>exact ih.write _ _
 | low _ hj hv ih=>exact ih.st _ _ hv
theorem Vals.vers {ch:List Int} {d:Array Int} (h:Vals σ.row):∀ k,Vals (zb1 l p ch d k σ).row
 | 0=>h
 | k+1=>by
  have ih:=Vals.vers (ch:=ch) (d:=d) h k
  rw [zb1]
  unfold ziG
  split
  ·dsimp only
   split
   ·exact ((ih.ld _).ld _).write _ _
   ·exact ih.ld _
  ·exact ih
theorem Vals.lock {d:Array Int} {but:List Int} {v:Int} (hv:0<=v/\v<18446744073709551616) (h:Vals σ.row):∀ k,Vals (zbl l d but v k σ).row
 | 0=>h
 | k+1=>by
  have ih:=Vals.lock (d:=d) (but:=but) hv h k
  rw [zbl]
  split
  ·exact ih
  ·exact ih.st _ _ hv
theorem Vals.cleanC {ch:List Int} {c:Int} (h:Vals σ.row):Vals (cleanC ch σ c).row:=by
 unfold Go.Tm.cleanC
 split
 ·exact h.clean _
 ·exact h
theorem Vals.cleanW {ch:List Int} {d:Array Int} (h:Vals σ.row):∀ k,Vals (cleanW l ch d k σ).row
 | 0=>h
 | k+1=>by
  have ih:=Vals.cleanW (ch:=ch) (d:=d) h k
  rw [Go.Tm.cleanW]
  exact ih.cleanC.cleanC
theorem Vals.root:∀ {k:Nat} {σ τ:Tr} {x r:Int},Go.Tm.root l k σ x=some (r,τ)->Vals σ.row->Vals τ.row:=fun {k σ τ x r} e h=>Rch.vals (p:=⟨0,0⟩) h (zhW e .refl)
theorem Vals.onceO {row:Array Acc} {pt:Nat} {q:List (Int×Int)×List (Int×Int)} (h:Vals row):∀ i,i<=row.size->Vals (onceO row pt q i).1
 | 0,_=>fun a ha=>by cases ha
 | i+1,hi=>by
  have ih:=Vals.onceO (pt:=pt) (q:=q) h i (by omega)
  rw [Go.Tm.onceO]
  dsimp only
  split
  ·exact ih
  ·exact ih.push (h.get i (by omega))
theorem Vals.planT {held rs:Array Int} (h:Vals σ.row):Vals (planT l p held rs σ).work:=by
 unfold Go.Tm.planT
 dsimp only
 refine Vals.onceO ?_ _ (Nat.le_refl _)
 exact ((((((h.vers _).lock (zcR _) _).state _ _).cleanW _).state _ _).lock (by decide) _)
theorem Vals.planF {held:Array Int} {k:Nat} {t:Bool} {u v:Int} {P:PlanS} (h:Vals σ.row) (e:planF l p k held t u v σ=some P):Vals P.work:=by
 unfold Go.Tm.planF at e
 obtain ⟨a,e1,e⟩:=Option.bind_eq_some_iff.1 e
 obtain ⟨b,e2,e⟩:=Option.bind_eq_some_iff.1 e
 have hb:Vals b.2.row:=Vals.root e2 (Vals.root e1 h)
 cases e
 split
 ·exact hb.planT
 ·exact hb
theorem zov {m:M}:Vals (⟨m,#[]⟩:Tr).row:=fun a ha=>by cases ha
theorem Vals.ins {held:Array Int} {k:Nat} {m:M} {s u v:Int} {b:Bool} {P:PlanS} (e1:zbt l p k (⟨m,#[]⟩:Tr) s u v=some (b,σ)) (e2:Go.Tm.planF l p k held b u v σ=some P):Vals P.work:=(Rch.vals zov (zmF e1 .refl)).planF e2
theorem Vals.del {held:Array Int} {k:Nat} {m:M} {s u v:Int} {r:Bool×Int×Bool} {P:PlanS} (e1:zbu l p k (⟨m,#[]⟩:Tr) s=some (r,σ)) (e2:Go.Tm.planF l p k held r.1 u v σ=some P):Vals P.work:=(Rch.vals zov (zjf e1 .refl)).planF e2
end
theorem zmn {row:Array Acc} {pt:Nat} {q:List (Int×Int)×List (Int×Int)}:∀ i,(onceO row pt q i).1.size<=i
 | 0=>Nat.le_refl _
 | i+1=>by
  have ih:=zmn (row:=row) (pt:=pt) (q:=q) i
  rw [onceO]
  dsimp only
  split
  ·omega
  ·simp; omega
theorem zka {l:Lay} (hl:l.Ok) {p:Pen} {held:Array Int} {k:Nat} {t:Bool} {u v:Int} {σ:Tr} {P:PlanS} (hk:k<=561) (hh2:held.size<=2) (hz:Room 20000 σ) (e:planF l p k held t u v σ=some P):P.work.size<=137438953471:=by
 have hnb:=zaF hl
 have hsl:=zdw l l.nodes.toNat
 have hsn:(zau l l.nodes.toNat).size<=560:=by omega
 unfold planF at e
 obtain ⟨a,e1,e⟩:=Option.bind_eq_some_iff.1 e
 obtain ⟨b,e2,e⟩:=Option.bind_eq_some_iff.1 e
 have hz2:Room 15000 b.2:=zdJ e2 (zdJ e1 (hz.le (by omega)))
 have hw:=zds (x:=a.1) (y:=b.1)
 cases e
 split
 ·unfold planT
  dsimp only
  refine Nat.le_trans (zmn _) (show _+0<=_ from zcN.1 (Room.le (m:=0) ?_ (Nat.le_refl _)))
  exact zdh (ze0 (zed (ze0 (zdh (zcT (hz2.le (by omega)))))))
 ·have:=zcN.1 hz2
  show b.2.row.size<=_
  omega
theorem zvd {l:Lay} (hl:l.Ok) {p:Pen} {held:Array Int} {m:M} {s u v:Int} {b:Bool} {σ:Tr} {P:PlanS} (hh2:held.size<=2) (e1:zbt l p 561 (⟨m,#[]⟩:Tr) s u v=some (b,σ)) (e2:planF l p 561 held b u v σ=some P):P.work.size<=137438953471:=by
 have hz0:Room 100000000 (⟨m,#[]⟩:Tr):=zcN.2 (by show 0+100000000<=_; decide)
 exact zka hl (Nat.le_refl _) hh2 (zjd e1 (hz0.le (by decide))) e2
theorem zvv {l:Lay} (hl:l.Ok) {p:Pen} {held:Array Int} {m:M} {s u v:Int} {r:Bool×Int×Bool} {σ:Tr} {P:PlanS} (hh2:held.size<=2) (e1:zbu l p 561 (⟨m,#[]⟩:Tr) s=some (r,σ)) (e2:planF l p 561 held r.1 u v σ=some P):P.work.size<=137438953471:=by
 have hz0:Room 130000000000 (⟨m,#[]⟩:Tr):=zcN.2 (by show 0+130000000000<=_; decide)
 exact zka hl (Nat.le_refl _) hh2 (zjg e1 (hz0.le (by decide))) e2
theorem zpP {a b:Int}:zar a b=zar b a:=by
 unfold zar
 by_cases h:a=b
 ·subst h; rfl
 ·rw [if_neg h,if_neg fun c=>h c.symm,Int.min_comm,Int.max_comm]
theorem zpi {l:Lay} {m:M} {u v:Int}:za1 l m (min u v) (max u v)=za1 l m u v:=by
 rcases Int.le_total u v with h | h
 ·rw [Int.min_eq_left h,Int.max_eq_right h]
 ·rw [Int.min_eq_right h,Int.max_eq_left h]; exact zpP
theorem zvh {l:Lay} {m:M} {u v:Int}:zaB l m (min u v) (max u v)=zaB l m u v:=by
 unfold zaB; rw [zpi]
structure Cl19 (l:Lay) (pr:Int->Int) (k:Nat) (m:M) (tag:Int) (g:G) (d:Array EdR) (P:PlanS) (u v s:Int) (g':G) (d2:Array EdR):Prop where
 hu:0<=u/\u<l.V
 hv:0<=v/\v<l.V
 ex:∃ rt ver row0,Hd19 l pr k m tag g u v rt ver/\PlanR (ptW l ⟨1,tag⟩ (zaB l m u v) g u v s) pr ver g' (za1 l m u v) u v row0 P
 dc:Dc g' d2
 hj:∀ w,CW l g u v w->Wh g' w u\/Wh g' w v
 vals:∀ i,i<P.work.size->0<=P.work[i]!.val/\P.work[i]!.val<18446744073709551616
 wsz:P.work.size<=137438953471
 ds:(∃ i,i<d.size/\d[i]!.slot=s/\d[i]!.u=min u v/\d[i]!.v=max u v/\d2=cutA d i)\/d2=d++#[⟨s,min u v,max u v,0,false⟩]
section
variable {l:Lay} (hl:l.Ok) {pr:Int->Int} {k:Nat} {m:M} {tag:Int} {g:G} {d:Array EdR}
include hl
theorem P19.r14 (h:P19 l pr k m tag g d):R14 l pr m g d:=by
 obtain ⟨ver,hc,_⟩:=h.c
 exact ⟨hc.rt,hc.hd,h.dc⟩
theorem P19.call_ins (h:P19 l pr k m tag g d) (hT:1<=l.T) (hk:k<=60000) {u v s:Int} (hu:0<=u/\u<l.V) (hv:0<=v/\v<l.V) (hne:u≠v) (hs:0<=s/\s<l.S) (hno:∀ j,j<d.size->d[j]!.slot≠s) (hfr:∀ j,j<d.size->¬(d[j]!.u=min u v/\d[j]!.v=max u v)) :
  ∃ b τ P g',zbt l ⟨1,tag⟩ 561 (⟨zaB l m u v,#[]⟩:Tr) s u v=some (b,τ)/\planF l ⟨1,tag⟩ 561 (za1 l m u v) b u v τ=some P/\0<τ.row.size/\Cl19 l pr k m tag g d P u v s g' (d++#[⟨s,min u v,max u v,0,false⟩]):=by
 obtain ⟨rt,ver,hH⟩:=h.hold hl hT hk hu hv
 obtain ⟨P,row0,g',h1,h2,h3,h4⟩:=h.ins hl hH hT hk hu hv hne hs hno fun j hj=>decide_eq_false (hfr j hj)
 have rd:=hH.rdy hl (s:=s) hT hk h.tg
 unfold insF at h1
 obtain ⟨⟨b,τ⟩,e1,e2⟩:=Option.bind_eq_some_iff.1 h1
 have hg:g.has s=false:=by
  cases e:g.has s with
  | false=>rfl
  | true=>obtain ⟨i,hi,e2⟩:=h.dc.cov s e; exact absurd e2 (hno i hi)
 have hz:=zzB rd (s:=s) (u:=u) (v:=v) ⟨hs,.inl ⟨hg,rfl⟩⟩ ⟨hu,.inl (.refl _)⟩ ⟨hv,.inr (.refl _)⟩ hne hg (fun q hq hc=>by
  obtain ⟨i,hi,e2⟩:=h.dc.cov q hq
  have r:=h.dc.row i hi
  rw [<-e2] at hc
  exact hfr i hi ⟨r.2.1.symm.trans hc.1,r.2.2.1.symm.trans hc.2⟩) e1
 exact ⟨b,τ,P,g',e1,e2,hz,hu,hv,⟨rt,ver,row0,hH,h2⟩,h3,h4,(Vals.ins e1 e2).get,zvd hl zds e1 e2,.inr rfl⟩
theorem P19.call_del (h:P19 l pr k m tag g d) (hT:1<=l.T) (hk:k<=60000) {i:Nat} (hi:i<d.size) {u v:Int} (hu:u=d[i]!.u) (hv:v=d[i]!.v) :
  ∃ r τ P g',zbu l ⟨1,tag⟩ 561 (⟨zaB l m u v,#[]⟩:Tr) d[i]!.slot=some (r,τ)/\planF l ⟨1,tag⟩ 561 (za1 l m u v) r.1 (eget l (zaB l m u v) d[i]!.slot).u (eget l (zaB l m u v) d[i]!.slot).v τ=some P/\0<τ.row.size/\Cl19 l pr k m tag g d P u v d[i]!.slot g' (cutA d i):=by
 have rg:=(h.r14 hl).rng hl hi
 have hu':0<=u/\u<l.V:=by omega
 have hv':0<=v/\v<l.V:=by omega
 obtain ⟨rt,ver,hH⟩:=h.hold hl hT hk hu' hv'
 obtain ⟨P,row0,g',h1,h2,h3,h4⟩:=h.del hl hi hu hv hH hT hk
 have rd:=hH.rdy hl (s:=d[i]!.slot) hT hk h.tg
 unfold delF at h1
 obtain ⟨⟨r,τ⟩,e1,e2⟩:=Option.bind_eq_some_iff.1 h1
 obtain ⟨r1,r2,r3,_⟩:=h.dc.row i hi
 have hz:=zAa rd (s:=d[i]!.slot) r1 (show CW l g u v (g.u d[i]!.slot) by rw [r2,<-hu]; exact ⟨hu',.inl (.refl _)⟩) e1
 exact ⟨r,τ,P,g',e1,e2,hz,hu',hv',⟨rt,ver,row0,hH,h2⟩,h3,h4,(Vals.del e1 e2).get,zvv hl zds e1 e2,.inl ⟨i,hi,rfl,by rw [hu,hv]; exact (Int.min_eq_left (by omega)).symm,by rw [hu,hv]; exact (Int.max_eq_right (by omega)).symm,rfl⟩⟩
theorem Cl19.next {P:PlanS} {u v s:Int} {g':G} {d2:Array EdR} (c:Cl19 l pr k m tag g d P u v s g' d2) (h:P19 l pr k m tag g d) (hT:1<=l.T) (hk:k<=60000) :
  okM (zaB l m u v) P.work.toList/\P.work.size≠0/\P19 l pr (k+1) (endM l (zaB l m u v) P) (if P.tree then tag+1 else tag) g' d2:=by
 obtain ⟨rt,ver,row0,hH,hp⟩:=c.ex
 have rd:=hH.rdy hl (s:=s) hT hk h.tg
 obtain ⟨m',ver',hL⟩:=hp.left rd rfl c.hu c.hv hH.rt hH.held
 exact ⟨hL.good,hL.ne,h.next hl (row0:=row0) hH hT hk c.hu c.hv hL c.dc c.hj⟩
end
theorem zpH {d:Array EdR} {a b:Int}:∀ n,(atN d a b n=-1/\∀ j,j<n->¬(d[j]!.u=a/\d[j]!.v=b))\/∃ i:Nat,i<n/\atN d a b n=(i:Int)/\d[i]!.u=a/\d[i]!.v=b
 | 0=>.inl ⟨rfl,fun j hj=>absurd hj (Nat.not_lt_zero j)⟩
 | n+1=>by
  rw [atN]
  by_cases h:d[n]!.u=a/\d[n]!.v=b
  ·rw [if_pos h]; exact .inr ⟨n,by omega,rfl,h.1,h.2⟩
  ·rw [if_neg h]
   rcases zpH (d:=d) (a:=a) (b:=b) n with ⟨h1,h2⟩ | ⟨i,h1,h2⟩
   ·refine .inl ⟨h1,fun j hj=>?_⟩
    by_cases e:j=n
    ·subst e; exact h
    ·exact h2 j (by omega)
   ·exact .inr ⟨i,by omega,h2⟩
theorem least {P:Nat->Prop}:∀ {n:Nat},P n->∃ s,P s/\s<=n/\∀ q,q<s->¬P q:=fun {n} h=>by
 induction n using Nat.strongRecOn with
 | ind n ih =>
  by_cases hq:∃ q,q<n/\P q
  ·obtain ⟨q,h1,h2⟩:=hq
   obtain ⟨s,s1,s2,s3⟩:=ih q h1 h2
   exact ⟨s,s1,by omega,s3⟩
  ·exact ⟨n,h,Nat.le_refl _,fun q hq2 c=>hq ⟨q,hq2,c⟩⟩
section
variable {W:Pt} {pr ver ver':Int->Int} {g g':G} {held rs:Array Int} {row0:Array Acc} {ex:PlanS} {A C1 C2:List Acc} {m':M}
theorem PlanD.a2 (h:PlanD W pr ver g' held rs row0 ex A C1 C2 m' ver'):∀ a∈ex.work.toList,W.A2 a.cell:=fun a ha=>by
 rw [h.work] at ha
 simp only [List.mem_append,List.mem_cons] at ha
 rcases ha with (ha | rfl | ha) | rfl | ha
 ·exact (h.kA a ha).1
 ·exact .inr (.inr rfl)
 ·exact (h.k1 a ha).1
 ·exact .inr (.inr rfl)
 ·exact (h.k2 a ha).1
theorem PlanD.off (h:PlanD W pr ver g' held rs row0 ex A C1 C2 m' ver') {j:Int} (hj:¬W.A2 j) (n:Nat):get (runM W.m0 (ex.work.toList.take n)) j=get W.m0 j :=
 zeX fun a ha _ e=>hj (by rw [<-e]; exact h.a2 a (List.mem_of_mem_take ha))
theorem PlanD.seen (rd:Rdy W pr ver g) (h:PlanD W pr ver g' held rs row0 ex A C1 C2 m' ver') (hm:W.m1=W.m0) (n:Nat) {x:Int} (hx:V0 W.l x) :
  zbF W.l (runM W.m0 (ex.work.toList.take n)) x 2=(if n<=A.length then W.par0 x else parent W.l m' x)/\zbF W.l (runM W.m0 (ex.work.toList.take n)) x 1=if n<=A.length then ver x else ver' x:=by
 have hW:=rd.ok
 have hl:=hW.hl
 have tp:=hW.hp
 have c0:=rd.calm
 have c1:=h.calm
 obtain ⟨τ,hτ⟩:∃ τ,runM W.m0 (ex.work.toList.take n)=τ:=⟨_,rfl⟩
 rw [hτ]
 by_cases hN:W.N x
 ·by_cases hn:n<=A.length
  ·rw [if_pos hn,if_pos hn]
   have e:ex.work.toList.take n=A.take n:=by rw [h.work,List.append_assoc,List.take_append_of_le_length hn]
   have ib:IB W ver τ:=by
    rw [<-hτ,e]
    exact IB.run hW rd.hT rd.ver rd.old fun a ha=>h.kA a (List.mem_of_mem_take ha)
   exact ⟨(ib.par x hx hN).lm tp rd.hT ib.st,(ib.vr x hx hN).lm tp rd.hT ib.st⟩
  ·rw [if_neg hn,if_neg hn]
   by_cases hn2:n<=A.length+1+C1.length
   ·have e:ex.work.toList.take n=A++⟨true,W.l.state W.p.thread,zaS W.p.tag true⟩ :: C1.take (n - A.length - 1):=by
     rw [h.work,List.append_assoc,List.take_append,List.take_of_length_le (by omega),List.take_append_of_le_length (by simp; omega)]
     obtain ⟨q,hq⟩:∃ q,n - A.length=q+1:=⟨n - A.length - 1,by omega⟩
     rw [hq]; rfl
    have ie:IE W (parent W.l m') ver' τ:=by
     rw [<-hτ,e,zcK]
     show IE W (parent W.l m') ver' (runM (acc1 _ (runM W.m0 A)) (C1.take (n - A.length - 1)))
     refine IE.run hW rd.hT (fun y hy hyN=>⟨?_,?_⟩) h.mid fun a ha=>h.k1 a (List.mem_of_mem_take ha)
     ·have p:=(c1.pp y hy).ok
      obtain ⟨ok,_⟩:=zcv p.1
      rw [<-p.2.2.1]; exact ok.n
     ·have p:=(c1.pv y hy).ok
      obtain ⟨ok,_⟩:=zcv p.1
      rw [<-p.2.2.1]; exact ok.n
    exact ⟨(ie.par x hx hN).lm tp rd.hT ie.st,(ie.vr x hx hN).lm tp rd.hT ie.st⟩
   ·have e:ex.work.toList=ex.work.toList.take n++C2.drop (n - (A.length+1+C1.length) - 1):=by
     conv=>lhs; rw [<-List.take_append_drop n ex.work.toList]
     congr 1
     rw [h.work,List.drop_append,List.drop_eq_nil_of_le (by simp; omega),List.nil_append]
     obtain ⟨q,hq⟩:∃ q,n - (A++({ store:=true,cell:=W.l.state W.p.thread,val:=zaS W.p.tag true } :: C1)).length=q+1:=⟨n - (A.length+1+C1.length) - 1,by simp; omega⟩
     rw [hq]
     have:n - (A.length+1+C1.length) - 1=q:=by simp at hq; omega
     rw [this]; rfl
    have key:∀ f,f=1\/f=2->gf W.l τ x f=gf W.l m' x f:=fun f hf=>by
     have hA2:=a2_f hN (f:=f) (by omega)
     have hfin:=h.fin _ hA2
     rw [e,zcK,hτ] at hfin
     rw [zeX fun a ha hs e2=>?_] at hfin
     ·exact hfin
     ·obtain ⟨y,hy,_,_,e3,_⟩:=(h.k2 a (List.mem_of_mem_drop ha)).2 hs
      have:=(zac hl hx.1 (by omega) hy.1 (by decide)).1 (e2.symm.trans e3)
      omega
    exact ⟨zaJ (by rw [key 2 (.inr rfl)]; exact c1.pp x hx),zaJ (by rw [key 1 (.inl rfl)]; exact c1.pv x hx)⟩
 ·have off:∀ f,(0<=f/\f<7)->¬W.A2 (W.l.field x f):=fun f hf c=>hN (zhi hW hx.1 hf c)
  have k0:∀ f,(0<=f/\f<7)->gf W.l τ x f=gf W.l W.m1 x f:=fun f hf=>by
   unfold gf; rw [<-hτ,h.off (off f hf) n,hm]
  have k1:∀ f,(0<=f/\f<7)->gf W.l m' x f=gf W.l W.m1 x f:=fun f hf=>h.fr _ (off f hf)
  have p2:zbx (gf W.l τ x 2) (W.par0 x):=by rw [k0 2 (by decide),rd.par]; exact c0.pp x hx
  have p1:zbx (gf W.l τ x 1) (ver x):=by rw [k0 1 (by decide)]; exact c0.pv x hx
  have e2:parent W.l m' x=W.par0 x:=by rw [rd.par]; exact zbK (k1 2 (by decide))
  have e1:ver' x=ver x:=by
   have a:=(c1.pv x hx).ok.2.2.1
   have b:=(c0.pv x hx).ok.2.2.1
   rw [k1 1 (by decide)] at a
   exact a.symm.trans b
  rw [zaJ p2,zaJ p1,e2,e1]
  exact ⟨by split<;>rfl,by split<;>rfl⟩
theorem PlanN.seen (rd:Rdy W pr ver g) (h:PlanN W pr ver g' ex m') (hm:W.m1=W.m0) (n:Nat) {x:Int} (hx:V0 W.l x) :
  zbF W.l (runM W.m0 (ex.work.toList.take n)) x 2=W.par0 x/\zbF W.l (runM W.m0 (ex.work.toList.take n)) x 1=ver x:=by
 have key:∀ f,(0<=f/\f<=2)->gf W.l (runM W.m0 (ex.work.toList.take n)) x f=gf W.l W.m1 x f:=fun f hf=>by
  rw [hm]
  exact zeX fun a ha hs e=>(h.k a (List.mem_of_mem_take ha)).2.ne rd.ok.hl hs hx.1 hf e
 exact ⟨zaJ (by rw [key 2 (by decide),rd.par]; exact rd.calm.pp x hx),zaJ (by rw [key 1 (by decide)]; exact rd.calm.pv x hx)⟩
end
section
variable {W:Pt} {pr ver ver':Int->Int} {g g':G} {held rs:Array Int} {row0:Array Acc} {ex:PlanS} {A C1 C2:List Acc} {m':M}
theorem PlanD.lockB (rd:Rdy W pr ver g) (h:PlanD W pr ver g' held rs row0 ex A C1 C2 m' ver') {n:Nat} (hn:n<=A.length) {x:Int} (hx:W.l.nd x) (hno:¬(x∈rs.toList/\¬x∈held.toList)):get (runM W.m0 (ex.work.toList.take n)) (W.l.field x 0)=get W.m0 (W.l.field x 0):=by
 have e:ex.work.toList.take n=A.take n:=by rw [h.work,List.append_assoc,List.take_append_of_le_length hn]
 rw [e]
 refine zeX fun a ha hs e2=>?_
 have k:=((h.kA a (List.mem_of_mem_take ha)).2 hs).2.2.2 x hx e2
 exact hno ⟨k.1,k.2.1⟩
theorem PlanD.lockA (rd:Rdy W pr ver g) (h:PlanD W pr ver g' held rs row0 ex A C1 C2 m' ver') {n:Nat} (hn:A.length<n) {x:Int} (hx:W.l.nd x) (hN:W.N x) (hr:x∈rs.toList):get (runM W.m0 (ex.work.toList.take n)) (W.l.field x 0)=if x∈held.toList then get W.m0 (W.l.field x 0) else W.p.thread:=by
 have hl:=rd.ok.hl
 have hsc:=zde rd.ok rd.hT
 have e:∃ r,ex.work.toList.take n=A++r/\∀ a∈r,a.store=true->a.cell≠W.l.field x 0:=by
  refine ⟨((⟨true,W.l.state W.p.thread,zaS W.p.tag true⟩ :: C1)++(⟨true,W.l.state W.p.thread,zaS (W.p.tag+1) false⟩ :: C2)).take (n - A.length),by rw [h.work,List.append_assoc,List.take_append,List.take_of_length_le (by omega)],fun a ha hs e2=>?_⟩
  have ha:=List.mem_of_mem_take ha
  simp only [List.mem_append,List.mem_cons] at ha
  rcases ha with (rfl | ha) | rfl | ha
  ·exact hsc.2.2 x 0 hx (by decide) e2.symm
  ·obtain ⟨y,hy,_,k | k⟩:=(h.k1 a ha).2 hs
   ·have:=(zac hl hx (by decide) hy.1 (by decide)).1 (e2.symm.trans k.1); omega
   ·have:=(zac hl hx (by decide) hy.1 (by decide)).1 (e2.symm.trans k.1); omega
  ·exact hsc.2.2 x 0 hx (by decide) e2.symm
  ·obtain ⟨y,hy,_,k,e3,_⟩:=(h.k2 a ha).2 hs
   have:=(zac hl hx (by decide) hy.1 (by decide)).1 (e2.symm.trans e3)
   rw [<-this.1] at k
   exact k hr
 obtain ⟨r,e,hr2⟩:=e
 rw [e,zcK,zeX hr2,h.midL x hx hN]
 by_cases hh:x∈held.toList
 ·rw [if_pos hh,if_neg fun c=>c.2 hh]
 ·rw [if_neg hh,if_pos ⟨hr,hh⟩]
end
section
variable {l:Lay} (hl:l.Ok) {pr:Int->Int} {k:Nat} {m:M} {tag:Int} {g:G} {d:Array EdR} {P:PlanS} {u v s:Int} {g':G} {d2:Array EdR}
include hl
theorem Cl19.locks (c:Cl19 l pr k m tag g d P u v s g' d2) (h:P19 l pr k m tag g d) (hT:1<=l.T) (hk:k<=60000) (n:Nat) {w:Int} (hw:0<=w/\w<l.V) :
  get (runM (zaB l m u v) (P.work.toList.take n)) (l.field (zaG l (runM (zaB l m u v) (P.work.toList.take n)) w) 0)=if zaG l (zaB l m u v) w∈(za1 l m u v).toList then 1 else 0:=by
 obtain ⟨rt,ver,row0,hH,hp⟩:=c.ex
 have rd:=hH.rdy hl (s:=s) hT hk h.tg
 have lb:=zcj hl
 have c0:=hH.calm
 have root0:∀ τ:M,(∀ x,V0 l x->zbF l τ x 2=parent l (zaB l m u v) x)->zaG l τ w=rt (l.vertex 0 w):=fun τ hτ=>zgZ hl hτ hH.rt hw
 have e0:zaG l (zaB l m u v) w=rt (l.vertex 0 w):=root0 _ fun x hx=>zaJ (c0.pp x hx)
 have nd0:l.nd (rt (l.vertex 0 w)):=by obtain ⟨_,_,a⟩:=hH.rt _ (vx0 hl hw); exact a.last.1.1
 have hNw:(ptW l ⟨1,tag⟩ (zaB l m u v) g u v s).N (l.vertex 0 w)↔CW l g u v w:=nV rd.ok rd.pt (show l.okV 0 w from ⟨by omega,hw⟩)
 have inC0:CW l g u v w->rt (l.vertex 0 w)∈(za1 l m u v).toList:=fun hc=>by
  rw [hH.held,zcJ]
  rcases hc.2 with q | q
  ·exact .inl ((zmf hl c0.rt hH.rt hw c.hu).2 ((zlW hl c0.rt c0.hd).1 q))
  ·exact .inr ((zmf hl c0.rt hH.rt hw c.hv).2 ((zlW hl c0.rt c0.hd).1 q))
 have lk0:get (zaB l m u v) (l.field (rt (l.vertex 0 w)) 0)=if rt (l.vertex 0 w)∈(za1 l m u v).toList then 1 else 0:=by
  rw [hH.lock _ nd0]
  split
  ·rfl
  ·rw [h.lk rt hH.rtm _ nd0,if_pos ⟨w,hw,rfl⟩]
 rw [e0]
 cases hp with
 | plain hD hr =>
  have es:zaG l (runM (zaB l m u v) (P.work.toList.take n)) w=rt (l.vertex 0 w):=root0 _ fun x hx=>(hD.seen rd rfl n hx).1
  rw [es]
  refine Eq.trans (zeX fun a ha hs e=>?_) lk0
  exact (hD.k a (List.mem_of_mem_take ha)).2.ne hl hs nd0 (by decide) e
 | tree hD hr =>
  rename_i A C1 C2 m' ver'
  have hno:¬(rt (l.vertex 0 w)∈P.roots.toList/\¬rt (l.vertex 0 w)∈(za1 l m u v).toList):=fun q=>by
   have hN:=hD.rsN _ q.1
   exact q.2 (inC0 (hNw.1 ((zw3 rd.ok rd.pt c0.rt hH.rt (vx0 hl hw)).1 hN)))
  by_cases hn:n<=A.length
  ·have es:zaG l (runM (zaB l m u v) (P.work.toList.take n)) w=rt (l.vertex 0 w):=root0 _ fun x hx=>by
    have:=(hD.seen rd rfl n hx).1
    rw [if_pos hn] at this; exact this
   rw [es]
   exact (hD.lockB rd hn nd0 hno).trans lk0
  ·obtain ⟨rt',hrt',hrs⟩:=hr
   have hrs':P.roots=zar (rt' (l.vertex 0 u)) (rt' (l.vertex 0 v)):=hrs
   have es:zaG l (runM (zaB l m u v) (P.work.toList.take n)) w=rt' (l.vertex 0 w):=zgZ hl (fun x hx=>by
    have:=(hD.seen rd rfl n hx).1
    rw [if_neg hn] at this; exact this) hrt' hw
   rw [es]
   by_cases hc:CW l g u v w
   ·have hR':zay l pr m' g':=hD.calm.rt
    have inC:rt' (l.vertex 0 w)∈P.roots.toList:=by
     rw [hrs',zcJ]
     rcases c.hj w hc with q | q
     ·exact .inl ((zmf hl hR' hrt' hw c.hu).2 ((zlW hl hR' hD.calm.hd).1 q))
     ·exact .inr ((zmf hl hR' hrt' hw c.hv).2 ((zlW hl hR' hD.calm.hd).1 q))
    have nd1:l.nd (rt' (l.vertex 0 w)):=(hD.rsN _ inC).1
    refine (hD.lockA rd (Nat.lt_of_not_le hn) nd1 (hD.rsN _ inC) inC).trans ?_
    rw [if_pos (inC0 hc)]
    split
    ·next hh =>
     have:=hH.lock _ nd1
     rw [if_pos hh] at this
     exact this
    ·rfl
   ·have nN:¬(ptW l ⟨1,tag⟩ (zaB l m u v) g u v s).N (l.vertex 0 w):=fun q=>hc (hNw.1 q)
    have er:rt' (l.vertex 0 w)=rt (l.vertex 0 w):=zv0 rd.ok rd.pt c0.rt hH.rt hrt' (fun y hy hn=>rd.out hD.fr hy hn) (vx0 hl hw) nN
    rw [er]
    have nN2:¬(ptW l ⟨1,tag⟩ (zaB l m u v) g u v s).N (rt (l.vertex 0 w)):=fun q=>nN ((zw3 rd.ok rd.pt c0.rt hH.rt (vx0 hl hw)).1 q)
    refine Eq.trans (hD.off (fun q=>nN2 (zhi rd.ok nd0 (by decide) q)) n) lk0
end
theorem ztI {d:Array Acc} {pq c:Int} (h:∀ a∈d.toList,a.store=true->a.cell≠c):∀ i,i<=d.size->(Go.Eng.mget (zjX d pq i) c).getD 0=0
 | 0,_=>by rw [zjX,Go.Eng.mget_nil]; rfl
 | i+1,hi=>by
  have ih:=ztI (pq:=pq) h i (by omega)
  rw [zjX]
  split
  ·next q =>
   have hm:d[i]!∈d.toList:=by rw [getElem!_pos d i (by omega)]; simp
   rw [Go.Eng.mget_put,if_neg fun e=>h _ hm q.2 e.symm]; exact ih
  ·exact ih
section
variable {l:Lay} (hl:l.Ok) {pr:Int->Int} {k:Nat} {m:M} {tag:Int} {g:G} {d:Array EdR} {P:PlanS} {u v s:Int} {g':G} {d2:Array EdR}
include hl
theorem Cl19.single (c:Cl19 l pr k m tag g d P u v s g' d2):∀ x f,V0 l x->f=1\/f=2->(Go.Eng.mget (zjX P.work P.point P.work.size) (l.field x f)).getD 0<=1:=fun x f hx hf=>by
 obtain ⟨rt,ver,row0,hH,hp⟩:=c.ex
 cases hp with
 | plain hD hr =>
  rw [ztI (fun a ha hs=>(hD.k a ha).2.ne hl hs hx.1 (by omega)) _ (Nat.le_refl _)]
  decide
 | tree hD hr =>
  rename_i A C1 C2 m' ver'
  have e:P.work.toList.take P.work.size=P.work.toList:=List.take_of_length_le (by simp)
  rw [hD.point,zpB _ (Nat.le_refl _),e,hD.work,List.append_assoc,List.take_left']
  ·have:=hD.one x hx
   have o1:A.countP (isSt (l.field x 2))<=1:=this.1
   have o2:A.countP (isSt (l.field x 1))<=1:=this.2
   rcases hf with rfl | rfl<;>omega
  ·rfl
end
section
variable {l:Lay} (hl:l.Ok) {pr:Int->Int} {k:Nat} {m:M} {tag:Int} {g:G} {d:Array EdR} {P:PlanS} {u v s:Int} {g':G} {d2:Array EdR}
include hl
theorem Cl19.closed (c:Cl19 l pr k m tag g d P u v s g' d2) (h:P19 l pr k m tag g d) (hT:1<=l.T) (hk:k<=60000) {x:Int} (hx:l.nd x) (hno:∀ w:Int,0<=w/\w<l.V->zaG l (runM (zaB l m u v) P.work.toList) w≠x):get (runM (zaB l m u v) P.work.toList) (l.field x 0)=65535:=by
 have hn:=(c.next hl h hT hk).2.2
 obtain ⟨rt,ver,row0,hH,hp⟩:=c.ex
 have rd:=hH.rdy hl (s:=s) hT hk h.tg
 obtain ⟨m',ver',hL⟩:=hp.left rd rfl c.hu c.hv hH.rt hH.held
 have e:runM (zaB l m u v) P.work.toList=m':=hL.run
 have eE:endM l (zaB l m u v) P=zbl l P.roots [] 0 P.roots.size m':=by unfold endM; rw [e]
 rw [e] at hno ⊢
 obtain ⟨rt',hrt',hrs⟩:=hL.rts
 have hrt2:Rt l m' rt':=hrt'
 have hrs':P.roots=zar (rt' (l.vertex 0 u)) (rt' (l.vertex 0 v)):=hrs
 have hc:Calm l pr _ ver' m' g':=hL.calm
 have lr:∀ w:Int,0<=w/\w<l.V->zaG l m' w=rt' (l.vertex 0 w):=fun w hw=>zgZ hl (fun y hy=>zaJ (hc.pp y hy)) hrt2 hw
 have hnd:∀ y∈P.roots.toList,l.nd y:=fun y hy=>by
  rw [hrs',zcJ] at hy
  rcases hy with rfl | rfl
  ·obtain ⟨_,_,a⟩:=hrt2 _ (vx0 hl c.hu); exact a.last.1.1
  ·obtain ⟨_,_,a⟩:=hrt2 _ (vx0 hl c.hv); exact a.last.1.1
 obtain ⟨z1,z2,z3⟩:=zi8 hl hc.rt.size (d:=P.roots) (v:=0) (by decide) hnd
 have hpar:∀ y,l.nd y->parent l (endM l (zaB l m u v) P) y=parent l m' y:=fun y hy=>by
  rw [eE]; exact zbK (z3 _ fun z hz e=>by have:=(zac hl hy (by decide) hz (by decide)).1 e; omega)
 have hrtE:Rt l (endM l (zaB l m u v) P) rt':=fun y hy=>by
  obtain ⟨q,h1,h2⟩:=hrt2 y hy
  exact ⟨q,h1,h2.congr fun z hz=>hpar z hz.1⟩
 have hk2:=hn.lk rt' hrtE x hx
 have xr:x∉P.roots.toList:=fun q=>by
  rw [hrs',zcJ] at q
  rcases q with q | q
  ·exact hno u c.hu (by rw [lr u c.hu,q])
  ·exact hno v c.hv (by rw [lr v c.hv,q])
 rw [if_neg (by rintro ⟨w,hw,q⟩; exact hno w hw (by rw [lr w hw,q])),eE,z2 x hx,if_neg xr] at hk2
 exact hk2
theorem Cl19.roots (c:Cl19 l pr k m tag g d P u v s g' d2) (h:P19 l pr k m tag g d) (hT:1<=l.T) (hk:k<=60000) :
  (∀ x∈P.roots.toList,V0 l x/\zbF l (runM (zaB l m u v) P.work.toList) x 2=0)/\(P.roots.size=1\/P.roots.size=2/\P.roots[0]!<P.roots[1]!):=by
 obtain ⟨rt,ver,row0,hH,hp⟩:=c.ex
 have rd:=hH.rdy hl (s:=s) hT hk h.tg
 obtain ⟨m',ver',hL⟩:=hp.left rd rfl c.hu c.hv hH.rt hH.held
 have e:runM (zaB l m u v) P.work.toList=m':=hL.run
 obtain ⟨rt',hrt',hrs⟩:=hL.rts
 have hrt2:Rt l m' rt':=hrt'
 have hrs':P.roots=zar (rt' (l.vertex 0 u)) (rt' (l.vertex 0 v)):=hrs
 have hc:Calm l pr _ ver' m' g':=hL.calm
 rw [e]
 refine ⟨fun x hx=>?_,?_⟩
 ·rw [hrs',zcJ] at hx
  rcases hx with rfl | rfl
  ·obtain ⟨_,_,a⟩:=hrt2 _ (vx0 hl c.hu)
   exact ⟨a.last.1,(zaJ (hc.pp _ a.last.1)).trans a.last.2⟩
  ·obtain ⟨_,_,a⟩:=hrt2 _ (vx0 hl c.hv)
   exact ⟨a.last.1,(zaJ (hc.pp _ a.last.1)).trans a.last.2⟩
 ·rw [hrs']
  unfold zar
  split
  ·exact .inl rfl
  ·next hne =>
   refine .inr ⟨rfl,?_⟩
   show min _ _<max _ _
   omega
end
def zfq (l:Lay) (m0:M) (P:PlanS) (n:Nat) (dw:Array Int) (iv:Value) (di:Array Int):Prop :=
 n=0\/dw=zgJ l m0 l.nodes.toNat/\(iv=.slice none 0 0/\di=#[]\/P.tree=true/\∃ n':Nat,P.point<n'/\n'<=P.work.size/\di=zgJ l (runA m0 P.work n') l.nodes.toNat)
section
variable {l:Lay} (hl:l.Ok) {pr:Int->Int} {k:Nat} {m:M} {tag:Int} {g:G} {d:Array EdR} {P:PlanS} {u v s:Int} {g':G} {d2:Array EdR} {n:Nat} {dw di:Array Int} {iv:Value}
theorem zfq.zero:zfq l m P 0 dw iv di:=.inl rfl
theorem zfq.set {m0:M} (h:zfq l m0 P n dw iv di) (hn:¬(n:Int)=0) (hz:n<=P.work.size) (ht:¬(P.tree=false\/(n:Int)<=P.point)) {i2:Value} {S9:Array Int} (e:S9=zgJ l (runA m0 P.work n) l.nodes.toNat):zfq l m0 P (n+1) dw i2 S9:=by
 rcases h with h | h
 ·omega
 ·have h1:P.tree=true:=by
   cases e:P.tree with
   | true=>rfl
   | false=>exact absurd (.inl e) ht
  exact .inr ⟨h.1,.inr ⟨h1,n,by have:¬(n:Int)<=P.point:=fun c=>ht (.inr c); omega,hz,e⟩⟩
include hl
end
theorem P19.born {l:Lay} (hl:l.Ok) {pr:Int->Int} {σ:M} (hB:Born l pr σ):P19 l pr 0 σ 0 G0 #[]:=by
 have lb:=zcj hl
 refine ⟨Dc.nil,⟨fun _=>0,hB.calm0 hl,fun x hx=>⟨Int.le_refl _,Int.le_refl _⟩⟩,⟨Int.le_refl _,Int.le_refl _⟩,fun rt hrt x hx=>?_⟩
 have e:∀ w:Int,0<=w/\w<l.V->rt (l.vertex 0 w)=l.vertex 0 w:=fun w hw=>by
  obtain ⟨h,_,a⟩:=hrt _ (vx0 hl hw)
  exact (a.uniq (Up.top (vx0 hl hw) (hB.parent0 hl (vx0 hl hw).1))).2
 show gf l σ x 0=_
 rw [hB.lock x hx]
 unfold zg2
 rcases zen hl hx with ⟨i,w,hv,rfl⟩ | ⟨s,i,d,ha,rfl⟩
 ·rw [(zag hl hv).2.1]
  by_cases hi:i=0
  ·subst hi
   rw [if_pos ⟨rfl,rfl⟩,if_pos ⟨w,hv.2,(e w hv.2).symm⟩]
  ·rw [if_neg fun c=>hi c.2,if_neg]
   rintro ⟨w2,hw2,h⟩
   rw [e w2 hw2] at h
   exact hi ((zcS hl hv ⟨by omega,hw2⟩).1 h).1
 ·rw [(zaD hl ha).2,if_neg (fun c=>by have:=c.1; cases this),if_neg]
  rintro ⟨w2,hw2,h⟩
  rw [e w2 hw2] at h
  exact zaQ hl ⟨by omega,hw2⟩ ha h.symm
def zeF (l:Lay) (m0:M) (held:Array Int):Nat->Array Bool
 | 0=>#[]
 | k+1=>zeF l m0 held k++#[decide (zaG l m0 (k:Int)∈held.toList)]
theorem zdV {l:Lay} {m0:M} {held:Array Int}:∀ k,(zeF l m0 held k).size=k
 | 0=>rfl
 | k+1=>by rw [zeF]; simp [zdV k]
theorem zi5 {l:Lay} {m0:M} {held:Array Int}:∀ {k j:Nat},j<k->(zeF l m0 held k)[j]! =decide (zaG l m0 (j:Int)∈held.toList)
 | 0,_,h=>absurd h (Nat.not_lt_zero _)
 | k+1,j,h=>by
  have hz:=zdV (l:=l) (m0:=m0) (held:=held) k
  rw [zeF,getElem!_pos _ j (by simp; omega),Array.getElem_append]
  by_cases e:j<k
  ·rw [dif_pos (by omega)]
   have ih:=zi5 (l:=l) (m0:=m0) (held:=held) e
   rw [getElem!_pos _ j (by omega)] at ih; exact ih
  ·obtain rfl:j=k:=by omega
   rw [dif_neg (by omega)]; simp
theorem ziE {x y a:Int}:a∈(zar x y).toList↔a=(zar x y)[0]!\/a=(zar x y)[(zar x y).size - 1]!:=by
 rw [zcJ]
 unfold zar
 split
 ·next h=>subst h; simp
 ·simp
  rcases Int.le_total x y with c | c
  ·rw [Int.min_eq_left c,Int.max_eq_right c]
  ·rw [Int.min_eq_right c,Int.max_eq_left c]; exact Or.comm
theorem zun {x y:Int}:0<(zar x y).size:=by unfold zar; split<;>simp
theorem zrT {l:Lay} {m0:M} {held:Array Int} (hw:∃ x y,held=zar x y) {k:Nat} (h:zaG l m0 (k:Int)=held[0]!):zeF l m0 held k++#[true]=zeF l m0 held (k+1):=by
 obtain ⟨x,y,rfl⟩:=hw
 rw [zeF,decide_eq_true (ziE.2 (.inl h))]
theorem zu0 {l:Lay} {m0:M} {held:Array Int} (hw:∃ x y,held=zar x y) {k:Nat} (h:¬zaG l m0 (k:Int)=held[0]!):zeF l m0 held k++#[decide (zaG l m0 (k:Int)=held[held.size - 1]!)]=zeF l m0 held (k+1):=by
 obtain ⟨x,y,rfl⟩:=hw
 rw [zeF,decide_eq_decide.2 (show zaG l m0 (k:Int)=_↔zaG l m0 (k:Int)∈(zar x y).toList from ⟨fun c=>ziE.2 (.inr c),fun c=>(ziE.1 c).resolve_left h⟩)]
def zm4 (l:Lay) (m0:M) (held:Array Int) (n:Nat) (dm:Array Bool):Prop:=n=0\/dm=zeF l m0 held l.V
theorem zm4.eq {l:Lay} {m0:M} {held:Array Int} {n:Nat} {dm:Array Bool} (h:zm4 l m0 held n dm) (hn:¬(n:Int)=0):dm=zeF l m0 held l.V:=h.resolve_left fun e=>hn (by omega)
theorem nt9 {b:Bool} (h:(!b)=true):b=false:=by simpa using h
def ziU (l:Lay) (σ:M):Nat->List (Int×Bool)
 | 0=>[]
 | k+1=>Go.Eng.mput (ziU l σ k) (zaG l σ (k:Int)) true
theorem zj6 {l:Lay} {σ:M} {x:Int}:∀ k:Nat,(Go.Eng.mget (ziU l σ k) x).getD false=true↔∃ w:Nat,w<k/\zaG l σ (w:Int)=x
 | 0=>by rw [ziU,Go.Eng.mget_nil]; simp
 | k+1=>by
  rw [ziU,Go.Eng.mget_put]
  by_cases e:x=zaG l σ (k:Int)
  ·rw [if_pos e]; simp; exact ⟨k,by omega,e.symm⟩
  ·rw [if_neg e,zj6 k]
   constructor
   ·rintro ⟨w,h1,h2⟩; exact ⟨w,by omega,h2⟩
   ·rintro ⟨w,h1,h2⟩
    refine ⟨w,?_,h2⟩
    by_cases ew:w=k
    ·subst ew; exact absurd h2.symm e
    ·omega
theorem zrh {l:Lay} {σ:M} {x:Int} (h:(Go.Eng.mget (ziU l σ l.V) x).getD false=false):∀ w:Int,0<=w/\w<l.V->zaG l σ w≠x:=fun w hw e=>by
 have:(Go.Eng.mget (ziU l σ l.V) x).getD false=true:=(zj6 _).2 ⟨w.toNat,by omega,by rw [show ((w.toNat:Nat):Int)=w by omega]; exact e⟩
 rw [h] at this; cases this
section
variable {d:Array EdR} {e:EdR} {j:Nat}
end
section
variable {l:Lay} (hl:l.Ok) {pr:Int->Int} {k:Nat} {m:M} {tag:Int} {g:G} {d:Array EdR} {P:PlanS} {u v s:Int} {g':G} {d2:Array EdR}
include hl
end
end Go.Tm
