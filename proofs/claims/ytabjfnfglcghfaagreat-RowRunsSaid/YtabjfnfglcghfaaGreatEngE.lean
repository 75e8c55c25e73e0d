import Derived.Test.YtabjfnfglcghfaaGreatEngD
set_option linter.unusedVariables false
set_option linter.unusedSimpArgs false
set_option linter.unusedSectionVars false
namespace Go.Tm
open MemLike Eng
set_option linter.unusedSectionVars false
set_option linter.unusedVariables false
section
variable {l:Lay} (hl:l.Ok) {p:Pen} (hp:PenOk p) {pr:Int→Int} {σ σ':M} {g:G}
include hl
theorem zuL (hz:σ.size=l.cells) (h1:∀ x,l.nd x→repU l mk0 σ (.node .nil x .nil)∧parent l σ x=0∧gf l σ x 5=pr x) (hlow:∀ j,lowc l j→get σ j=0):zaw l pr σ G0:=by
 have hL:∀ x:Int,(T.node .nil x .nil).list=[x]:=fun x=>rfl
 have hF:Forest l pr mk0 σ (fun x=>.node .nil x .nil):=⟨hz,fun x hx=>(h1 x hx).2.2,zos hl,fun x _=>by simp [hL],fun x hx y hy=>by simp [hL] at hy; rw [hy],fun x _=>by simp [hL],fun x _=>⟨fun y hy=>(by cases hy),fun y hy=>(by cases hy),trivial,trivial⟩,fun x hx=>(h1 x hx).1,fun x hx=>(h1 x hx).2.1⟩
 have hb0:bitM 0 0=false∧bitM 0 1=false:=by decide +kernel
 refine ⟨_,mk0,fun _ _=>[],⟨⟨hF,⟨fun i v hv=>?_,fun _ _ _=>trivial,fun _ _ _ _ h=>(by cases h),fun _ _ _=>List.nodup_nil,fun _ _ _ _ _ _ _ h=>(by cases h)⟩,fun i v hv=>⟨by simp [mk0,hb0],by simp [mk0,hb0]⟩,fun s i hi=>⟨hb0.1,by simp [mk0,hb0,Kg,G0]⟩,fun s i hi=>hb0⟩,⟨fun s hs=>(by cases hs),fun s _ hs=>(by cases hs),fun s hs=>(by cases hs),fun s hs=>(by cases hs),fun s hs=>(by cases hs),fun a b h0 hab hbV _=>?_⟩,fun i v hv y=>?_,fun s hs=>(by cases hs.1),fun i s hs=>(by cases hs.1),fun i hi=>⟨?_,fun s hs=>(by cases hs.1),fun s d hd _=>rfl,fun s hs=>(by cases hs.1),fun s _ hs=>(by cases hs.1),fun s hs=>(by cases hs.1),fun u v hu hv he=>?_⟩⟩⟩
 ·rw [hlow _ zfv]; rfl
 ·exact hlow _ (.inr (.inl ⟨a,b,rfl⟩))
 ·constructor
  ·intro hy; cases hy
  ·rintro ⟨s,d,_,_,hs,_⟩; cases hs.1
 ·intro x hx hxl y hy; simp [hL] at hy; rw [hy]; exact hxl
 ·have:l.vertex i u=l.vertex i v:=by injection he
  rw [((zch hl hu hv).1 this).2]; exact .refl _
include hp
omit hp
structure Born (l:Lay) (pr:Int→Int) (σ:M):Prop where
 size:σ.size=l.cells
 leaf:∀ x,l.nd x→repU l mk0 σ (.node .nil x .nil)
 par:∀ x,l.nd x→gf l σ x 2=0
 pri:∀ x,l.nd x→gf l σ x 5=pr x
 lock:∀ x,l.nd x→gf l σ x 0=zoB l x
 ver:∀ x,l.nd x→gf l σ x 1=0
 low:∀ j,lowc l j→get σ j=0
 st:∀ t:Int,0≤t∧t<l.T→get σ t=0
 nxt:∀ s:Int,0≤s∧s<l.S→get σ (l.of s 0)=if s+1<l.S then s+2 else 0
 free:get σ l.free=if l.S=0 then 0 else 1
omit hl
include hl
theorem Born.parent0 (h:Born l pr σ) {x:Int} (hx:l.nd x):parent l σ x=0:=by
 have e:=h.par x hx
 unfold gf at e
 unfold parent pnew tget
 rw [e]
 split<;>decide +kernel
theorem Born.right (h:Born l pr σ):zaw l pr σ G0:=zuL hl h.size (fun x hx=>⟨h.leaf x hx,h.parent0 hl hx,h.pri x hx⟩) h.low
theorem Born.snap (h:Born l pr σ):Snap l p (fun _=>0) σ:=fun x hx _=>by
 rw [h.par x hx]
 exact ⟨by decide +kernel,.inl ⟨by decide +kernel,by show (zaf 0).1.new=0; decide +kernel⟩⟩
end
end Go.Tm
namespace Go.Tm
open MemLike Eng
set_option linter.unusedSectionVars false
set_option linter.unusedVariables false
section
variable {l:Lay} (hl:l.Ok) {p:Pen} (hp:PenOk p) {pr:Int→Int} {σ σ':M} {g g':G} {par0 ver0 rt0:Int→Int}
include hl
theorem zaw.same_ (h:zaw l pr σ g) (hz:σ'.size=σ.size) (hlow:∀ j,lowc l j→get σ' j=get σ j) (hf:∀ x f,l.nd x→(f=3∨f=4∨f=5∨f=6)→gf l σ' x f=gf l σ x f) (hw:∀ x,l.nd x→wOk l σ x→wOk l σ' x) (hpa:∀ x,l.nd x→parent l σ' x=parent l σ x):zaw l pr σ' g:=by
 obtain ⟨F,mk,L,h⟩:=h
 have hF:=h.lm.forest
 have hr:∀ {t:T},repU l mk σ t→repU l mk σ' t:=by
  intro t
  induction t with
  | nil=>exact fun _=>trivial
  | node a x b iha ihb =>
   rintro ⟨h1,h2,h3,h4,h5,h6,h7,h8,h9⟩
   refine ⟨h1,by rw [hf x 3 h1 (by decide)]; exact h2,by rw [hf x 4 h1 (by decide)]; exact h3,hw x h1 h4,by rw [hf x 6 h1 (by decide)]; exact h5,iha h6,ihb h7,fun h0=>?_,fun h0=>?_⟩
   ·rw [hpa _ (h6.nd _ (h6.root_mem h0))]; exact h8 h0
   ·rw [hpa _ (h7.nd _ (h7.root_mem h0))]; exact h9 h0
 have hF':Forest l pr mk σ' F:=⟨by rw [hz]; exact hF.size,fun x hx=>by rw [hf x 5 hx (by decide)]; exact hF.pri x hx,hF.mkk,hF.mem,hF.cls,hF.nodup,hF.heap,fun x hx=>hr (hF.rep x hx),fun x hx=>by
  have hrr:=hF.rep x hx
  have h0:(F x).root≠0:=fun h0=>by have:=hrr.nil_iff.1 h0; have:=hF.mem x hx; simp_all [T.list]
  rw [hpa _ (hrr.nd _ (hrr.root_mem h0))]; exact hF.top x hx⟩
 have hE:∀ j,isE l j→get σ' j=get σ j:=fun j hj=>hlow j (by
  rcases hj with ⟨s,_,hj⟩ | ⟨a,b,_,_,_,hj⟩
  ·exact .inl ⟨s,hj⟩
  ·exact .inr (.inl ⟨a,b,hj⟩))
 have hL:∀ j,isL l j→get σ' j=get σ j:=fun j hj=>hlow j (by
  rcases hj with ⟨y,_,hj | hj⟩ | ⟨v,i,_,hj⟩
  ·rw [hj]; exact zfu
  ·rw [hj]; exact zel
  ·rw [hj]; exact zfv)
 exact ⟨F,mk,L,⟨⟨hF',h.lm.lists.congr hl hL,h.lm.mv,h.lm.ma,h.lm.mb⟩,h.edges.congr hl hE,h.mem,h.bh,h.ph,h.tours⟩⟩
omit hl in
theorem zlQ {x:Int} (h:gf l σ' x 2=gf l σ x 2):wOk l σ x→wOk l σ' x:=fun hw=>by unfold wOk at *; rw [h]; exact hw
omit hl in
theorem zcD {x:Int} (h:gf l σ' x 2=gf l σ x 2):parent l σ' x=parent l σ x:=by
 unfold gf at h; unfold parent pnew tget; rw [h]
theorem zaw.st_other (h:zaw l pr σ g) {j v:Int} (hj:(0≤j∧j≤l.T)∨(∃ s:Int,(0≤s∧s<l.S)∧j=l.of s 0)∨∃ x f,l.nd x∧(f=0∨f=1)∧j=l.field x f):zaw l pr (st σ j v) g:=by
 have ho:zma l j:=by
  rcases hj with h | h | ⟨x,f,h1,h2,h3⟩
  ·exact .inl h
  ·exact .inr (.inl h)
  ·exact .inr (.inr ⟨x,f,h1,by omega,h3⟩)
 have hb:=zce hl
 have hh:l.heads=l.T+1+l.S * 7:=rfl
 have hn:∀ x f,l.nd x→(f=2∨f=3∨f=4∨f=5∨f=6)→gf l (st σ j v) x f=gf l σ x f:=fun x f hx hf=>zaB fun e=>by
  have:=zaS hl hx (f:=f) (by omega)
  rcases hj with h | ⟨s,h1,h2⟩ | ⟨y,f',h1,h2,h3⟩
  ·omega
  ·rw [zjQ hl h1] at h2; omega
  ·rw [←e,zan hl hx (by omega) h1 (by omega)] at h3; omega
 exact h.same_ hl zaz (fun q hq=>zaB fun e=>zfQ hl hq ho e.symm) (fun x f hx hf=>hn x f hx (by omega)) (fun x hx=>zlQ (hn x 2 hx (by decide))) fun x hx=>zcD (hn x 2 hx (by decide))
def zrL (l:Lay) (p:Pen) (ver0:Int→Int) (σ:M):Prop:=∀ x,V0 l x→(zaf (gf l σ x 1)).2=true ∧
 ((zaf (gf l σ x 1)).1.thread=0∧(zaf (gf l σ x 1)).1.new=ver0 x∨(zaf (gf l σ x 1)).1.thread=p.thread∧(zaf (gf l σ x 1)).1.tag=p.tag∧(zaf (gf l σ x 1)).1.old=ver0 x)
structure Writ (l:Lay) (pr:Int→Int) (p:Pen) (par0 ver0:Int→Int) (σ:M) (g:G):Prop where
 rt:zaw l pr σ g
 hd:Hdt l g
 sn:Snap l p par0 σ
 vn:zrL l p ver0 σ
 st:get σ (l.state p.thread)=zbx p.tag false
omit hl in
theorem zaw.size (h:zaw l pr σ g):σ.size=l.cells:=by obtain ⟨F,mk,L,h⟩:=h; exact h.lm.forest.size
theorem zkB (ht:1≤p.thread∧p.thread≤l.T):zma l (l.state p.thread):=by rw [zcu hl ht]; exact .inl ⟨by omega,by omega⟩
include hp
theorem Writ.rch (h:Writ l pr p par0 ver0 σ g) (ht:p.thread≤l.T) (hR:Rch l p σ σ') (hr':zaw l pr σ' g') (hd':Hdt l g'):Writ l pr p par0 ver0 σ' g':=by
 have htt:=hp.t
 refine ⟨hr',hd',hR.snap hl hp h.rt.size h.sn,fun x hx=>?_,by rw [hR.other hl (zkB hl ⟨htt.1,ht⟩)]; exact h.st⟩
 have:gf l σ' x 1=gf l σ x 1:=hR.other hl (.inr (.inr ⟨x,1,hx.1,.inr (.inl rfl),rfl⟩))
 rw [this]; exact h.vn x hx
theorem Writ.ins (h:Writ l pr p par0 ver0 σ g) (ht:p.thread≤l.T) {s u v:Int} (hs:0≤s∧s<l.S) (hu:0≤u∧u<l.V) (hv:0≤v∧v<l.V) (hne:u≠v) (hno:g.has s=false) (hf:∀ q,g.has q=true→¬(g.u q=min u v∧g.v q=max u v)) :
  ∃ t σ',zcL l p 561 σ s u v=some (t,σ')∧Writ l pr p par0 ver0 σ' (g.put s (min u v) (max u v) 0 t)∧Rch l p σ σ':=by
 obtain ⟨t,σ',e,_,hR,hH⟩:=zgc hl hp h.rt h.hd hs hu hv hne hno hf (k:=561) (by decide)
 have hr:=zoT (p:=p) e (.refl)
 exact ⟨t,σ',e,h.rch hl hp ht hr hR hH,hr⟩
theorem Writ.del (h:Writ l pr p par0 ver0 σ g) (ht:p.thread≤l.T) {s:Int} (hh:g.has s=true) :
  ∃ t b o σ' g',zda l p 561 σ s=some ((t,b,o),σ')∧Writ l pr p par0 ver0 σ' g'∧g'.has=updB g.has s false∧g'.u=g.u∧g'.v=g.v∧Rch l p σ σ':=by
 obtain ⟨b,o,σ',g',h1 | ⟨σ2,h1,h2,h3,h4⟩⟩:=zgd hl hp h.rt h.hd hh (k:=561) (by decide)
 ·obtain ⟨h1,h2,h3⟩:=h1
  have hr:=zj5 (p:=p) h1 (.refl)
  exact ⟨_,b,o,σ',g',h1,h.rch hl hp ht hr h2 h3.hdt,h3.ext.has,h3.ext.u,h3.ext.v,hr⟩
 ·have hr:=zj5 (p:=p) h2 (.refl)
  exact ⟨false,0,false,σ2,_,h2,h.rch hl hp ht hr h3 h4,rfl,rfl,rfl,hr⟩
theorem zkE (hS:zrL l p ver0 σ) (hpt:p.thread≤l.T) {dn:Bool} (hst:get σ (l.state p.thread)=zbx p.tag dn) {x:Int} (hx:V0 l x) :
  zaX l σ (l.field x 1)=if dn then (zaf (gf l σ x 1)).1.new else ver0 x:=by
 obtain ⟨h1,h2⟩:=hS x hx
 unfold zaX
 dsimp only
 have ht:=hp.t
 rcases h2 with ⟨h2,h3⟩ | ⟨h2,h3,h4⟩
 ·rw [if_pos (.inr h2)]
  cases dn with
  | false=>exact h3
  | true=>rfl
 ·rw [if_neg (by rw [h1,h2]; simp; omega)]
  unfold zd4
  rw [h2,hst,zkz hp.g,if_pos rfl]
  unfold zmg
  dsimp only
  rw [h2,h3]
  cases dn with
  | false=>rw [if_neg (by simp; omega)]; exact h4
  | true=>rw [if_pos (.inr (.inr ⟨rfl,rfl⟩))]; rfl
theorem Writ.words (hS:Snap l p par0 σ) (hV:zrL l p ver0 σ) (hpt:p.thread≤l.T):∀ x f,V0 l x→(f=1∨f=2)→(zaf (gf l σ x f)).2=true∧((zaf (gf l σ x f)).1.thread=0∨1≤(zaf (gf l σ x f)).1.thread∧(zaf (gf l σ x f)).1.thread≤l.T):=fun x f hx hf=>by
 have ht:=hp.t
 rcases hf with rfl | rfl
 ·obtain ⟨h1,h2⟩:=hV x hx
  exact ⟨h1,by omega⟩
 ·obtain ⟨h1,h2⟩:=hS x hx.1 hx.2
  exact ⟨h1,by omega⟩
theorem Writ.seen (h:Writ l pr p par0 ver0 σ g) (ht:p.thread≤l.T) (hup:∀ x,V0 l x→∃ h:Nat,(h:Int)≤l.nodes∧Up par0 (V0 l) h x (rt0 x)):SeenF l σ par0 rt0 :=
 ⟨Writ.words hl hp h.sn h.vn ht,fun x hx=>by rw [zh3 hl h.sn hp ht h.st hx]; rfl,hup⟩
structure Comm (l:Lay) (pr:Int→Int) (p:Pen) (σ:M) (g:G):Prop where
 rt:zaw l pr σ g
 hd:Hdt l g
 sn:∃ par0,Snap l p par0 σ
 vn:∃ ver0,zrL l p ver0 σ
 st:get σ (l.state p.thread)=zbx p.tag true
theorem Writ.commit (h:Writ l pr p par0 ver0 σ g) (ht:p.thread≤l.T):Comm l pr p (za6 l p σ p.tag true) g∧(∀ j,j≠l.state p.thread→get (za6 l p σ p.tag true) j=get σ j):=by
 have htt:=hp.t
 have hg:=hp.g
 have hb:=zce hl
 have hh:l.heads=l.T+1+l.S * 7:=rfl
 have e:=zcu hl ⟨htt.1,ht⟩
 have hz:=h.rt.size
 unfold za6
 rw [if_pos ⟨by omega,by omega⟩]
 have ne:∀ j,j≠l.state p.thread→get (MemLike.st σ (l.state p.thread) (zbx p.tag true):M) j=get σ j:=fun j hj=>zaB hj
 have hf:∀ x f,l.nd x→0≤f∧f<7→gf l (MemLike.st σ (l.state p.thread) (zbx p.tag true)) x f=gf l σ x f:=fun x f hx hf=>ne _ (by have:=zaS hl hx hf; omega)
 refine ⟨⟨h.rt.st_other hl (.inl ⟨by omega,by omega⟩),h.hd,⟨par0,fun x hx hs=>by rw [hf x 2 hx (by decide)]; exact h.sn x hx hs⟩,⟨ver0,fun x hx=>by rw [hf x 1 hx.1 (by decide)]; exact h.vn x hx⟩,?_⟩,ne⟩
 rw [zeR (zfL ⟨by omega,by omega⟩ true),if_pos ⟨rfl,by omega,by rw [hz]; omega⟩]
theorem Comm.seen (h:Comm l pr p σ g) (ht:p.thread≤l.T) {rt:Int→Int} (hup:∀ x,V0 l x→∃ h:Nat,(h:Int)≤l.nodes∧Up (parent l σ) (V0 l) h x (rt x)):SeenF l σ (parent l σ) rt:=by
 obtain ⟨par0,hS⟩:=h.sn
 obtain ⟨ver0,hV⟩:=h.vn
 exact ⟨Writ.words hl hp hS hV ht,fun x hx=>by rw [zh3 hl hS hp ht h.st hx]; rfl,hup⟩
omit hp
theorem zsp {x:Int} (h:0≤x∧x≤65535):wofI x=⟨x,x,0,0⟩∧(wofI x).Ok:=by
 have e:wofI x=⟨x,x,0,0⟩:=by unfold wofI; rw [show min (max x 0) 65535=x by omega]
 rw [e]; exact ⟨rfl,⟨by show 0≤x∧x≤65535; omega,by show 0≤x∧x≤65535; omega,by show (0:Int)≤0∧(0:Int)≤8; decide,by show (0:Int)≤0∧(0:Int)≤16777215; decide,fun _=>⟨rfl,rfl⟩⟩⟩
theorem zhf {c:Int} (hu:(zaf (get σ c)).2=true) (hc:0≤c∧c<σ.size):zbj σ c=st σ c (zfg ⟨(zaf (get σ c)).1.new,(zaf (get σ c)).1.new,0,0⟩)∧zaf (get (zbj σ c) c)=(⟨(zaf (get σ c)).1.new,(zaf (get σ c)).1.new,0,0⟩,true)∧∀ j,j≠c→get (zbj σ c) j=get σ j:=by
 obtain ⟨hok,_⟩:=zfJ hu
 obtain ⟨e,hw⟩:=zsp hl hok.n
 have e1:zbj σ c=st σ c (zfg ⟨(zaf (get σ c)).1.new,(zaf (get σ c)).1.new,0,0⟩):=by
  unfold zbj
  rw [if_pos hu,if_pos (zdz.2 hw),zeh hw,e]; rfl
 rw [e] at hw
 refine ⟨e1,?_,fun j hj=>by rw [e1]; exact zaB hj⟩
 rw [e1,zeR (zc5 hw),if_pos ⟨rfl,hc⟩,zbU hw]
def zdH (l:Lay) (both:Bool):Nat→M→M
 | 0,σ=>σ
 | n+1,σ =>
  let τ:=zdH l both n σ
  if zcz l ((n+1:Nat):Int) then (if both then zbj (zbj τ (l.field ((n+1:Nat):Int) 2)) (l.field ((n+1:Nat):Int) 1) else zbj τ (l.field ((n+1:Nat):Int) 2)) else τ
def zcc (v x:Int):Prop:=zaf v=(⟨x,x,0,0⟩,true)
theorem zlB (hz:σ.size=l.cells) (hw:∀ x f,V0 l x→(f=1∨f=2)→(zaf (gf l σ x f)).2=true) (both:Bool):∀ n:Nat,(n:Int)≤l.nodes→let τ:=zdH l both n σ
  τ.size=l.cells∧(∀ j,(∀ x f,V0 l x→(f=1∨f=2)→j≠l.field x f)→get τ j=get σ j)∧(∀ x,V0 l x→zcc (gf l τ x 2) (zaf (gf l σ x 2)).1.new∨(n:Int)<x∧gf l τ x 2=gf l σ x 2)∧(∀ x,V0 l x→(both=true∧zcc (gf l τ x 1) (zaf (gf l σ x 1)).1.new)∨(both=true→(n:Int)<x)∧gf l τ x 1=gf l σ x 1):=by
 intro n
 induction n with
 | zero=>exact fun _=>⟨hz,fun j _=>rfl,fun x hx=>.inr ⟨by have:=hx.1.1; omega,rfl⟩,fun x hx=>.inr ⟨fun _=>by have:=hx.1.1; omega,rfl⟩⟩
 | succ n ih =>
  intro hn
  obtain ⟨k1,k2,k3,k4⟩:=ih (by omega)
  have hx:l.nd ((n+1:Nat):Int):=⟨by omega,by omega⟩
  show let τ:=zdH l both (n+1) σ; _
  rw [zdH]
  dsimp only
  by_cases hs:zcz l ((n+1:Nat):Int)=true
  ·have hV:V0 l ((n+1:Nat):Int):=⟨hx,hs⟩
   obtain ⟨τ,hτ⟩:∃ τ,zdH l both n σ=τ:=⟨_,rfl⟩
   rw [hτ] at k1 k2 k3 k4 ⊢
   rw [if_pos hs]
   have c2:=zaS hl hx (f:=2) (by decide)
   have c1:=zaS hl hx (f:=1) (by decide)
   have e2:gf l τ ((n+1:Nat):Int) 2=gf l σ ((n+1:Nat):Int) 2:=by
    rcases k3 _ hV with h | ⟨_,h⟩
    ·have:=k3 _ hV
     rcases this with h | ⟨_,h⟩
     ·exact (by
       have hxx:¬(((n+1:Nat):Int)≤n):=by omega
       exact (Classical.byContradiction fun hne=>by
        exact hne (by
         have key:∀ m:Nat,m≤n→gf l (zdH l both m σ) ((n+1:Nat):Int) 2=gf l σ ((n+1:Nat):Int) 2:=by
          intro m
          induction m with
          | zero=>exact fun _=>rfl
          | succ m im =>
           intro hm
           rw [zdH]
           have im:=im (by omega)
           have hxm:l.nd ((m+1:Nat):Int):=⟨by omega,by omega⟩
           have ne1:l.field ((n+1:Nat):Int) 2≠l.field ((m+1:Nat):Int) 2:=fun e=>by have:=(zan hl hx (by decide) hxm (by decide)).1 e; omega
           have ne2:l.field ((n+1:Nat):Int) 2≠l.field ((m+1:Nat):Int) 1:=fun e=>by have:=(zan hl hx (by decide) hxm (by decide)).1 e; omega
           have pc:∀ {ρ:M} {c j:Int},j≠c→get (zbj ρ c) j=get ρ j:=fun {ρ c j} h=>by
            unfold zbj; split
            ·split
             ·rw [zaB h]; rfl
             ·rfl
            ·rfl
           split
           ·split
            ·unfold gf at *; rw [pc ne2,pc ne1]; exact im
            ·unfold gf at *; rw [pc ne1]; exact im
           ·exact im
         rw [←hτ]; exact key n (Nat.le_refl _))))
     ·exact h
    ·exact h
   have e1:gf l τ ((n+1:Nat):Int) 1=gf l σ ((n+1:Nat):Int) 1:=by
    have key:∀ m:Nat,m≤n→gf l (zdH l both m σ) ((n+1:Nat):Int) 1=gf l σ ((n+1:Nat):Int) 1:=by
     intro m
     induction m with
     | zero=>exact fun _=>rfl
     | succ m im =>
      intro hm
      rw [zdH]
      have im:=im (by omega)
      have hxm:l.nd ((m+1:Nat):Int):=⟨by omega,by omega⟩
      have ne1:l.field ((n+1:Nat):Int) 1≠l.field ((m+1:Nat):Int) 2:=fun e=>by have:=(zan hl hx (by decide) hxm (by decide)).1 e; omega
      have ne2:l.field ((n+1:Nat):Int) 1≠l.field ((m+1:Nat):Int) 1:=fun e=>by have:=(zan hl hx (by decide) hxm (by decide)).1 e; omega
      have pc:∀ {ρ:M} {c j:Int},j≠c→get (zbj ρ c) j=get ρ j:=fun {ρ c j} h=>by
       unfold zbj; split
       ·split
        ·rw [zaB h]; rfl
        ·rfl
       ·rfl
      split
      ·split
       ·unfold gf at *; rw [pc ne2,pc ne1]; exact im
       ·unfold gf at *; rw [pc ne1]; exact im
      ·exact im
    rw [←hτ]; exact key n (Nat.le_refl _)
   have u2:(zaf (get τ (l.field ((n+1:Nat):Int) 2))).2=true:=by have:=hw _ 2 hV (.inr rfl); rw [←e2] at this; exact this
   obtain ⟨a1,a2,a3⟩:=zhf hl u2 ⟨c2.2.1,by rw [k1]; exact c2.2.2⟩
   have z2:(zbj τ (l.field ((n+1:Nat):Int) 2)).size=l.cells:=by rw [a1,zaz]; exact k1
   have n12:l.field ((n+1:Nat):Int) 1≠l.field ((n+1:Nat):Int) 2:=fun e=>by have:=(zan hl hx (by decide) hx (by decide)).1 e; omega
   have P2:zcc (get (zbj τ (l.field ((n+1:Nat):Int) 2)) (l.field ((n+1:Nat):Int) 2)) (zaf (gf l σ ((n+1:Nat):Int) 2)).1.new:=by
    unfold zcc; rw [a2]; rw [←e2]
   have oth:∀ x,V0 l x→x≠((n+1:Nat):Int)→∀ f,(f=1∨f=2)→l.field x f≠l.field ((n+1:Nat):Int) 2∧l.field x f≠l.field ((n+1:Nat):Int) 1:=fun x hx' hne f hf=>⟨fun e=>hne ((zan hl hx'.1 (by omega) hx (by decide)).1 e).1,fun e=>hne ((zan hl hx'.1 (by omega) hx (by decide)).1 e).1⟩
   cases both with
   | false =>
    rw [if_neg (by decide)]
    refine ⟨z2,fun j hj=>by rw [a3 j (hj _ 2 hV (.inr rfl)),k2 j hj],fun x hx'=>?_,fun x hx'=>.inr ⟨fun h=>(by cases h),?_⟩⟩
    ·by_cases e:x=((n+1:Nat):Int)
     ·subst e; exact .inl P2
     ·rcases k3 x hx' with h | ⟨h1,h2⟩
      ·left; unfold gf; rw [a3 _ (oth x hx' e 2 (.inr rfl)).1]; exact h
      ·right; exact ⟨by omega,by unfold gf; rw [a3 _ (oth x hx' e 2 (.inr rfl)).1]; exact h2⟩
    ·rcases k4 x hx' with ⟨h,_⟩ | ⟨_,h⟩
     ·cases h
     ·unfold gf
      rw [a3 _ (fun e=>by have:=(zan hl hx'.1 (by decide) hx (by decide)).1 e; omega)]; exact h
   | true =>
    rw [if_pos rfl]
    have u1:(zaf (get (zbj τ (l.field ((n+1:Nat):Int) 2)) (l.field ((n+1:Nat):Int) 1))).2=true:=by
     rw [a3 _ n12]
     have:=hw _ 1 hV (.inl rfl); rw [←e1] at this; exact this
    obtain ⟨b1,b2,b3⟩:=zhf hl u1 ⟨c1.2.1,by rw [z2]; exact c1.2.2⟩
    refine ⟨by rw [b1,zaz]; exact z2,fun j hj=>by rw [b3 j (hj _ 1 hV (.inl rfl)),a3 j (hj _ 2 hV (.inr rfl)),k2 j hj],fun x hx'=>?_,fun x hx'=>?_⟩
    ·by_cases e:x=((n+1:Nat):Int)
     ·subst e; left; unfold gf; rw [b3 _ (Ne.symm n12)]; exact P2
     ·have ho:=oth x hx' e 2 (.inr rfl)
      rcases k3 x hx' with h | ⟨h1,h2⟩
      ·left; unfold gf; rw [b3 _ ho.2,a3 _ ho.1]; exact h
      ·right; exact ⟨by omega,by unfold gf; rw [b3 _ ho.2,a3 _ ho.1]; exact h2⟩
    ·by_cases e:x=((n+1:Nat):Int)
     ·subst e
      left; refine ⟨rfl,?_⟩
      unfold zcc gf; rw [b2,a3 _ n12]
      unfold gf at e1; rw [e1]
     ·have ho:=oth x hx' e 1 (.inl rfl)
      rcases k4 x hx' with ⟨_,h⟩ | ⟨h1,h2⟩
      ·left; refine ⟨rfl,?_⟩; unfold gf; rw [b3 _ ho.2,a3 _ ho.1]; exact h
      ·right; exact ⟨fun _=>by have:=h1 rfl; omega,by unfold gf; rw [b3 _ ho.2,a3 _ ho.1]; exact h2⟩
  ·rw [if_neg hs]
   refine ⟨k1,k2,fun x hx'=>?_,fun x hx'=>?_⟩
   ·rcases k3 x hx' with h | ⟨h1,h2⟩
    ·exact .inl h
    ·right; refine ⟨?_,h2⟩
     have:x≠((n+1:Nat):Int):=fun e=>hs (e▸hx'.2)
     omega
   ·rcases k4 x hx' with h | ⟨h1,h2⟩
    ·exact .inl h
    ·right; refine ⟨fun hb=>?_,h2⟩
     have:x≠((n+1:Nat):Int):=fun e=>hs (e▸hx'.2)
     have:=h1 hb
     omega
end
end Go.Tm
namespace Go.Tm
open MemLike Eng
set_option linter.unusedSectionVars false
set_option linter.unusedVariables false
structure Calm (l:Lay) (pr:Int→Int) (p:Pen) (ver:Int→Int) (σ:M) (g:G):Prop where
 rt:zaw l pr σ g
 hd:Hdt l g
 pp:∀ x,V0 l x→zcc (gf l σ x 2) (parent l σ x)
 pv:∀ x,V0 l x→zcc (gf l σ x 1) (ver x)
 st:get σ (l.state p.thread)=zbx p.tag false
section
variable {l:Lay} (hl:l.Ok) {p:Pen} (hp:PenOk p) {pr:Int→Int} {σ σ':M} {g g':G} {par0 ver ver0 rt0:Int→Int}
theorem zcc.ok {v x:Int} (h:zcc v x):(zaf v).2=true∧(zaf v).1.thread=0∧(zaf v).1.new=x∧(zaf v).1.old=x:=by unfold zcc at h; rw [h]; exact ⟨rfl,rfl,rfl,rfl⟩
theorem zoj:zcc 0 0:=by
 have:=zbU (w:=⟨0,0,0,0⟩) ⟨by decide,by decide,by decide,by decide,fun _=>⟨rfl,rfl⟩⟩
 rw [show zfg ⟨0,0,0,0⟩=0 by decide] at this; exact this
theorem zn2 {x:Int} (hx:V0 l x) {y:Int} (h:zcc (gf l σ x 2) y):parent l σ x=y:=by
 unfold parent pnew; rw [if_pos hx.2]; exact h.ok.2.2.1
include hl
theorem Calm.writ (h:Calm l pr p ver σ g):Writ l pr p (parent l σ) ver σ g :=
 ⟨h.rt,h.hd,fun x hx hs=>⟨(h.pp x ⟨hx,hs⟩).ok.1,.inl ⟨(h.pp x ⟨hx,hs⟩).ok.2.1,(h.pp x ⟨hx,hs⟩).ok.2.2.1⟩⟩,fun x hx=>⟨(h.pv x hx).ok.1,.inl ⟨(h.pv x hx).ok.2.1,(h.pv x hx).ok.2.2.1⟩⟩,h.st⟩
theorem Calm.seen (h:Calm l pr p ver σ g) {rt:Int→Int} (hup:∀ x,V0 l x→∃ h:Nat,(h:Int)≤l.nodes∧Up (parent l σ) (V0 l) h x (rt x)):SeenF l σ (parent l σ) rt :=
 ⟨fun x f hx hf=>by
  rcases hf with rfl | rfl
  ·exact ⟨(h.pv x hx).ok.1,.inl (h.pv x hx).ok.2.1⟩
  ·exact ⟨(h.pp x hx).ok.1,.inl (h.pp x hx).ok.2.1⟩,fun x hx=>by
  unfold zaX; dsimp only
  rw [if_pos (.inr (h.pp x hx).ok.2.1)]; exact (h.pp x hx).ok.2.2.1,hup⟩
theorem Born.calm (h:Born l pr σ) (hT:1≤p.thread∧p.thread≤l.T) (h0:p.tag=0):Calm l pr p (fun _=>0) σ G0 :=
 ⟨h.right hl,Hdt.g0 hl,fun x hx=>by rw [h.par x hx.1,h.parent0 hl hx.1]; exact zoj,fun x hx=>by rw [h.ver x hx.1]; exact zoj,by
  rw [zcu hl hT,h0,h.st _ ⟨by omega,by omega⟩,zgY (by decide)]; rfl⟩
include hp
theorem Comm.clean (h:Comm l pr p σ g) (ht:p.thread≤l.T) (hg:p.tag+1≤16777215) (both:Bool) (hv:both=false→∀ x,V0 l x→zcc (gf l σ x 1) (zaf (gf l σ x 1)).1.new) :
  let τ:=za6 l p (zdH l both l.nodes.toNat σ) (p.tag+1) false
  Calm l pr ⟨p.thread,p.tag+1⟩ (fun x=>(zaf (gf l σ x 1)).1.new) τ g∧(∀ j,(∀ x f,V0 l x→(f=1∨f=2)→j≠l.field x f)→j≠l.state p.thread→get τ j=get σ j)∧∀ x,V0 l x→parent l τ x=parent l σ x:=by
 have htt:=hp.t
 have hgg:=hp.g
 have hb:=zce hl
 have hn:=zaD hl
 have hh:l.heads=l.T+1+l.S * 7:=rfl
 have e:=zcu hl ⟨htt.1,ht⟩
 have hz:=h.rt.size
 obtain ⟨par0,hS⟩:=h.sn
 obtain ⟨ver0,hV⟩:=h.vn
 have hwd:=Writ.words hl hp hS hV ht
 obtain ⟨c1,c2,c3,c4⟩:=zlB hl hz (fun x f hx hf=>(hwd x f hx hf).1) both l.nodes.toNat (by omega)
 obtain ⟨τ,hτ⟩:∃ τ,zdH l both l.nodes.toNat σ=τ:=⟨_,rfl⟩
 rw [hτ] at c1 c2 c3 c4
 have d3:∀ x,V0 l x→zcc (gf l τ x 2) (zaf (gf l σ x 2)).1.new:=fun x hx=>by
  rcases c3 x hx with h | ⟨h,_⟩
  ·exact h
  ·have:=hx.1.2; omega
 have d4:∀ x,V0 l x→zcc (gf l τ x 1) (zaf (gf l σ x 1)).1.new:=fun x hx=>by
  rcases c4 x hx with ⟨_,h⟩ | ⟨h1,h2⟩
  ·exact h
  ·cases both with
   | true=>have:=h1 rfl; have:=hx.1.2; omega
   | false=>rw [h2]; exact hv rfl x hx
 have epar:∀ x,V0 l x→(zaf (gf l σ x 2)).1.new=parent l σ x:=fun x hx=>by unfold parent pnew; rw [if_pos hx.2]
 have ppar:∀ x,V0 l x→parent l τ x=parent l σ x:=fun x hx=>by rw [zn2 hx (d3 x hx),epar x hx]
 have hnf:∀ j,lowc l j→get τ j=get σ j:=fun j hj=>c2 j fun x f hx hf=>zbL hl hj hx.1 (by omega)
 have rt1:zaw l pr τ g:=h.rt.same_ hl (by exact_mod_cast (c1.trans hz.symm)) hnf (fun x f hx hf=>c2 _ fun y f' hy hf' e=>by have:=(zan hl hx (by omega) hy.1 (by omega)).1 e; omega) (fun x hx hw=>by
   by_cases hs:zcz l x=true
   ·exact ⟨fun _=>(d3 x ⟨hx,hs⟩).ok.1,fun h=>absurd (hs.symm.trans h) (by decide)⟩
   ·exact zlQ (c2 _ fun y f' hy hf' e=>by have:=(zan hl hx (by omega) hy.1 (by omega)).1 e; rw [this.1] at hs; exact hs hy.2) hw) fun x hx=>by
   by_cases hs:zcz l x=true
   ·exact ppar x ⟨hx,hs⟩
   ·exact zcD (c2 _ fun y f' hy hf' e=>by have:=(zan hl hx (by omega) hy.1 (by omega)).1 e; rw [this.1] at hs; exact hs hy.2)
 have eP:za6 l p τ (p.tag+1) false=MemLike.st τ (l.state p.thread) (zbx (p.tag+1) false):=by unfold za6; rw [if_pos ⟨by omega,by omega⟩]
 dsimp only
 rw [hτ,eP]
 have ne:∀ j,j≠l.state p.thread→get (MemLike.st τ (l.state p.thread) (zbx (p.tag+1) false):M) j=get τ j:=fun j hj=>zaB hj
 have hf:∀ x f,l.nd x→0≤f∧f<7→gf l (MemLike.st τ (l.state p.thread) (zbx (p.tag+1) false)) x f=gf l τ x f:=fun x f hx hf=>ne _ (by have:=zaS hl hx hf; omega)
 refine ⟨⟨rt1.st_other hl (.inl ⟨by omega,by omega⟩),h.hd,fun x hx=>?_,fun x hx=>?_,?_⟩,fun j hj hs=>by rw [ne j hs]; exact c2 j hj,fun x hx=>?_⟩
 ·rw [hf x 2 hx.1 (by decide),zcD (hf x 2 hx.1 (by decide)),ppar x hx,←epar x hx]; exact d3 x hx
 ·rw [hf x 1 hx.1 (by decide)]; exact d4 x hx
 ·show get (MemLike.st τ (l.state p.thread) (zbx (p.tag+1) false):M) (l.state p.thread)=_
  rw [zeR (zfL ⟨by omega,by omega⟩ false),if_pos ⟨rfl,by omega,by rw [c1]; omega⟩]
 ·rw [zcD (hf x 2 hx.1 (by decide)),ppar x hx]
omit hl hp
structure GA where
 has:Int→Bool
 u:Int→Int
 v:Int→Int
def GA.of (g:G):GA:=⟨g.has,g.u,g.v⟩
def GA.bt (a:GA) (o:Op3) (s:Int):Prop:=a.has s=true∧a.u s=min o.u o.v∧a.v s=max o.u o.v
def GA.free (l:Lay) (a:GA):Int:=fsN (fun s=>!a.has (s:Int)) l.S
open Classical in
noncomputable def zd6 (l:Lay) (a:GA) (o:Op3):GA :=
 if ¬Val3 l o then a else
 if o.kind=1 then (if (∃ s,a.bt o s)∨a.free l<0 then a else ⟨updB a.has (a.free l) true,updI a.u (a.free l) (min o.u o.v),updI a.v (a.free l) (max o.u o.v)⟩)
 else if o.kind=2 then (if h:∃ s,a.bt o s then { a with has:=updB a.has (Classical.choose h) false } else a) else a
noncomputable def zrk (l:Lay) (a:GA) (f:Nat→Op3):Nat→GA
 | 0=>a
 | n+1=>zd6 l (zrk l a f n) (f n)
theorem zoW {a:GA} {o:Op3} (h:¬Val3 l o):zd6 l a o=a:=by unfold zd6; rw [if_pos h]
theorem zrj {a:GA} {o:Op3} (h1:o.kind≠1) (h2:o.kind≠2):zd6 l a o=a:=by
 unfold zd6
 by_cases hv:¬Val3 l o
 ·rw [if_pos hv]
 ·rw [if_neg hv,if_neg h1,if_neg h2]
theorem zoX {a:GA} {o:Op3} (hk:o.kind=1) (h:∃ s,a.bt o s):zd6 l a o=a:=by
 unfold zd6
 by_cases hv:¬Val3 l o
 ·rw [if_pos hv]
 ·rw [if_neg hv,if_pos hk,if_pos (.inl h)]
theorem zlj {a:GA} {o:Op3} (hk:o.kind=1) (h:a.free l<0):zd6 l a o=a:=by
 unfold zd6
 by_cases hv:¬Val3 l o
 ·rw [if_pos hv]
 ·rw [if_neg hv,if_pos hk,if_pos (.inr h)]
theorem zli {a:GA} {o:Op3} (hk:o.kind=2) (h:¬∃ s,a.bt o s):zd6 l a o=a:=by
 unfold zd6
 by_cases hv:¬Val3 l o
 ·rw [if_pos hv]
 ·rw [if_neg hv,if_neg (by omega),if_pos hk,dif_neg h]
end
section
variable {l:Lay} (hl:l.Ok) {p:Pen} (hp:PenOk p) {pr:Int→Int} {σ σ':M} {g g':G} {par0 ver0:Int→Int}
include hl
theorem EdgeOk.found (h:EdgeOk l σ g) {o:Op3} (hv:Val3 l o):(∃ s,(GA.of g).bt o s∧(0≤s∧s<l.S)∧g.has s=true∧find l σ o.u o.v=⟨s,g.tr s,true⟩∧∀ q,(GA.of g).bt o q→q=s)∨((¬∃ s,(GA.of g).bt o s)∧find l σ o.u o.v=⟨0,false,false⟩):=by
 obtain ⟨v1,v2,v3,v4,v5⟩:=hv
 have hsym:∀ a b,l.edge a b=l.edge (min a b) (max a b):=fun a b=>by
  rcases Int.lt_or_le a b with h | h
  ·rw [Int.min_eq_left (by omega),Int.max_eq_right (by omega)]
  ·rw [Int.min_eq_right h,Int.max_eq_left h]; exact zpU hl
 by_cases hex:∃ s,(GA.of g).bt o s
 ·obtain ⟨s,hb⟩:=hex
  obtain ⟨b1,b2,b3⟩:=hb
  have b1:g.has s=true:=b1
  have b2:g.u s=min o.u o.v:=b2
  have b3:g.v s=max o.u o.v:=b3
  have hr:=h.rng s b1
  refine .inl ⟨s,⟨b1,b2,b3⟩,hr.1,b1,?_,fun q hq=>h.uniq q s hq.1 b1 (by have:g.u q=_:=hq.2.1; rw [this,b2]) (by have:g.v q=_:=hq.2.2; rw [this,b3])⟩
  have e:=zll hl h b1
  rw [b2,b3] at e
  unfold find at e ⊢
  rw [hsym o.u o.v]
  have h2:l.edge (min o.u o.v) (max o.u o.v)=l.edge (min (min o.u o.v) (max o.u o.v)) (max (min o.u o.v) (max o.u o.v)):=hsym _ _
  exact e
 ·refine .inr ⟨hex,?_⟩
  have e:=h.none (min o.u o.v) (max o.u o.v) (by omega) (by omega) (by omega) fun s hs hc=>hex ⟨s,hs,hc.1,hc.2⟩
  unfold find
  rw [hsym,e]; rfl
theorem Writ.edges (h:Writ l pr p par0 ver0 σ g):EdgeOk l σ g:=by obtain ⟨F,mk,L,hI⟩:=h.rt; exact hI.edges
end
end Go.Tm
namespace Go.Tm
open MemLike Eng
set_option linter.unusedSectionVars false
set_option linter.unusedVariables false
section
variable {l:Lay} (hl:l.Ok) {σ σ':M} {par rt:Int→Int}
structure CTo (l:Lay) (σ:M) (rt:Int→Int) (r:Int) (c:ClimbS):Prop where
 inv:CInv l σ c
 to:if c.top then c.node=r else rt c.node=r
include hl
theorem SeenF.rt_par (hS:SeenF l σ par rt) {x:Int} (hx:V0 l x):(par x=0→rt x=x)∧(par x≠0→V0 l (par x)∧rt (par x)=rt x):=by
 obtain ⟨h,_,u⟩:=hS.up x hx
 constructor
 ·intro h0; exact (u.uniq (.top hx h0)).2
 ·intro h0
  obtain ⟨r,hr⟩:∃ r,rt x=r:=⟨_,rfl⟩
  rw [hr] at u ⊢
  cases u with
  | top _ h1=>exact absurd h1 h0
  | step _ _ hr =>
   have hp:=hr.first
   obtain ⟨h',_,u'⟩:=hS.up _ hp
   exact ⟨hp,(u'.uniq hr).2⟩
theorem SeenF.rt_v0 (hS:SeenF l σ par rt) {x:Int} (hx:V0 l x):V0 l (rt x)∧par (rt x)=0∧rt (rt x)=rt x:=by
 obtain ⟨h,_,u⟩:=hS.up x hx
 have:=u.last
 exact ⟨this.1,this.2,(hS.rt_par hl this.1).1 this.2⟩
theorem CTo.stp (hS:SeenF l σ par rt) {r:Int} {c:ClimbS} (h:CTo l σ rt r c) (hb:0≤c.step∧c.step≤1000000000) :
  ((c.stp l σ).done=false∧CTo l σ rt r (c.stp l σ)∧(c.stp l σ).step=c.step+1)∨((c.stp l σ).done=true∧(c.stp l σ).node=r∧(c.stp l σ).version=zaX l σ (l.field r 1)∧(c.stp l σ).step=c.step+1):=by
 obtain ⟨hI,ht⟩:=h
 rcases zfw hl hS hI (fun _=>hI.v0) with ⟨h1,h2⟩ | ⟨hh,h1,h2,h3,h4,h5,h6⟩
 ·have e:=zgv hl hI hb h1
  dsimp only at e
  by_cases htop:c.top=true
  ·rw [if_pos htop] at e ht
   right; rw [e]
   exact ⟨rfl,ht,by show (c.look.step l σ).value=_; rw [h2,hI.cell,if_pos htop,ht],rfl⟩
  ·rw [if_neg htop] at e ht
   have htf:c.top=false:=by simpa using htop
   have hv:(c.look.step l σ).value=par c.node:=by rw [h2,hI.cell,if_neg htop,hS.mn _ hI.v0]
   have hp:=hS.rt_par hl hI.v0
   by_cases h0:par c.node=0
   ·rw [if_neg (by rw [hv,h0]; omega)] at e
    left; rw [e]
    refine ⟨hI.nd,⟨⟨hI.nd,hI.v0,rfl,rfl,fun h=>by cases h⟩,?_⟩,rfl⟩
    show (if true=true then c.node=r else _)
    rw [if_pos rfl,←ht,hp.1 h0]
   ·obtain ⟨p1,p2⟩:=hp.2 h0
    have:=V0.nd0 hl p1
    rw [if_pos (by rw [hv]; omega),hv] at e
    left; rw [e]
    refine ⟨hI.nd,⟨⟨hI.nd,p1,by show _=l.field (par c.node) (if c.top then 1 else 2); rw [if_neg htop]; rfl,rfl,fun h=>by cases h⟩,?_⟩,rfl⟩
    show (if c.top=true then _ else rt (par c.node)=r)
    rw [if_neg htop,p2,ht]
 ·have e:=zgu hl hI hb h1
  left; rw [e]
  exact ⟨hI.nd,⟨⟨hI.nd,hI.v0,h2.trans hI.cell,h1,fun _=>⟨h5,by rw [h2]; exact h6⟩⟩,ht⟩,rfl⟩
theorem CTo.start (hS:SeenF l σ par rt) {v:Int} (hv:0≤v∧v<l.V):CTo l σ rt (rt (l.vertex 0 v)) (zbd l v):=by
 obtain ⟨h1,h2⟩:=zbv hl (σ:=σ) hv
 exact ⟨h1,rfl⟩
omit hl
structure Alike (l:Lay) (σ σ':M):Prop where
 wd:∀ x f,V0 l x→(f=1∨f=2)→gf l σ' x f=gf l σ x f
 st:∀ t:Int,1≤t∧t≤l.T→get σ' (l.state t)=get σ (l.state t)
theorem Alike.symm (h:Alike l σ σ'):Alike l σ' σ:=⟨fun x f hx hf=>(h.wd x f hx hf).symm,fun t ht=>(h.st t ht).symm⟩
theorem Alike.refl:Alike l σ σ:=⟨fun _ _ _ _=>rfl,fun _ _=>rfl⟩
theorem Alike.trans {σ'':M} (h:Alike l σ σ') (h':Alike l σ' σ''):Alike l σ σ'':=⟨fun x f hx hf=>(h'.wd x f hx hf).trans (h.wd x f hx hf),fun t ht=>(h'.st t ht).trans (h.st t ht)⟩
theorem Alike.means (h:Alike l σ σ') (hS:SeenF l σ par rt) {x f:Int} (hx:V0 l x) (hf:f=1∨f=2):zaX l σ' (l.field x f)=zaX l σ (l.field x f):=by
 have e:=h.wd x f hx hf
 have hw:=hS.word x f hx hf
 unfold gf at e hw
 unfold zaX
 dsimp only
 rw [e]
 split
 ·rfl
 ·next hc =>
  have:¬((zaf (get σ (l.field x f))).1.thread=0):=fun h0=>hc (.inr h0)
  rw [h.st _ (by omega)]
theorem Alike.seen (h:Alike l σ σ') (hS:SeenF l σ par rt):SeenF l σ' par rt :=
 ⟨fun x f hx hf=>by rw [h.wd x f hx hf]; exact hS.word x f hx hf,fun x hx=>by rw [h.means hS hx (.inr rfl)]; exact hS.mn x hx,hS.up⟩
theorem Alike.cinv (h:Alike l σ σ') (hS:SeenF l σ par rt) {c:ClimbS} (hI:CInv l σ c):CInv l σ' c:=by
 have e:=h.means hS hI.v0 (f:=if c.top then 1 else 2) (by cases c.top<;>simp)
 exact ⟨hI.nd,hI.v0,hI.cell,hI.ld,fun hh=>by
  obtain ⟨h1,h2⟩:=hI.half hh
  refine ⟨h1,?_⟩
  rw [h.st _ h1,h2,hI.cell,e]⟩
theorem Alike.cto (h:Alike l σ σ') (hS:SeenF l σ par rt) {r:Int} {c:ClimbS} (hI:CTo l σ rt r c):CTo l σ' rt r c:=⟨h.cinv hS hI.inv,hI.to⟩
theorem Alike.stp (h:Alike l σ σ') (hS:SeenF l σ par rt) {c:ClimbS} (hI:CInv l σ c):c.stp l σ'=c.stp l σ:=by
 have e:get σ' (c.look.at l)=get σ (c.look.at l):=by
  unfold LookS.at
  split
  ·next hh=>exact h.st _ (hI.half hh).1
  ·rw [hI.cell]; exact h.wd c.node _ hI.v0 (by cases c.top<;>simp)
 unfold ClimbS.stp LookS.step
 rw [e]
end
end Go.Tm
namespace Go.Tm
open MemLike Eng
set_option linter.unusedSectionVars false
set_option linter.unusedVariables false
open Classical in
noncomputable def upH (l:Lay) (par rt:Int→Int) (x:Int):Nat:=if h:∃ h:Nat,(h:Int)≤l.nodes∧Up par (V0 l) h x (rt x) then Classical.choose h else 0
noncomputable def crem (l:Lay) (par rt:Int→Int) (c:ClimbS):Nat:=if c.top then (if c.look.half then 1 else 2) else 2 * upH l par rt c.node+(if c.look.half then 1 else 2)
section
variable {l:Lay} (hl:l.Ok) {σ σ':M} {par rt:Int→Int}
structure CGo (l:Lay) (σ:M) (par rt:Int→Int) (r:Int) (c:ClimbS):Prop where
 to:CTo l σ rt r c
 bd:0≤c.step∧c.step+crem l par rt c≤2 * l.nodes+2
theorem zfD {c:ClimbS}:1≤crem l par rt c:=by unfold crem; split<;>split<;>omega
theorem Alike.cgo (h:Alike l σ σ') (hS:SeenF l σ par rt) {r:Int} {c:ClimbS} (hI:CGo l σ par rt r c):CGo l σ' par rt r c:=⟨h.cto hS hI.to,hI.bd⟩
include hl
theorem SeenF.upH (hS:SeenF l σ par rt) {x:Int} (hx:V0 l x):(upH l par rt x:Int)≤l.nodes∧Up par (V0 l) (Go.Tm.upH l par rt x) x (rt x):=by
 have h:=hS.up x hx
 unfold Go.Tm.upH
 rw [dif_pos h]
 exact Classical.choose_spec h
theorem SeenF.upH_par (hS:SeenF l σ par rt) {x:Int} (hx:V0 l x) (h0:par x≠0):Go.Tm.upH l par rt x=Go.Tm.upH l par rt (par x)+1:=by
 have h1:=(hS.upH hl hx).2
 obtain ⟨p1,p2⟩:=(hS.rt_par hl hx).2 h0
 have h2:=(hS.upH hl p1).2
 rw [p2] at h2
 exact (h1.uniq (.step hx h0 h2)).1
theorem zmz (hS:SeenF l σ par rt) {c:ClimbS} (hI:CInv l σ c) (hb:0≤c.step∧c.step≤1000000000) (g1:(c.stp l σ).done=false):crem l par rt (c.stp l σ)+1≤crem l par rt c:=by
 rcases zfw hl hS hI (fun _=>hI.v0) with ⟨h1,h2⟩ | ⟨hh,h1,h2,h3,h4,h5,h6⟩
 ·have e:=zgv hl hI hb h1
  dsimp only at e
  by_cases htop:c.top=true
  ·rw [if_pos htop] at e; rw [e] at g1; cases g1
  ·rw [if_neg htop] at e
   have htf:c.top=false:=by simpa using htop
   have hv:(c.look.step l σ).value=par c.node:=by rw [h2,hI.cell,if_neg htop,hS.mn _ hI.v0]
   have hp:=hS.rt_par hl hI.v0
   have hu:=(hS.upH hl hI.v0).2.pos
   have hc:crem l par rt c=2 * upH l par rt c.node+(if c.look.half then 1 else 2):=by unfold crem; rw [if_neg htop]
   by_cases h0:par c.node=0
   ·rw [if_neg (by rw [hv,h0]; omega)] at e
    rw [e,hc]
    unfold crem
    rw [if_pos rfl,show ({ c with step:=c.step+1,look:=zk5 (l.field c.node 1),top:=true }:ClimbS).look.half=false from rfl,if_neg (by decide)]
    split<;>omega
   ·obtain ⟨p1,p2⟩:=hp.2 h0
    have:=V0.nd0 hl p1
    have hu2:=hS.upH_par hl hI.v0 h0
    rw [if_pos (by rw [hv]; omega),hv] at e
    rw [e,hc]
    unfold crem
    rw [if_neg htop,show ({ c with step:=c.step+1,node:=par c.node,look:=zk5 (l.field (par c.node) 2) }:ClimbS).look.half=false from rfl,if_neg (by decide)]
    show 2 * upH l par rt (par c.node)+2+1≤_
    split<;>omega
 ·have e:=zgu hl hI hb h1
  rw [e]
  unfold crem
  show (if c.top=true then (if (c.look.step l σ).half=true then 1 else 2) else 2 * upH l par rt c.node+(if (c.look.step l σ).half=true then 1 else 2))+1≤_
  rw [h3,hh]
  split<;>simp
theorem CGo.stp (hS:SeenF l σ par rt) {r:Int} {c:ClimbS} (h:CGo l σ par rt r c) :
  ((c.stp l σ).done=false∧CGo l σ par rt r (c.stp l σ)∧crem l par rt (c.stp l σ)+1≤crem l par rt c)∨((c.stp l σ).done=true∧(c.stp l σ).node=r∧(c.stp l σ).version=zaX l σ (l.field r 1)):=by
 have hn:=zaD hl
 obtain ⟨hto,hbd⟩:=h
 have hb:0≤c.step∧c.step≤1000000000:=by omega
 refine Or.elim (CTo.stp hl hS hto hb) (fun ⟨g1,g2,g3⟩=>.inl ?_) (fun ⟨g1,g2,g3,g4⟩=>.inr ⟨g1,g2,g3⟩)
 have key:=zmz hl hS hto.inv hb g1
 exact ⟨g1,⟨g2,by omega⟩,key⟩
theorem CGo.start (hS:SeenF l σ par rt) {v:Int} (hv:0≤v∧v<l.V):CGo l σ par rt (rt (l.vertex 0 v)) (zbd l v)∧crem l par rt (zbd l v)=2 * upH l par rt (l.vertex 0 v)+2:=by
 have h2:=(zbv hl (σ:=σ) hv).2
 have hu:=(hS.upH hl h2).1
 have e:crem l par rt (zbd l v)=2 * upH l par rt (l.vertex 0 v)+2:=rfl
 exact ⟨⟨CTo.start hl hS hv,by show (0:Int)≤0∧0+_≤_; rw [e]; omega⟩,e⟩
abbrev lkF (l:Lay) (σ:M) (x:Int):Int:=gf l σ x 0
omit hl in
theorem zdK {a b:Int}:(zaq a b).size=if a=b then 1 else 2:=by unfold zaq; split<;>rfl
omit hl in
theorem zbZ {a b:Int} {k:Nat} (h:k<(zaq a b).size):(zaq a b)[k]! =a∨(zaq a b)[k]! =b:=by
 unfold zaq at *
 split at h
 ·have:k=0:=by simpa using h
  subst this; rename_i hc; rw [if_pos hc]; exact .inl rfl
 ·rename_i hc; rw [if_neg hc]
  have:k=0∨k=1:=by simp at h; omega
  rcases this with rfl | rfl
  ·show min a b=a∨min a b=b; omega
  ·show max a b=a∨max a b=b; omega
omit hl in
theorem zgs {a b:Int} (h:1<(zaq a b).size):(zaq a b)[0]!<(zaq a b)[1]!:=by
 unfold zaq at *
 split at h
 ·simp at h
 ·rename_i hc; rw [if_neg hc]; show min a b<max a b; omega
structure Held (l:Lay) (σ:M) (w:Array Int) (i:Int) (h:Array Int):Prop where
 le:h.size≤w.size
 eq:∀ k,k<h.size→h[k]! =w[k]!
 lk:∀ k,k<h.size→lkF l σ h[k]! =i
structure TInv (l:Lay) (σ:M) (par rt:Int→Int) (t:TakeS):Prop where
 uv:(0≤t.u∧t.u<l.V)∧0≤t.v∧t.v<l.V
 th:1≤t.thread∧t.thread≤l.T
 at_:0≤t.at_∧t.at_≤4
 held:Held l σ (zaq (rt (l.vertex 0 t.u)) (rt (l.vertex 0 t.v))) t.thread t.held
 h0:t.at_=0→t.held.size=0
 h1:t.at_=1→t.held.size<(zaq (rt (l.vertex 0 t.u)) (rt (l.vertex 0 t.v))).size∧t.want=zaq (rt (l.vertex 0 t.u)) (rt (l.vertex 0 t.v))∧t.which=0∧t.climb=zbd l t.u
 h2:t.at_=2∨t.at_=4→t.held=zaq (rt (l.vertex 0 t.u)) (rt (l.vertex 0 t.v))∧t.want=zaq (rt (l.vertex 0 t.u)) (rt (l.vertex 0 t.v))
 h3:t.at_=3→0<t.held.size
 cl:t.at_=0∨t.at_=2→(t.which=0∧CGo l σ par rt (rt (l.vertex 0 t.u)) t.climb)∨(t.which=1∧t.f0=rt (l.vertex 0 t.u)∧CGo l σ par rt (rt (l.vertex 0 t.v)) t.climb)
 tr:0≤t.tries∧t.tries≤1000000
noncomputable def trem (l:Lay) (par rt:Int→Int) (t:TakeS):Nat:=crem l par rt t.climb+if t.which=0 then 2 * upH l par rt (l.vertex 0 t.v)+2 else 0
theorem zc3 (hS:SeenF l σ par rt) {v:Int} (hv:0≤v∧v<l.V):V0 l (rt (l.vertex 0 v)):=(hS.rt_v0 hl (zbv hl (σ:=σ) hv).2).1
theorem TInv.climbs (hS:SeenF l σ par rt) {t:TakeS} (h:TInv l σ par rt t) (ha:t.at_=0∨t.at_=2) :
  (∃ c w f,t.climbs l σ=({ t with climb:=c,which:=w,f0:=f },false)∧TInv l σ par rt { t with climb:=c,which:=w,f0:=f }∧trem l par rt { t with climb:=c,which:=w,f0:=f }+1≤trem l par rt t) ∨
  t.climbs l σ=({ t with climb:=zbd l t.u,f1:=rt (l.vertex 0 t.v),which:=0 },true)∧t.f0=rt (l.vertex 0 t.u):=by
 have hv:=CGo.start hl hS h.uv.2
 unfold TakeS.climbs
 dsimp only
 rcases h.cl ha with ⟨w0,hg⟩ | ⟨w1,f0,hg⟩
 ·rcases CGo.stp hl hS hg with ⟨g1,g2,g3⟩ | ⟨g1,g2,g3⟩
  ·rw [if_pos g1]
   refine .inl ⟨t.climb.stp l σ,t.which,t.f0,rfl,⟨h.uv,h.th,h.at_,h.held,h.h0,fun h1=>by have h1:t.at_=1:=h1; omega,h.h2,h.h3,fun _=>.inl ⟨w0,g2⟩,h.tr⟩,?_⟩
   unfold trem; dsimp only; omega
  ·rw [if_neg (by rw [g1]; decide),if_pos w0]
   refine .inl ⟨zbd l t.v,1,(t.climb.stp l σ).root,rfl,⟨h.uv,h.th,h.at_,h.held,h.h0,fun h1=>by have h1:t.at_=1:=h1; omega,h.h2,h.h3,fun _=>.inr ⟨rfl,?_,hv.1⟩,h.tr⟩,?_⟩
   ·show (t.climb.stp l σ).root=_
    unfold ClimbS.root; rw [if_pos g1,g2]
   ·unfold trem; dsimp only; rw [if_neg (by decide),if_pos w0,hv.2]; have:=zfD (l:=l) (par:=par) (rt:=rt) (c:=t.climb); omega
 ·rcases CGo.stp hl hS hg with ⟨g1,g2,g3⟩ | ⟨g1,g2,g3⟩
  ·rw [if_pos g1]
   refine .inl ⟨t.climb.stp l σ,t.which,t.f0,rfl,⟨h.uv,h.th,h.at_,h.held,h.h0,fun h1=>by have h1:t.at_=1:=h1; omega,h.h2,h.h3,fun _=>.inr ⟨w1,f0,g2⟩,h.tr⟩,?_⟩
   unfold trem; dsimp only; omega
  ·rw [if_neg (by rw [g1]; decide),if_neg (by omega)]
   refine .inr ⟨?_,f0⟩
   unfold ClimbS.root; rw [if_pos g1,g2]
theorem TInv.begin (hS:SeenF l σ par rt) {t:TakeS} (uv:(0≤t.u∧t.u<l.V)∧0≤t.v∧t.v<l.V) (th:1≤t.thread∧t.thread≤l.T) (h0:t.held.size=0) (tr:0≤t.tries∧t.tries≤999999):TInv l σ par rt (t.begin l):=by
 have e:IntKind.i64.wrap (t.tries+1)=t.tries+1:=za1 (by omega)
 unfold TakeS.begin
 rw [e]
 exact ⟨uv,th,by show (0:Int)≤0∧(0:Int)≤4; decide,⟨by show t.held.size≤_; omega,fun k hk=>by have hk:k<t.held.size:=hk; omega,fun k hk=>by have hk:k<t.held.size:=hk; omega⟩,fun _=>h0,fun h=>(by cases h),fun h=>(by rcases h with h | h<;>cases h),fun h=>(by cases h),fun _=>.inl ⟨rfl,(CGo.start hl hS uv.1).1⟩,by show 0≤t.tries+1∧t.tries+1≤1000000; omega⟩
theorem TInv.take0 (hS:SeenF l σ par rt) {u v i:Int} (hu:0≤u∧u<l.V) (hv:0≤v∧v<l.V) (hi:1≤i∧i≤l.T):TInv l σ par rt (take0 l u v i):=TInv.begin hl hS (t:=⟨u,v,i,0,0,zbd l u,0,0,#[],#[],0⟩) ⟨hu,hv⟩ hi rfl (by show (0:Int)≤0∧(0:Int)≤999999; decide)
abbrev stL (l:Lay) (σ:M) (x v:Int):M:=st σ (l.field x 0) v
theorem zh2 (hz:σ.size=l.cells) {x v:Int} (hx:l.nd x) (hv:0≤v∧v<18446744073709551616) {y:Int} (hy:l.nd y):lkF l (stL l σ x v) y=if y=x then v else lkF l σ y:=by
 unfold lkF stL gf
 rw [za4 hl hz hx (by decide) hv]
 by_cases h:y=x
 ·rw [if_pos (by rw [h]),if_pos h]
 ·rw [if_neg fun e=>h ((zan hl hy (by decide) hx (by decide)).1 e).1,if_neg h]
theorem zdy {x v:Int} (hx:l.nd x):Alike l σ (stL l σ x v) :=
 ⟨fun y f hy hf=>zaB fun e=>by have:=(zan hl hy.1 (by omega) hx (by decide)).1 e; omega,fun t ht=>zaB fun e=>by
  have:=zaS hl hx (f:=0) (by decide); have hb:=zce hl; have hh:l.heads=l.T+1+l.S * 7:=rfl
  rw [zcu hl ht] at e; omega⟩
theorem TInv.other {t:TakeS} (h:TInv l σ par rt t) (hz:σ.size=l.cells) (hS:SeenF l σ par rt) {x v:Int} (hx:l.nd x) (hv:0≤v∧v<18446744073709551616) (hn:lkF l σ x≠t.thread):TInv l (stL l σ x v) par rt t:=by
 have hA:=zdy hl (σ:=σ) (v:=v) hx
 refine ⟨h.uv,h.th,h.at_,⟨h.held.le,h.held.eq,fun k hk=>?_⟩,h.h0,h.h1,h.h2,h.h3,fun ha=>?_,h.tr⟩
 ·have hk':=h.held.lk k hk
  have hm:=zbZ (show k<(zaq (rt (l.vertex 0 t.u)) (rt (l.vertex 0 t.v))).size by have:=h.held.le; omega)
  rw [←h.held.eq k hk] at hm
  have hnd:l.nd t.held[k]!:=by rcases hm with e | e<;>rw [e]; exact (zc3 hl hS h.uv.1).1; exact (zc3 hl hS h.uv.2).1
  rw [zh2 hl hz hx hv hnd,if_neg (fun e=>hn (by rw [←e]; exact hk'))]
  exact hk'
 ·rcases h.cl ha with ⟨w,hg⟩ | ⟨w,f,hg⟩
  ·exact .inl ⟨w,hA.cgo hS hg⟩
  ·exact .inr ⟨w,f,hA.cgo hS hg⟩
theorem TInv.step0 (hS:SeenF l σ par rt) {t:TakeS} (h:TInv l σ par rt t) (ha:t.at_=0):∃ t',t.stp l σ=(t',σ)∧TInv l σ par rt t'∧t'.thread=t.thread∧t'.u=t.u∧t'.v=t.v∧t'.held=t.held∧t'.tries=t.tries∧((t'.at_=0∧trem l par rt t'+1≤trem l par rt t)∨t'.at_=1):=by
 unfold TakeS.stp
 rw [if_pos ha]
 dsimp only
 rcases h.climbs hl hS (.inl ha) with ⟨c,w,f,e,hI,hr⟩ | ⟨e,hf⟩
 ·rw [e]
  exact ⟨_,rfl,hI,rfl,rfl,rfl,rfl,rfl,.inl ⟨ha,hr⟩⟩
 ·rw [e]
  refine ⟨_,rfl,⟨h.uv,h.th,by show (0:Int)≤1∧(1:Int)≤4; decide,h.held,fun h=>(by cases h),fun _=>⟨?_,?_,rfl,rfl⟩,fun h=>(by rcases h with h | h<;>cases h),fun h=>(by cases h),fun h=>(by rcases h with h | h<;>cases h),h.tr⟩,rfl,rfl,rfl,rfl,rfl,.inr rfl⟩
  ·show t.held.size<(zaq (rt (l.vertex 0 t.u)) (rt (l.vertex 0 t.v))).size
   rw [h.h0 ha,zdK]; split<;>omega
  ·show zaq t.f0 (rt (l.vertex 0 t.v))=zaq (rt (l.vertex 0 t.u)) (rt (l.vertex 0 t.v))
   rw [hf]
theorem TInv.step1 (hS : SeenF l σ par rt) (hz : σ.size = l.cells) {t : TakeS} (h : TInv l σ par rt t) (ha : t.at_ = 1) (htr : t.tries ≤ 999999) :
    ∃ x, x = (zaq (rt (l.vertex 0 t.u)) (rt (l.vertex 0 t.v)))[t.held.size]! ∧ V0 l x ∧ rt x = x ∧
      ((lkF l σ x = 0 ∧ ∃ t', t.stp l σ = (t', stL l σ x t.thread) ∧ TInv l (stL l σ x t.thread) par rt t' ∧ t'.thread = t.thread ∧ t'.u = t.u ∧ t'.v = t.v ∧ t'.held = t.held ++ #[x] ∧ t'.tries = t.tries ∧ t'.climb = zbd l t.u ∧ t'.which = 0 ∧ t'.at_ = if t.held.size + 1 = (zaq (rt (l.vertex 0 t.u)) (rt (l.vertex 0 t.v))).size then 2 else 1) ∨
       (lkF l σ x ≠ 0 ∧ ∃ t', t.stp l σ = (t', σ) ∧ TInv l σ par rt t' ∧ t'.thread = t.thread ∧ t'.u = t.u ∧ t'.v = t.v ∧ t'.held = t.held ∧ t'.tries ≤ t.tries + 1 ∧ ((t.held.size = 0 ∧ t'.at_ = 0) ∨ (t.held.size ≠ 0 ∧ t'.at_ = 3)))) := by
  obtain ⟨h1, h2, h3, h4⟩ := h.h1 ha
  obtain ⟨w, hw⟩ : ∃ w, zaq (rt (l.vertex 0 t.u)) (rt (l.vertex 0 t.v)) = w := ⟨_, rfl⟩
  have hm := zbZ h1
  have hcl := h.held
  have hs2 : w.size ≤ 2 := by rw [← hw, zdK]; split <;> omega
  rw [hw] at h1 h2 hm hcl
  have hxv : V0 l w[t.held.size]! ∧ rt w[t.held.size]! = w[t.held.size]! := by
    have hA := zbv hl (σ := σ) h.uv.1; have hB := zbv hl (σ := σ) h.uv.2
    rcases hm with e | e <;> rw [e]
    · exact ⟨(hS.rt_v0 hl hA.2).1, (hS.rt_v0 hl hA.2).2.2⟩
    · exact ⟨(hS.rt_v0 hl hB.2).1, (hS.rt_v0 hl hB.2).2.2⟩
  have hT : (l.T : Int) ≤ 8 := by have := hl.2.2.2.2; omega
  have hth := h.th
  have hfb := zaS hl hxv.1.1 (f := 0) (by decide)
  refine ⟨w[t.held.size]!, by rw [hw], hxv.1, hxv.2, ?_⟩
  unfold TakeS.stp
  rw [if_neg (by omega), if_pos ha]
  dsimp only
  rw [h2]
  by_cases h0 : lkF l σ w[t.held.size]! = 0
  · rw [if_pos ⟨h0, hfb.2.1⟩]
    left
    have hA := zdy hl (σ := σ) (v := t.thread) hxv.1.1
    have hsz : (t.held ++ #[w[t.held.size]!]).size = t.held.size + 1 := by simp
    refine ⟨h0, _, rfl, ⟨h.uv, h.th, by dsimp only; split <;> decide, ?_, ?_, ?_, ?_, ?_, ?_, h.tr⟩, rfl, rfl, rfl, rfl, rfl, h4, h3, by dsimp only; rw [hsz, hw]⟩
    · show Held l (stL l σ w[t.held.size]! t.thread) (zaq _ _) t.thread (t.held ++ #[w[t.held.size]!])
      rw [hw]
      refine ⟨by rw [hsz]; omega, fun k hk => ?_, fun k hk => ?_⟩
      · by_cases hk' : k < t.held.size
        · rw [get!_app hk']; exact hcl.eq k hk'
        · obtain rfl : k = t.held.size := by omega
          simp
      · by_cases hk' : k < t.held.size
        · rw [get!_app hk']
          have hl1 := hcl.lk k hk'
          have hnd : l.nd t.held[k]! := by
            have hm2 := zbZ (show k < (zaq (rt (l.vertex 0 t.u)) (rt (l.vertex 0 t.v))).size by rw [hw]; omega)
            rw [hw, ← hcl.eq k hk'] at hm2
            rcases hm2 with e | e <;> rw [e]
            · exact (zc3 hl hS h.uv.1).1
            · exact (zc3 hl hS h.uv.2).1
          rw [zh2 hl hz hxv.1.1 (by omega) hnd]
          split
          · rfl
          · exact hl1
        · obtain rfl : k = t.held.size := by omega
          have : (t.held ++ #[w[t.held.size]!])[t.held.size]! = w[t.held.size]! := by simp
          rw [this, zh2 hl hz hxv.1.1 (by omega) hxv.1.1, if_pos rfl]
    · dsimp only
      intro hh; split at hh <;> cases hh
    · dsimp only
      intro hh
      split at hh
      · cases hh
      · next hne =>
        rw [hsz] at hne ⊢
        rw [hw]; exact ⟨by omega, rfl, h3, h4⟩
    · dsimp only
      intro hh
      split at hh
      · next he =>
        rw [hw]
        refine ⟨?_, rfl⟩
        refine Array.ext he fun k hk1 hk2 => ?_
        by_cases hk' : k < t.held.size
        · have := hcl.eq k hk'
          rw [Array.getElem_append_left hk']
          rw [getElem!_pos t.held k hk', getElem!_pos w k hk2] at this; exact this
        · have : k = t.held.size := by rw [hsz] at hk1; omega
          subst this
          rw [Array.getElem_append_right (Nat.le_refl _)]; simp [getElem!_pos w t.held.size hk2]
      · rcases hh with hh | hh <;> cases hh
    · dsimp only
      intro hh; split at hh <;> cases hh
    · dsimp only
      intro hh
      refine .inl ⟨h3, ?_⟩
      show CGo l (stL l σ w[t.held.size]! t.thread) par rt (rt (l.vertex 0 t.u)) t.climb
      rw [h4]; exact hA.cgo hS (CGo.start hl hS h.uv.1).1
  · rw [if_neg fun c => h0 c.1]
    right
    unfold TakeS.leave
    by_cases hh : t.held.size = 0
    · rw [if_pos hh]
      have hB := TInv.begin hl hS (t := { t with at_ := 3 }) h.uv h.th hh ⟨h.tr.1, htr⟩
      refine ⟨h0, _, rfl, hB, rfl, rfl, rfl, rfl, ?_, .inl ⟨hh, rfl⟩⟩
      show IntKind.i64.wrap (t.tries + 1) ≤ _
      have := h.tr
      rw [za1 (by omega)]; omega
    · rw [if_neg hh]
      refine ⟨h0, _, rfl, ⟨h.uv, h.th, by show (0 : Int) ≤ 3 ∧ (3 : Int) ≤ 4; decide, h.held, fun h => (by cases h), fun h => (by cases h), fun h => (by rcases h with h | h <;> cases h), fun _ => by show 0 < t.held.size; omega, fun h => (by rcases h with h | h <;> cases h), h.tr⟩, rfl, rfl, rfl, rfl, by show t.tries ≤ _; omega, .inr ⟨hh, rfl⟩⟩
theorem TInv.step2 (hS:SeenF l σ par rt) {t:TakeS} (h:TInv l σ par rt t) (ha:t.at_=2):∃ t',t.stp l σ=(t',σ)∧TInv l σ par rt t'∧t'.thread=t.thread∧t'.u=t.u∧t'.v=t.v∧t'.held=t.held∧t'.tries=t.tries∧((t'.at_=2∧trem l par rt t'+1≤trem l par rt t)∨t'.at_=4):=by
 unfold TakeS.stp
 rw [if_neg (by omega),if_neg (by omega),if_pos ha]
 dsimp only
 rcases h.climbs hl hS (.inr ha) with ⟨c,w,f,e,hI,hr⟩ | ⟨e,hf⟩
 ·rw [e]
  exact ⟨_,rfl,hI,rfl,rfl,rfl,rfl,rfl,.inl ⟨ha,hr⟩⟩
 ·rw [e]
  have hw:=h.h2 (.inl ha)
  dsimp only
  rw [if_pos rfl,hf,if_pos hw.2.symm]
  exact ⟨_,rfl,⟨h.uv,h.th,by show (0:Int)≤4∧(4:Int)≤4; decide,h.held,fun h=>(by cases h),fun h=>(by cases h),fun _=>hw,fun h=>(by cases h),fun h=>(by rcases h with h | h<;>cases h),h.tr⟩,rfl,rfl,rfl,rfl,rfl,.inr rfl⟩
theorem TInv.step3 (hS:SeenF l σ par rt) (hz:σ.size=l.cells) {t:TakeS} (h:TInv l σ par rt t) (ha:t.at_=3) (htr:t.tries≤999999) :
  ∃ x t',x=t.held[t.held.size - 1]!∧V0 l x∧rt x=x∧lkF l σ x=t.thread∧t.stp l σ=(t',stL l σ x 0)∧TInv l (stL l σ x 0) par rt t'∧t'.thread=t.thread∧t'.u=t.u∧t'.v=t.v∧t'.held=t.held.extract 0 (t.held.size - 1)∧t'.tries≤t.tries+1∧(t'.held.size=0∧t'.at_=0∨t'.held.size≠0∧t'.at_=3):=by
 have h3:=h.h3 ha
 obtain ⟨w,hw⟩:∃ w,zaq (rt (l.vertex 0 t.u)) (rt (l.vertex 0 t.v))=w:=⟨_,rfl⟩
 have hcl:=h.held
 have hnd:∀ k,k<t.held.size→V0 l t.held[k]!∧rt t.held[k]! =t.held[k]!:=fun k hk=>by
  have hm2:=zbZ (show k<(zaq (rt (l.vertex 0 t.u)) (rt (l.vertex 0 t.v))).size by have:=hcl.le; omega)
  have hA:=zbv hl (σ:=σ) h.uv.1; have hB:=zbv hl (σ:=σ) h.uv.2
  rw [←hcl.eq k hk] at hm2
  rcases hm2 with e | e<;>rw [e]
  ·exact ⟨(hS.rt_v0 hl hA.2).1,(hS.rt_v0 hl hA.2).2.2⟩
  ·exact ⟨(hS.rt_v0 hl hB.2).1,(hS.rt_v0 hl hB.2).2.2⟩
 obtain ⟨x,hx⟩:∃ x,t.held[t.held.size - 1]! =x:=⟨_,rfl⟩
 have hxv:=hnd (t.held.size - 1) (by omega)
 have hxl:=hcl.lk (t.held.size - 1) (by omega)
 rw [hx] at hxv hxl
 have hA:=zdy hl (σ:=σ) (v:=0) hxv.1.1
 have hes:(t.held.extract 0 (t.held.size - 1)).size=t.held.size - 1:=by simp
 have heg:∀ k,k<t.held.size - 1→(t.held.extract 0 (t.held.size - 1))[k]! =t.held[k]!:=fun k hk=>by
  rw [getElem!_pos _ k (by rw [hes]; exact hk),getElem!_pos t.held k (by omega)]; simp
 have hdis:∀ k,k<t.held.size - 1→t.held[k]!≠x:=fun k hk e=>by
  rw [←hx,hcl.eq k (by omega),hcl.eq (t.held.size - 1) (by omega)] at e
  have h2:(zaq (rt (l.vertex 0 t.u)) (rt (l.vertex 0 t.v))).size≤2:=by rw [zdK]; split<;>omega
  have hle:=hcl.le
  have hlt:=zgs (a:=rt (l.vertex 0 t.u)) (b:=rt (l.vertex 0 t.v)) (by omega)
  have:k=0:=by omega
  subst this
  rw [show t.held.size - 1=1 by omega] at e
  omega
 have hH:Held l (stL l σ x 0) (zaq (rt (l.vertex 0 t.u)) (rt (l.vertex 0 t.v))) t.thread (t.held.extract 0 (t.held.size - 1)):=by
  refine ⟨by rw [hes]; have:=hcl.le; omega,fun k hk=>by rw [hes] at hk; rw [heg k hk]; exact hcl.eq k (by omega),fun k hk=>?_⟩
  rw [hes] at hk
  rw [heg k hk,zh2 hl hz hxv.1.1 (by decide) (hnd k (by omega)).1.1,if_neg (hdis k hk)]
  exact hcl.lk k (by omega)
 unfold TakeS.stp
 rw [if_neg (by omega),if_neg (by omega),if_neg (by omega),if_pos ha]
 dsimp only
 rw [hx]
 by_cases hh:(t.held.extract 0 (t.held.size - 1)).size=0
 ·rw [if_pos hh]
  have hB:=TInv.begin hl (hA.seen hS) (t:={ t with held:=t.held.extract 0 (t.held.size - 1) }) h.uv h.th hh ⟨h.tr.1,htr⟩
  refine ⟨x,_,rfl,hxv.1,hxv.2,hxl,rfl,hB,rfl,rfl,rfl,rfl,?_,.inl ⟨hh,rfl⟩⟩
  show IntKind.i64.wrap (t.tries+1)≤_
  have:=h.tr
  rw [za1 (by omega)]; omega
 ·rw [if_neg hh]
  exact ⟨x,_,rfl,hxv.1,hxv.2,hxl,rfl,⟨h.uv,h.th,h.at_,hH,fun h=>by have h:t.at_=0:=h; omega,fun h=>by have h:t.at_=1:=h; omega,fun h=>by have h:t.at_=2∨t.at_=4:=h; omega,fun _=>by show 0<(t.held.extract 0 (t.held.size - 1)).size; omega,fun h=>by have h:t.at_=0∨t.at_=2:=h; omega,h.tr⟩,rfl,rfl,rfl,rfl,by show t.tries≤_; omega,.inr ⟨hh,ha⟩⟩
theorem TInv.step4 {t:TakeS} (ha:t.at_=4):t.stp l σ=(t,σ):=by
 unfold TakeS.stp
 rw [if_neg (by omega),if_neg (by omega),if_neg (by omega),if_neg (by omega)]
end
end Go.Tm
namespace Go.Tm
open MemLike Eng
set_option linter.unusedSectionVars false
set_option linter.unusedVariables false
section
variable {l:Lay} (hl:l.Ok) {σ σ':M} {par rt:Int→Int}
def zcN (l:Lay) (rt:Int→Int) (t:TakeS):Array Int:=zaq (rt (l.vertex 0 t.u)) (rt (l.vertex 0 t.v))
def fstT (l:Lay) (rt:Int→Int) (t:TakeS):Int:=(zcN l rt t)[0]!
structure GL (l:Lay) (σ:M) (par rt:Int→Int) (n:Nat) (ts:Nat→TakeS) (ov:Nat→Bool):Prop where
 size:σ.size=l.cells
 seen:SeenF l σ par rt
 ti:∀ i,i<n→TInv l σ par rt (ts i)
 th:∀ i,i<n→(ts i).thread=(i:Int)+1
 sh:∀ i,i<n→ov i=false→(ts i).at_=3→(ts i).held.size<(zcN l rt (ts i)).size
 lk:∀ v:Int,0≤v∧v<l.V→lkF l σ (rt (l.vertex 0 v))=0∨∃ i k,i<n∧ov i=false∧k<(ts i).held.size∧(ts i).held[k]! =rt (l.vertex 0 v)
 hn:n≤l.T
def zcO (r p i:Nat):Nat:=r+if i<p then 1 else 0
def Q1 (l:Lay) (par rt:Int→Int) (n r p K:Nat) (ts:Nat→TakeS) (ov:Nat→Bool):Prop:=∃ i,i<n∧ov i=false∧(ts i).at_=2∧trem l par rt (ts i)+zcO r p i≤K
structure Q2 (l:Lay) (par rt:Int→Int) (n r p K:Nat) (m:Int) (ts:Nat→TakeS) (ov:Nat→Bool):Prop where
 mx:∀ j,j<n→ov j=false→fstT l rt (ts j)≤m
 lv:∀ j,j<n→ov j=false→fstT l rt (ts j)=m→(ts j).at_=3→zcO r p j=0
 no:∀ j,j<n→ov j=false→(ts j).at_≠2∧(ts j).at_≠4
 wt:∃ a,a<n∧ov a=false∧fstT l rt (ts a)=m∧(((ts a).at_=1∧(ts a).held.size=1∧zcO r p a≤K+2)∨((ts a).at_=1∧(ts a).held.size=0∧zcO r p a≤K+1)∨((ts a).at_=0∧trem l par rt (ts a)+zcO r p a≤K)∨((ts a).at_=3∧zcO r p a=0))
theorem zjw (hl:l.Ok) (hS:SeenF l σ par rt) {t:TakeS} (h:TInv l σ par rt t) (ha:t.at_=0∨t.at_=2):(trem l par rt t:Int)≤4 * l.nodes+4:=by
 have hv:=(zbv hl (σ:=σ) h.uv.2).2
 have:=(hS.upH hl hv).1
 unfold trem
 rcases h.cl ha with ⟨w,hg⟩ | ⟨w,f,hg⟩
 ·rw [if_pos w]; have:=hg.bd; omega
 ·rw [if_neg (by omega)]; have:=hg.bd; omega
def setT (ts:Nat→TakeS) (i:Nat) (t:TakeS):Nat→TakeS:=fun j=>if j=i then t else ts j
theorem zar {ts:Nat→TakeS} {i:Nat} {t:TakeS}:setT ts i t i=t:=if_pos rfl
theorem zaG {ts:Nat→TakeS} {i j:Nat} {t:TakeS} (h:j≠i):setT ts i t j=ts j:=if_neg h
theorem zgR {t t':TakeS} (hu:t'.u=t.u) (hv:t'.v=t.v):zcN l rt t'=zcN l rt t:=by unfold zcN; rw [hu,hv]
theorem zng {t t':TakeS} (hu:t'.u=t.u) (hv:t'.v=t.v):fstT l rt t'=fstT l rt t:=by unfold fstT; rw [zgR hu hv]
include hl
theorem zhn (hS:SeenF l σ par rt) {t:TakeS} (h:TInv l σ par rt t) {k:Nat} (hk:k<t.held.size):∃ v:Int,(0≤v∧v<l.V)∧t.held[k]! =rt (l.vertex 0 v):=by
 have hm:=zbZ (show k<(zaq (rt (l.vertex 0 t.u)) (rt (l.vertex 0 t.v))).size by have:=h.held.le; omega)
 rw [←h.held.eq k hk] at hm
 rcases hm with e | e
 ·exact ⟨t.u,h.uv.1,e⟩
 ·exact ⟨t.v,h.uv.2,e⟩
theorem GL.step {n:Nat} {ts:Nat→TakeS} {ov:Nat→Bool} (h:GL l σ par rt n ts ov) {i:Nat} (hi:i<n) (ho:ov i=false) (htr:(ts i).tries≤999999) :
  ∃ t' σ',(ts i).stp l σ=(t',σ')∧GL l σ' par rt n (setT ts i t') ov∧t'.u=(ts i).u∧t'.v=(ts i).v∧t'.tries≤(ts i).tries+1∧Alike l σ σ' ∧
   ((ts i).at_=0→(t'.at_=0∧trem l par rt t'+1≤trem l par rt (ts i))∨(t'.at_=1∧t'.held.size=0)) ∧
   ((ts i).at_=1→(lkF l σ (zcN l rt (ts i))[(ts i).held.size]! =0∧t'.held.size=(ts i).held.size+1∧t'.at_=(if (ts i).held.size+1=(zcN l rt (ts i)).size then 2 else 1)) ∨
    (lkF l σ (zcN l rt (ts i))[(ts i).held.size]!≠0∧(((ts i).held.size=0∧t'.at_=0)∨((ts i).held.size≠0∧t'.at_=3)))) ∧
   ((ts i).at_=2→(t'.at_=2∧trem l par rt t'+1≤trem l par rt (ts i))∨t'.at_=4) ∧
   ((ts i).at_=3→t'.at_=0)∧((ts i).at_=4→t'=ts i):=by
 have hT:=h.ti i hi
 have hthi:=h.th i hi
 have hn8:(l.T:Int)≤8:=by have:=hl.2.2.2.2; omega
 have same:∀ {t':TakeS},TInv l σ par rt t'→t'.thread=(ts i).thread→t'.held=(ts i).held→(t'.at_=3→t'.held.size<(zcN l rt t').size)→GL l σ par rt n (setT ts i t') ov:=fun {t'} h1 h2 h3 h4=>by
  refine ⟨h.size,h.seen,fun j hj=>?_,fun j hj=>?_,fun j hj=>?_,fun v hv=>?_,h.hn⟩
  ·by_cases e:j=i
   ·subst e; rw [zar]; exact h1
   ·rw [zaG e]; exact h.ti j hj
  ·by_cases e:j=i
   ·subst e; rw [zar,h2]; exact hthi
   ·rw [zaG e]; exact h.th j hj
  ·by_cases e:j=i
   ·subst e; rw [zar]; exact fun _=>h4
   ·rw [zaG e]; exact h.sh j hj
  ·rcases h.lk v hv with h0 | ⟨j,k,q1,q2,q3,q4⟩
   ·exact .inl h0
   ·refine .inr ⟨j,k,q1,q2,?_⟩
    by_cases e:j=i
    ·subst e; rw [zar,h3]; exact ⟨q3,q4⟩
    ·rw [zaG e]; exact ⟨q3,q4⟩
 have stor:∀ {t':TakeS} {x v:Int},V0 l x→(lkF l σ x=0∨lkF l σ x=(ts i).thread)→(0≤v∧v<18446744073709551616)→TInv l (stL l σ x v) par rt t'→t'.thread=(ts i).thread→(t'.at_=3→t'.held.size<(zcN l rt t').size) →
   (∀ k,k<(ts i).held.size→(ts i).held[k]!≠x→∃ k',k'<t'.held.size∧t'.held[k']! =(ts i).held[k]!)→(v=0∨∃ k',k'<t'.held.size∧t'.held[k']! =x)→GL l (stL l σ x v) par rt n (setT ts i t') ov:=fun {t' x v} hx hlk hv h1 h2 h3 h4 h5=>by
  have hA:=zdy hl (σ:=σ) (v:=v) hx.1
  refine ⟨by rw [zaz]; exact h.size,hA.seen h.seen,fun j hj=>?_,fun j hj=>?_,fun j hj=>?_,fun u hu=>?_,h.hn⟩
  ·by_cases e:j=i
   ·subst e; rw [zar]; exact h1
   ·rw [zaG e]
    refine (h.ti j hj).other hl h.size h.seen hx.1 hv ?_
    have:=h.th j hj
    rcases hlk with hlk | hlk<;>rw [hlk]<;>omega
  ·by_cases e:j=i
   ·subst e; rw [zar,h2]; exact hthi
   ·rw [zaG e]; exact h.th j hj
  ·by_cases e:j=i
   ·subst e; rw [zar]; exact fun _=>h3
   ·rw [zaG e]; exact h.sh j hj
  ·have hr:=zc3 hl h.seen hu
   rw [zh2 hl h.size hx.1 hv hr.1]
   by_cases e:rt (l.vertex 0 u)=x
   ·rw [if_pos e]
    rcases h5 with h5 | ⟨k',k1,k2⟩
    ·exact .inl h5
    ·exact .inr ⟨i,k',hi,ho,by rw [zar]; exact k1,by rw [zar,k2,e]⟩
   ·rw [if_neg e]
    rcases h.lk u hu with h0 | ⟨j,k,q1,q2,q3,q4⟩
    ·exact .inl h0
    ·refine .inr ?_
     by_cases ej:j=i
     ·subst ej
      obtain ⟨k',k1,k2⟩:=h4 k q3 (by rw [q4]; exact e)
      exact ⟨j,k',q1,q2,by rw [zar]; exact k1,by rw [zar,k2,q4]⟩
     ·exact ⟨j,k,q1,q2,by rw [zaG ej]; exact q3,by rw [zaG ej]; exact q4⟩
 have hat:=hT.at_
 have cases5:(ts i).at_=0∨(ts i).at_=1∨(ts i).at_=2∨(ts i).at_=3∨(ts i).at_=4:=by omega
 rcases cases5 with ha | ha | ha | ha | ha
 ·obtain ⟨t',e,h1,h2,h3,h4,h5,h6,h7⟩:=hT.step0 hl h.seen ha
  refine ⟨t',σ,e,same h1 h2 h5 (fun h=>by omega),h3,h4,by omega,Alike.refl,fun _=>?_,fun h=>by omega,fun h=>by omega,fun h=>by omega,fun h=>by omega⟩
  rcases h7 with h7 | h7
  ·exact .inl h7
  ·exact .inr ⟨h7,by rw [h5]; exact hT.h0 ha⟩
 ·obtain ⟨x,hx,hxv,hxr,hc⟩:=hT.step1 hl h.seen h.size ha htr
  have hT1:=hT.h1 ha
  rcases hc with ⟨h0,t',e,h1,h2,h3,h4,h5,h6,_,_,h7⟩ | ⟨h0,t',e,h1,h2,h3,h4,h5,h6,h7⟩
  ·refine ⟨t',_,e,stor hxv (.inl h0) (by rw [hthi]; have:=h.hn; omega) h1 h2 (fun h=>by rw [h7] at h; split at h<;>cases h) (fun k hk hne=>⟨k,by rw [h5]; simp; omega,by rw [h5,get!_app hk]⟩) (.inr ⟨(ts i).held.size,by rw [h5]; simp,by rw [h5]; simp⟩),h3,h4,by omega,zdy hl hxv.1,fun h=>by omega,fun _=>.inl ⟨by show lkF l σ (zaq _ _)[_]! =0; rw [←hx]; exact h0,by rw [h5]; simp,h7⟩,fun h=>by omega,fun h=>by omega,fun h=>by omega⟩
  ·refine ⟨t',σ,e,same h1 h2 h5 (fun h3'=>?_),h3,h4,h6,Alike.refl,fun h=>by omega,fun _=>.inr ⟨by show lkF l σ (zaq _ _)[_]!≠0; rw [←hx]; exact h0,h7⟩,fun h=>by omega,fun h=>by omega,fun h=>by omega⟩
   rw [zgR h3 h4,h5]
   exact hT1.1
 ·obtain ⟨t',e,h1,h2,h3,h4,h5,h6,h7⟩:=hT.step2 hl h.seen ha
  exact ⟨t',σ,e,same h1 h2 h5 (fun h=>by omega),h3,h4,by omega,Alike.refl,fun h=>by omega,fun h=>by omega,fun _=>h7,fun h=>by omega,fun h=>by omega⟩
 ·obtain ⟨x,t',hx,hxv,hxr,hxl,e,h1,h2,h3,h4,h5,h6,h7⟩:=hT.step3 hl h.seen h.size ha htr
  have hsh:=h.sh i hi ho ha
  have hs2:(zcN l rt (ts i)).size≤2:=by unfold zcN; rw [zdK]; split<;>omega
  have h30:=hT.h3 ha
  have hz:t'.held.size=0:=by rw [h5]; simp; omega
  have ha':t'.at_=0:=by rcases h7 with h7 | h7; exact h7.2; exact absurd hz h7.1
  exact ⟨t',_,e,stor hxv (.inr hxl) (by decide) h1 h2 (fun h=>by omega) (fun k hk hne=>absurd (by rw [hx]; congr 1; omega) hne) (.inl rfl),h3,h4,h6,zdy hl hxv.1,fun h=>by omega,fun h=>by omega,fun h=>by omega,fun _=>ha',fun h=>by omega⟩
 ·refine ⟨ts i,σ,TInv.step4 hl ha,?_,rfl,rfl,by omega,Alike.refl,fun h=>by omega,fun h=>by omega,fun h=>by omega,fun h=>by omega,fun _=>rfl⟩
  exact same hT rfl rfl (fun h=>by omega)
omit hl in
theorem zbc {r p i:Nat}:zcO r (p+1) i=if i=p then zcO r p i+1 else zcO r p i:=by
 unfold zcO; split<;>split<;>split<;>omega
theorem zod {n r p K:Nat} {m:Int} {ts:Nat→TakeS} {ov:Nat→Bool} (h:GL l σ par rt n ts ov) (hp:p<n) (hK:(4 * l.nodes+6).toNat≤K) (hQ:Q1 l par rt n r p (2 * K+5) ts ov∨Q2 l par rt n r p K m ts ov) (hov:ov p=false) {t':TakeS} {σ':M} (htr:(ts p).tries≤999999) (e:(ts p).stp l σ=(t',σ')) :
  t'.at_=4∨Q1 l par rt n r (p+1) (2 * K+5) (setT ts p t') ov∨Q2 l par rt n r (p+1) K m (setT ts p t') ov:=by
 obtain ⟨t2,σ2,e2,hG,hu,hv,_,_,c0,c1,c2,c3,c4⟩:=h.step hl hp hov htr
 obtain ⟨rfl,rfl⟩:=Prod.mk.inj (e.symm.trans e2)
 have hn:=zaD hl
 have hT:=h.ti p hp
 have hfst:=zng (l:=l) (rt:=rt) hu hv
 have hS:=h.seen
 rcases hQ with ⟨i,hi,ho,ha,hb⟩ | hQ
 ·by_cases e1:i=p
  ·subst e1
   rcases c2 ha with ⟨a1,a2⟩ | a1
   ·exact .inr (.inl ⟨i,hi,ho,by rw [zar]; exact a1,by rw [zar,zbc,if_pos rfl]; omega⟩)
   ·exact .inl a1
  ·exact .inr (.inl ⟨i,hi,ho,by rw [zaG e1]; exact ha,by rw [zaG e1,zbc,if_neg e1]; exact hb⟩)
 obtain ⟨mx,lv,no,a,ha,hoa,hfa,wt⟩:=hQ
 have hr:r≤K+2:=by
  have:r≤zcO r p a:=by unfold zcO; omega
  rcases wt with ⟨_,_,w⟩ | ⟨_,_,w⟩ | ⟨_,w⟩ | ⟨_,w⟩<;>omega
 have hsp:zcO r p p=r:=by unfold zcO; rw [if_neg (by omega)]; rfl
 obtain ⟨n2,n4⟩:=no p hp hov
 have mx':∀ j,j<n→ov j=false→fstT l rt (setT ts p t' j)≤m:=fun j hj ho=>by
  by_cases e1:j=p
  ·subst e1; rw [zar,hfst]; exact mx j hj ho
  ·rw [zaG e1]; exact mx j hj ho
 by_cases h2:t'.at_=2
 ·refine .inr (.inl ⟨p,hp,hov,by rw [zar]; exact h2,?_⟩)
  have:=zjw hl hG.seen (hG.ti p hp) (.inr (by rw [zar]; exact h2))
  rw [zar] at this ⊢
  rw [zbc,if_pos rfl,hsp]; omega
 by_cases h4:t'.at_=4
 ·exact .inl h4
 right; right
 have no':∀ j,j<n→ov j=false→(setT ts p t' j).at_≠2∧(setT ts p t' j).at_≠4:=fun j hj ho=>by
  by_cases e1:j=p
  ·subst e1; rw [zar]; exact ⟨h2,h4⟩
  ·rw [zaG e1]; exact no j hj ho
 have two:∀ t:TakeS,(zcN l rt t).size≤2∧1≤(zcN l rt t).size:=fun t=>by unfold zcN; rw [zdK]; split<;>omega
 have holder:∀ v:Int,0≤v∧v<l.V→lkF l σ (rt (l.vertex 0 v))≠0→∃ j,j<n∧ov j=false∧(ts j).held.size=1∧fstT l rt (ts j)=rt (l.vertex 0 v)∧((ts j).at_=1∨(ts j).at_=3):=fun v hv hne=>by
  rcases h.lk v hv with h0 | ⟨j,k,j1,j2,j3,j4⟩
  ·exact absurd h0 hne
  ·have hTj:=h.ti j j1
   obtain ⟨q2,q4⟩:=no j j1 j2
   have hat:=hTj.at_
   have h0j:=hTj.h0
   have tw:=two (ts j)
   have hsz:(ts j).held.size<(zcN l rt (ts j)).size:=by
    by_cases e3:(ts j).at_=3
    ·exact h.sh j j1 j2 e3
    ·have hz0:(ts j).at_≠0:=fun e=>by have:=h0j e; omega
     exact (hTj.h1 (by omega)).1
   have hk0:k=0:=by omega
   subst hk0
   have hz0:(ts j).at_≠0:=fun e=>by have:=h0j e; omega
   refine ⟨j,j1,j2,by omega,?_,by omega⟩
   unfold fstT zcN
   rw [←hTj.held.eq 0 (by omega),j4]
 have second:∀ i,i<n→ov i=false→fstT l rt (ts i)=m→(ts i).at_=1→(ts i).held.size=1→lkF l σ (zcN l rt (ts i))[(ts i).held.size]! =0:=fun i hi hoi hfi h1 hs=>by
  have hTi:=h.ti i hi
  obtain ⟨g1,_⟩:=hTi.h1 h1
  have hm:=zbZ g1
  refine Classical.byContradiction fun hne=>?_
  have hv:∃ v:Int,(0≤v∧v<l.V)∧(zcN l rt (ts i))[(ts i).held.size]! =rt (l.vertex 0 v):=by
   rcases hm with e1 | e1
   ·exact ⟨_,hTi.uv.1,e1⟩
   ·exact ⟨_,hTi.uv.2,e1⟩
  obtain ⟨v,hv,ev⟩:=hv
  rw [ev] at hne
  obtain ⟨j,j1,j2,_,j4,_⟩:=holder v hv hne
  have:=mx j j1 j2
  have hlt:=zgs (a:=rt (l.vertex 0 (ts i).u)) (b:=rt (l.vertex 0 (ts i).v)) (by rw [hs] at g1; exact g1)
  rw [hs] at ev
  have e5:fstT l rt (ts i)<(zcN l rt (ts i))[1]!:=hlt
  rw [ev,←j4] at e5
  omega
 have lv':∀ j,j<n→ov j=false→fstT l rt (setT ts p t' j)=m→(setT ts p t' j).at_=3→zcO r (p+1) j=0:=fun j hj ho hf h3=>by
  by_cases e1:j=p
  ·subst e1
   rw [zar] at h3 hf
   rw [hfst] at hf
   exfalso
   have hat:=hT.at_
   by_cases q0:(ts j).at_=0
   ·rcases c0 q0 with ⟨w,_⟩ | ⟨w,_⟩<;>omega
   ·by_cases q1:(ts j).at_=1
    ·rcases c1 q1 with ⟨_,_,w⟩ | ⟨w1,⟨_,w⟩ | ⟨w2,w⟩⟩
     ·rw [w] at h3; split at h3<;>cases h3
     ·omega
     ·have g1:=(hT.h1 q1).1
      have tw:=two (ts j)
      have hs1:(ts j).held.size=1:=by
       have:(ts j).held.size<(zcN l rt (ts j)).size:=g1
       omega
      exact w1 (second j hj ho hf q1 hs1)
    ·have q3:(ts j).at_=3:=by omega
     have:=c3 q3; omega
  ·rw [zaG e1] at hf h3
   rw [zbc,if_neg e1]; exact lv j hj ho hf h3
 refine ⟨mx',lv',no',?_⟩
 by_cases ea:a=p
 ·subst ea
  have hat:=hT.at_
  rcases wt with ⟨w1,w2,w3⟩ | ⟨w1,w2,w3⟩ | ⟨w1,w3⟩ | ⟨w1,w3⟩
  ·
   exfalso
   have hz:=second a ha hoa hfa w1 w2
   rcases c1 w1 with ⟨_,_,w⟩ | ⟨w,_⟩
   ·have tw:=two (ts a)
    have g1:(ts a).held.size<(zcN l rt (ts a)).size:=(hT.h1 w1).1
    rw [if_pos (by omega)] at w
    exact h2 w
   ·exact w hz
  ·
   rcases c1 w1 with ⟨_,q,w⟩ | ⟨w,q⟩
   ·refine ⟨a,ha,hoa,by rw [zar,hfst]; exact hfa,.inl ⟨?_,?_,?_⟩⟩
    ·rw [zar,w]
     by_cases hc:(ts a).held.size+1=(zcN l rt (ts a)).size
     ·rw [if_pos hc] at w; exact absurd w h2
     ·rw [if_neg hc]
    ·rw [zar,q,w2]
    ·rw [zbc,if_pos rfl]; omega
   ·have hv:∃ v:Int,(0≤v∧v<l.V)∧(zcN l rt (ts a))[(ts a).held.size]! =rt (l.vertex 0 v):=by
     rcases zbZ (hT.h1 w1).1 with e1 | e1
     ·exact ⟨_,hT.uv.1,e1⟩
     ·exact ⟨_,hT.uv.2,e1⟩
    obtain ⟨v,hv,ev⟩:=hv
    rw [ev] at w
    obtain ⟨j,j1,j2,j3,j4,j5⟩:=holder v hv w
    rw [w2] at ev
    have hfj:fstT l rt (ts j)=m:=by rw [j4,←ev]; exact hfa
    have hja:j≠a:=fun e1=>by subst e1; omega
    rcases j5 with j5 | j5
    ·refine ⟨j,j1,j2,by rw [zaG hja]; exact hfj,.inl ⟨by rw [zaG hja]; exact j5,by rw [zaG hja]; exact j3,?_⟩⟩
     rw [zbc,if_neg hja]
     have hle:zcO r a j≤r+1:=by unfold zcO; split<;>omega
     omega
    ·have hz:=lv j j1 j2 hfj j5
     have hr0:r=0:=by unfold zcO at hz; omega
     have h0':t'.at_=0:=by rcases q with ⟨_,q⟩ | ⟨q,_⟩; exact q; exact absurd w2 q
     refine ⟨a,ha,hoa,by rw [zar,hfst]; exact hfa,.inr (.inr (.inl ⟨by rw [zar]; exact h0',?_⟩))⟩
     have:=zjw hl hG.seen (hG.ti a ha) (.inl (by rw [zar]; exact h0'))
     rw [zar] at this ⊢
     rw [zbc,if_pos rfl,hsp]; omega
  ·rcases c0 w1 with ⟨q1,q2⟩ | ⟨q1,q2⟩
   ·exact ⟨a,ha,hoa,by rw [zar,hfst]; exact hfa,.inr (.inr (.inl ⟨by rw [zar]; exact q1,by rw [zar,zbc,if_pos rfl]; omega⟩))⟩
   ·exact ⟨a,ha,hoa,by rw [zar,hfst]; exact hfa,.inr (.inl ⟨by rw [zar]; exact q1,by rw [zar]; exact q2,by rw [zbc,if_pos rfl]; omega⟩)⟩
  ·have q:=c3 w1
   refine ⟨a,ha,hoa,by rw [zar,hfst]; exact hfa,.inr (.inr (.inl ⟨by rw [zar]; exact q,?_⟩))⟩
   have:=zjw hl hG.seen (hG.ti a ha) (.inl (by rw [zar]; exact q))
   rw [zar] at this ⊢
   rw [zbc,if_pos rfl]; omega
 ·exact ⟨a,ha,hoa,by rw [zaG ea]; exact hfa,by rw [zaG ea,zbc,if_neg ea]; exact wt⟩
theorem zm4 {n K:Nat} {ts:Nat→TakeS} {ov:Nat→Bool} (h:GL l σ par rt n ts ov) (hK:(4 * l.nodes+6).toNat≤K) (hno:∀ j,j<n→ov j=false→(ts j).at_≠4) (hex:∃ j,j<n∧ov j=false):∃ m,Q1 l par rt n 0 0 (2 * K+5) ts ov∨Q2 l par rt n 0 0 K m ts ov:=by
 by_cases h2:∃ j,j<n∧ov j=false∧(ts j).at_=2
 ·obtain ⟨j,j1,j2,j3⟩:=h2
  refine ⟨0,.inl ⟨j,j1,j2,j3,?_⟩⟩
  have:=zjw hl h.seen (h.ti j j1) (.inr j3)
  unfold zcO; simp; omega
 ·
  have hmax:∀ N,N≤n→(∃ j,j<N∧ov j=false)→∃ a,a<N∧ov a=false∧∀ j,j<N→ov j=false→fstT l rt (ts j)≤fstT l rt (ts a):=by
   intro N
   induction N with
   | zero=>rintro _ ⟨j,hj,_⟩; omega
   | succ N ih =>
    rintro hN ⟨j,hj,hoj⟩
    by_cases hex2:∃ j,j<N∧ov j=false
    ·obtain ⟨a,a1,a2,a3⟩:=ih (by omega) hex2
     by_cases hoN:ov N=false
     ·by_cases hc:fstT l rt (ts N)≤fstT l rt (ts a)
      ·exact ⟨a,by omega,a2,fun k hk hok=>if e:k=N then e▸hc else a3 k (by omega) hok⟩
      ·exact ⟨N,by omega,hoN,fun k hk hok=>if e:k=N then by rw [e]; exact Int.le_refl _ else by have:=a3 k (by omega) hok; omega⟩
     ·exact ⟨a,by omega,a2,fun k hk hok=>if e:k=N then by rw [e] at hok; exact absurd hok hoN else a3 k (by omega) hok⟩
    ·have:j=N:=Classical.byContradiction fun hne=>hex2 ⟨j,by omega,hoj⟩
     subst this
     exact ⟨j,by omega,hoj,fun k hk hok=>if e:k=j then by rw [e]; exact Int.le_refl _ else absurd ⟨k,by omega,hok⟩ hex2⟩
  obtain ⟨a,a1,a2,a3⟩:=hmax n (Nat.le_refl n) hex
  have hs:∀ i,zcO 0 0 i=0:=fun i=>by unfold zcO; simp
  refine ⟨fstT l rt (ts a),.inr ⟨a3,fun j _ _ _ _=>hs j,fun j hj ho=>⟨fun e=>h2 ⟨j,hj,ho,e⟩,hno j hj ho⟩,a,a1,a2,rfl,?_⟩⟩
  rw [hs]
  have hT:=h.ti a a1
  have hat:=hT.at_
  have g2:(ts a).at_≠2:=fun e=>h2 ⟨a,a1,a2,e⟩
  have g4:=hno a a1 a2
  by_cases e0:(ts a).at_=0
  ·have:=zjw hl h.seen hT (.inl e0)
   exact .inr (.inr (.inl ⟨e0,by omega⟩))
  ·by_cases e1:(ts a).at_=1
   ·have g1:=(hT.h1 e1).1
    have hs2:(zaq (rt (l.vertex 0 (ts a).u)) (rt (l.vertex 0 (ts a).v))).size≤2:=by rw [zdK]; split<;>omega
    rcases Nat.eq_zero_or_pos (ts a).held.size with q | q
    ·exact .inr (.inl ⟨e1,q,by omega⟩)
    ·exact .inl ⟨e1,by omega,by omega⟩
   ·exact .inr (.inr (.inr ⟨by omega,rfl⟩))
omit hl in
theorem zfK {n r i:Nat} (h:i<n):zcO r n i=zcO (r+1) 0 i:=by unfold zcO; simp [h]
omit hl in
theorem zm5 {n r K K1:Nat} {m:Int} {ts:Nat→TakeS} {ov:Nat→Bool} (hQ:Q1 l par rt n r n K1 ts ov∨Q2 l par rt n r n K m ts ov):Q1 l par rt n (r+1) 0 K1 ts ov∨Q2 l par rt n (r+1) 0 K m ts ov:=by
 rcases hQ with ⟨i,hi,ho,ha,hb⟩ | ⟨mx,lv,no,a,ha,hoa,hfa,wt⟩
 ·exact .inl ⟨i,hi,ho,ha,by rw [←zfK hi]; exact hb⟩
 ·exact .inr ⟨mx,fun j hj ho hf h3=>by rw [←zfK hj]; exact lv j hj ho hf h3,no,a,ha,hoa,hfa,by rw [←zfK ha]; exact wt⟩
end
end Go.Tm
namespace Go.Tm
open MemLike Eng
set_option linter.unusedSectionVars false
set_option linter.unusedVariables false
section
variable {l:Lay} (hl:l.Ok) {σ σ':M} {par rt par' rt':Int→Int}
structure KInv (l:Lay) (σ:M) (par rt:Int→Int) (k K0:Int) (J:Int→Bool) (f e:Int) (st:Bool) (now:Int) (c:CollectS):Prop where
 uv:(0≤c.u∧c.u<l.V)∧0≤c.v∧c.v<l.V
 nd:c.done=false
 ci:CInv l σ c.climb
 sb:0≤c.climb.step∧c.climb.step≤c.steps
 ss:0≤c.steps∧c.steps≤now∧now≤100000000
 fe:K0≤f∧f≤e∧e≤k∧k≤1000000∧0≤K0
 fe0:c.second=false→e=f
 to:e=k→CTo l σ rt (rt (l.vertex 0 (if c.second then c.v else c.u))) c.climb
 lv:1≤c.rounds→c.last.v.version=f
 nu:c.second=true→c.now.u.version=e∧(f=e→e=k→c.now.u.root=rt (l.vertex 0 c.u))
 pt:f=k→1≤c.rounds→c.last.u.version=k→c.last.v.root=rt (l.vertex 0 c.v)∧(1≤c.last.at_∧c.last.at_≤now)∧J c.last.at_=decide (rt (l.vertex 0 c.u)=rt (l.vertex 0 c.v))
 sm:st=true→1≤c.rounds∧(f=k→c.last.u=⟨rt (l.vertex 0 c.u),k⟩∧c.last.v=⟨rt (l.vertex 0 c.v),k⟩)
 rd:0≤c.rounds∧c.rounds≤2 * (f - K0)+(if st then 1 else 0)
noncomputable def zgq (l:Lay) (par rt:Int→Int) (k f:Int) (st:Bool) (c:CollectS):Nat :=
 crem l par rt c.climb+(if c.second then 0 else 2 * upH l par rt (l.vertex 0 c.v)+2)+(if f=k then (if st then 0 else 1) else 2) * (2 * upH l par rt (l.vertex 0 c.u)+2+(2 * upH l par rt (l.vertex 0 c.v)+2))
include hl
theorem KInv.start (hS:SeenF l σ par rt) {u v:Int} (hu:0≤u∧u<l.V) (hv:0≤v∧v<l.V) {k:Int} {J:Int→Bool} (hk:0≤k∧k≤1000000):KInv l σ par rt k k J k k false 0 (zgK l u v)∧zgq l par rt k k false (zgK l u v)=2 * ((2 * upH l par rt (l.vertex 0 u)+2)+(2 * upH l par rt (l.vertex 0 v)+2)):=by
 have hc:=CGo.start hl hS hu
 refine ⟨⟨⟨hu,hv⟩,rfl,hc.1.to.inv,by show (0:Int)≤0∧(0:Int)≤0; decide,by show (0:Int)≤0∧(0:Int)≤0∧(0:Int)≤100000000; decide,by omega,fun _=>rfl,fun _=>hc.1.to,fun h=>absurd h (show ¬(1:Int)≤0 by decide),fun h=>(by cases h),fun _ h=>absurd h (show ¬(1:Int)≤0 by decide),fun h=>(by cases h),by show (0:Int)≤0∧(0:Int)≤_; simp⟩,?_⟩
 unfold zgq
 rw [if_pos rfl,if_neg (show ¬(false=true) by decide)]
 show crem l par rt (zbd l u)+(2 * upH l par rt (l.vertex 0 v)+2)+1 * _=_
 rw [hc.2]
 show _+_+1 * (2 * upH l par rt (l.vertex 0 u)+2+(2 * upH l par rt (l.vertex 0 v)+2))=_
 omega
structure KEnd (l:Lay) (rt:Int→Int) (k K0:Int) (J:Int→Bool) (now:Int) (u v:Int) (c:CollectS):Prop where
 dn:c.done=true
 pt:1≤c.point∧c.point≤now
 jn:c.joined=J c.point
 jt:c.joined=decide (rt (l.vertex 0 u)=rt (l.vertex 0 v))
 rd:2≤c.rounds∧c.rounds≤2 * (k - K0)+2
 stp:c.last.at_=c.point
theorem KInv.step (hS:SeenF l σ par rt) {k K0 f e now:Int} {J:Int→Bool} {st:Bool} {c:CollectS} (h:KInv l σ par rt k K0 J f e st now c) (hv:∀ x,V0 l x→zaX l σ (l.field x 1)=k) (hJ:J (now+1)=decide (rt (l.vertex 0 c.u)=rt (l.vertex 0 c.v))) (hn:now+1≤100000000) :
  (∃ f' e' st',KInv l σ par rt k K0 J f' e' st' (now+1) (c.stp l σ (now+1))∧zgq l par rt k f' st' (c.stp l σ (now+1))+1≤zgq l par rt k f st c∧((c.stp l σ (now+1)).rounds=c.rounds∨(c.stp l σ (now+1)).rounds=c.rounds+1∧(c.stp l σ (now+1)).last.at_=now+1)∧((c.stp l σ (now+1)).rounds=c.rounds→(c.stp l σ (now+1)).last=c.last)) ∨
  (KEnd l rt k K0 J (now+1) c.u c.v (c.stp l σ (now+1))∧(c.stp l σ (now+1)).rounds=c.rounds+1∧(c.stp l σ (now+1)).last=c.last):=by
 have hb:0≤c.climb.step∧c.climb.step≤1000000000:=by have:=h.sb; have:=h.ss; omega
 have e1:c.stp l σ (now+1)=({ c with steps:=c.steps+1,climb:=c.climb.stp l σ }:CollectS).next l (now+1):=by
  unfold CollectS.stp
  rw [if_neg (by rw [h.nd]; decide),za1 (by have:=h.ss; omega)]
 obtain ⟨r0,hr0⟩:∃ r0,(if c.climb.top then c.climb.node=r0 else rt c.climb.node=r0):=by
  by_cases ht:c.climb.top=true
  ·exact ⟨c.climb.node,by rw [if_pos ht]⟩
  ·exact ⟨rt c.climb.node,by rw [if_neg ht]⟩
 have hto0:CTo l σ rt r0 c.climb:=⟨h.ci,hr0⟩
 have hfe:=h.fe
 have hss:=h.ss
 rcases CTo.stp hl hS hto0 hb with ⟨g1,g2,g3⟩ | ⟨g1,g2,g3,g4⟩
 ·
  have e2:c.stp l σ (now+1)={ c with steps:=c.steps+1,climb:=c.climb.stp l σ }:=by
   rw [e1]; unfold CollectS.next; rw [if_pos g1]
  have hcr:=zmz hl hS h.ci hb g1
  refine .inl ⟨f,e,st,?_,?_,.inl (by rw [e2]),fun _=>by rw [e2]⟩
  ·rw [e2]
   refine ⟨h.uv,h.nd,g2.inv,⟨by show 0≤(c.climb.stp l σ).step; rw [g3]; omega,by show (c.climb.stp l σ).step≤c.steps+1; rw [g3]; have:=h.sb; omega⟩,by show 0≤c.steps+1∧c.steps+1≤now+1∧now+1≤100000000; omega,hfe,h.fe0,fun he=>?_,h.lv,h.nu,fun a b d=>?_,h.sm,h.rd⟩
   ·rcases CTo.stp hl hS (h.to he) hb with ⟨_,q,_⟩ | ⟨q,_⟩
    ·exact q
    ·rw [g1] at q; cases q
   ·obtain ⟨p1,p2,p3⟩:=h.pt a b d
    exact ⟨p1,⟨p2.1,by show c.last.at_≤now+1; omega⟩,p3⟩
  ·rw [e2]; unfold zgq; dsimp only; omega
 ·
  have hver:(c.climb.stp l σ).version=k:=by
   rw [g3]
   have hV:V0 l r0:=by
    rw [←g2]
    have ht:c.climb.top=true:=by
     refine Classical.byContradiction fun hne=>?_
     rcases zfw hl hS h.ci (fun _=>h.ci.v0) with ⟨q1,q2⟩ | ⟨_,q1,_⟩
     ·have e:=zgv hl h.ci hb q1
      dsimp only at e
      rw [if_neg hne] at e
      split at e<;>· rw [e] at g1; have:=h.ci.nd; rw [show ∀ z:ClimbS,z.done=z.done from fun _=>rfl] at g1; simp [this] at g1
     ·have e:=zgu hl h.ci hb q1
      rw [e] at g1; have:=h.ci.nd; simp [this] at g1
    rw [g2]
    rw [if_pos ht] at hr0
    rw [←hr0]; exact h.ci.v0
   exact hv r0 hV
  have hroot:(c.climb.stp l σ).root=(c.climb.stp l σ).node:=by unfold ClimbS.root; rw [if_pos g1]
  have hrk:e=k→(c.climb.stp l σ).node=rt (l.vertex 0 (if c.second then c.v else c.u)):=fun he=>by
   rcases CTo.stp hl hS (h.to he) hb with ⟨q,_⟩ | ⟨_,q,_⟩
   ·rw [g1] at q; cases q
   ·exact q
  have hcu:=CGo.start hl hS h.uv.1
  have hcv:=CGo.start hl hS h.uv.2
  have hcp:=zfD (l:=l) (par:=par) (rt:=rt) (c:=c.climb)
  by_cases hsec:c.second=true
  ·
   have hnu:=h.nu hsec
   have hlv:=h.lv
   obtain ⟨ru,hru⟩:∃ x,c.now.u=x:=⟨_,rfl⟩
   have e2:c.stp l σ (now+1)=CollectS.over { c with steps:=c.steps+1,now:={ c.now with v:=⟨(c.climb.stp l σ).node,k⟩,at_:=now+1 },second:=false,climb:=zbd l c.u }:=by
    rw [e1]; unfold CollectS.next
    rw [if_neg (by show ¬(c.climb.stp l σ).done=false; rw [g1]; decide),if_neg (by show ¬c.second=false; rw [hsec]; decide)]
    show CollectS.over { c with steps:=c.steps+1,now:={ c.now with v:=⟨(c.climb.stp l σ).root,(c.climb.stp l σ).version⟩,at_:=now+1 },second:=false,climb:=zbd l c.u }=_
    rw [hroot,hver]
   have hrd:=h.rd
   have hrb:c.rounds≤10000000:=by have:=h.rd; split at this<;>omega
   have hw:IntKind.i64.wrap (c.rounds+1)=c.rounds+1:=za1 (by omega)
   by_cases hend:c.rounds+1 > 1∧c.now.u=c.last.u∧(⟨(c.climb.stp l σ).node,k⟩:SeenS)=c.last.v
   ·
    have e3:c.stp l σ (now+1)={ c with steps:=c.steps+1,now:={ c.now with v:=⟨(c.climb.stp l σ).node,k⟩,at_:=now+1 },second:=false,climb:=zbd l c.u,rounds:=c.rounds+1,done:=true }:=by
     rw [e2]; unfold CollectS.over
     rw [if_pos (by show IntKind.i64.wrap (c.rounds+1) > 1∧_; rw [hw]; exact hend)]
     show ({ c with steps:=c.steps+1,now:=_,second:=false,climb:=_,rounds:=IntKind.i64.wrap (c.rounds+1),done:=true }:CollectS)=_
     rw [hw]
    obtain ⟨n1,n2,n3⟩:=hend
    have hr1:1≤c.rounds:=by omega
    have hfk:f=k:=by rw [←hlv hr1,←n3]
    have hek:e=k:=by omega
    have huk:c.last.u.version=k:=by rw [←n2,hnu.1,hek]
    obtain ⟨p1,p2,p3⟩:=h.pt hfk hr1 huk
    have hur:c.last.u.root=rt (l.vertex 0 c.u):=by rw [←n2]; exact hnu.2 (by omega) hek
    refine .inr ⟨?_,by rw [e3],by rw [e3]⟩
    rw [e3]
    have hjt:(CollectS.joined { c with steps:=c.steps+1,now:={ c.now with v:=⟨(c.climb.stp l σ).node,k⟩,at_:=now+1 },second:=false,climb:=zbd l c.u,rounds:=c.rounds+1,done:=true })=decide (rt (l.vertex 0 c.u)=rt (l.vertex 0 c.v)):=by
     show (true && decide (c.last.u.root=c.last.v.root))=_
     rw [Bool.true_and,hur,p1]
    refine ⟨rfl,⟨?_,?_⟩,?_,hjt,⟨by show 2≤c.rounds+1; omega,?_⟩,rfl⟩
    ·show 1≤c.last.at_; exact p2.1
    ·show c.last.at_≤now+1; omega
    ·rw [hjt,←p3]; rfl
    ·show c.rounds+1≤_; split at hrd<;>omega
   ·have e3:c.stp l σ (now+1)={ c with steps:=c.steps+1,now:=znG,last:=⟨c.now.u,⟨(c.climb.stp l σ).node,k⟩,now+1⟩,second:=false,climb:=zbd l c.u,rounds:=c.rounds+1 }:=by
     rw [e2]; unfold CollectS.over
     rw [if_neg (by show ¬(IntKind.i64.wrap (c.rounds+1) > 1∧_); rw [hw]; exact hend)]
     show ({ c with steps:=c.steps+1,now:=znG,last:=_,second:=false,climb:=_,rounds:=IntKind.i64.wrap (c.rounds+1) }:CollectS)=_
     rw [hw]
    refine .inl ⟨k,k,decide (f=k),?_,?_,.inr ⟨by rw [e3],by rw [e3]⟩,fun hc=>by rw [e3] at hc; have hc:c.rounds+1=c.rounds:=hc; omega⟩
    ·rw [e3]
     refine ⟨h.uv,h.nd,hcu.1.to.inv,⟨by show (0:Int)≤0; decide,by show (0:Int)≤c.steps+1; omega⟩,by show 0≤c.steps+1∧c.steps+1≤now+1∧now+1≤100000000; omega,by omega,fun _=>rfl,fun _=>hcu.1.to,fun _=>rfl,fun h=>(by cases h),fun _ _ huk=>?_,fun hst=>?_,⟨by show 0≤c.rounds+1; omega,?_⟩⟩
     ·
      have huk:c.now.u.version=k:=huk
      have hek:e=k:=by rw [←hnu.1]; exact huk
      refine ⟨?_,⟨by show 1≤now+1; omega,by show now+1≤now+1; omega⟩,hJ⟩
      have:=hrk hek
      rw [if_pos hsec] at this; exact this
     ·have hfk:f=k:=of_decide_eq_true hst
      have hek:e=k:=by omega
      refine ⟨by show 1≤c.rounds+1; omega,fun _=>⟨?_,?_⟩⟩
      ·show c.now.u=_
       have a1:=hnu.1; have a2:=hnu.2 (by omega) hek
       rw [hru] at a1 a2 ⊢
       cases ru; simp only at a1 a2; rw [a1,a2,hek]
      ·show (⟨(c.climb.stp l σ).node,k⟩:SeenS)=_
       have:=hrk hek
       rw [if_pos hsec] at this; rw [this]
     ·show c.rounds+1≤_
      by_cases hfk:f=k
      ·rw [decide_eq_true hfk,if_pos rfl]
       have hst:st=false:=by
        cases hs:st with
        | false=>rfl
        | true =>
         exfalso
         have hek:e=k:=by omega
         obtain ⟨r1,r2⟩:=h.sm hs
         obtain ⟨r2,r3⟩:=r2 hfk
         refine hend ⟨by omega,?_,?_⟩
         ·rw [r2]
          have a1:=hnu.1; have a2:=hnu.2 (by omega) hek
          rw [hru] at a1 a2 ⊢
          cases ru; simp only at a1 a2; rw [a1,a2,hek]
         ·rw [r3]; have:=hrk hek; rw [if_pos hsec] at this; rw [this]
       rw [hst] at hrd
       simp at hrd; omega
      ·rw [decide_eq_false hfk]
       split at hrd<;>simp<;>omega
    ·rw [e3]
     unfold zgq
     rw [if_pos rfl]
     show crem l par rt (zbd l c.u)+(2 * upH l par rt (l.vertex 0 c.v)+2)+(if decide (f=k)=true then 0 else 1) * (2 * upH l par rt (l.vertex 0 c.u)+2+(2 * upH l par rt (l.vertex 0 c.v)+2))+1≤_
     rw [hcu.2,if_pos hsec]
     by_cases hfk:f=k
     ·rw [decide_eq_true hfk,if_pos rfl,if_pos hfk]
      have hst:st=false:=by
       cases hs:st with
       | false=>rfl
       | true =>
        exfalso
        have hek:e=k:=by omega
        obtain ⟨r1,r2⟩:=h.sm hs
        obtain ⟨r2,r3⟩:=r2 hfk
        refine hend ⟨by omega,?_,?_⟩
        ·rw [r2]
         have a1:=hnu.1; have a2:=hnu.2 (by omega) hek
         rw [hru] at a1 a2 ⊢
         cases ru; simp only at a1 a2; rw [a1,a2,hek]
        ·rw [r3]; have:=hrk hek; rw [if_pos hsec] at this; rw [this]
      rw [hst,if_neg (by decide)]
      omega
     ·rw [decide_eq_false hfk,if_neg (by decide),if_neg hfk]
      omega
  ·
   have hsf:c.second=false:=by simpa using hsec
   have e2:c.stp l σ (now+1)={ c with steps:=c.steps+1,now:={ c.now with u:=⟨(c.climb.stp l σ).node,k⟩ },second:=true,climb:=zbd l c.v }:=by
    rw [e1]; unfold CollectS.next
    rw [if_neg (by show ¬(c.climb.stp l σ).done=false; rw [g1]; decide),if_pos hsf]
    show ({ c with steps:=c.steps+1,now:={ c.now with u:=⟨(c.climb.stp l σ).root,(c.climb.stp l σ).version⟩ },second:=true,climb:=zbd l c.v }:CollectS)=_
    rw [hroot,hver]
   have hef:=h.fe0 hsf
   refine .inl ⟨f,k,st,?_,?_,.inl (by rw [e2]),fun _=>by rw [e2]⟩
   ·rw [e2]
    refine ⟨h.uv,h.nd,hcv.1.to.inv,⟨by show (0:Int)≤0; decide,by show (0:Int)≤c.steps+1; omega⟩,by show 0≤c.steps+1∧c.steps+1≤now+1∧now+1≤100000000; omega,by omega,fun h=>(by cases h),fun _=>hcv.1.to,h.lv,fun _=>⟨rfl,fun hf _=>?_⟩,fun a b d=>?_,h.sm,h.rd⟩
    ·show (c.climb.stp l σ).node=_
     have:=hrk (by omega)
     rw [if_neg hsec] at this; exact this
    ·obtain ⟨p1,p2,p3⟩:=h.pt a b d
     exact ⟨p1,⟨p2.1,by show c.last.at_≤now+1; omega⟩,p3⟩
   ·rw [e2]
    unfold zgq
    show crem l par rt (zbd l c.v)+0+_+1≤_
    rw [hcv.2,if_neg hsec]
    dsimp only
    omega
end
end Go.Tm
namespace Go.Tm
open MemLike Eng
set_option linter.unusedSectionVars false
set_option linter.unusedVariables false
section
variable {l:Lay} (hl:l.Ok) {p:Pen} (hp:PenOk p) {pr:Int→Int} {σ σ':M} {g:G} {par rt par' rt' par0:Int→Int}
def znx (σ:M) (c:ClimbS):Prop:=c.look.half=true→c.look.word=(zaf (get σ c.look.cell)).1
include hl
theorem znI (hS:SeenF l σ par rt) {c:ClimbS} (hI:CInv l σ c) (hb:0≤c.step∧c.step≤1000000000) (g1:(c.stp l σ).done=false):znx σ (c.stp l σ):=by
 rcases zfw hl hS hI (fun _=>hI.v0) with ⟨h1,h2⟩ | ⟨hh,h1,h2,h3,h4,h5,h6⟩
 ·have e:=zgv hl hI hb h1
  dsimp only at e
  split at e
  ·rw [e] at g1; cases g1
  ·split at e<;>· rw [e]; intro h; cases h
 ·have e:=zgu hl hI hb h1
  rw [e]
  intro _
  show (c.look.step l σ).word=(zaf (get σ (c.look.step l σ).cell)).1
  rw [h2,h4]
theorem KInv.fresh (hS:SeenF l σ par rt) {k K0 f e now:Int} {J:Int→Bool} {st:Bool} {c:CollectS} (h:KInv l σ par rt k K0 J f e st now c) {n2:Int} (hd:(c.stp l σ n2).done=false):znx σ (c.stp l σ n2).climb:=by
 have hb:0≤c.climb.step∧c.climb.step≤1000000000:=by have:=h.sb; have:=h.ss; omega
 have f0:∀ v,znx σ (zbd l v):=fun v hh=>by cases hh
 unfold CollectS.stp at hd ⊢
 rw [if_neg (by rw [h.nd]; decide)] at hd ⊢
 unfold CollectS.next at hd ⊢
 split
 ·next hc=>exact znI hl hS h.ci hb hc
 ·split
  ·exact f0 _
  ·unfold CollectS.over
   split<;>exact f0 _
omit hl in
theorem CInv.same {c:ClimbS} (hI:CInv l σ c) (hm:∀ x f,V0 l x→(f=1∨f=2)→zaX l σ' (l.field x f)=zaX l σ (l.field x f)) (hst:∀ t:Int,1≤t∧t≤l.T→get σ' (l.state t)=get σ (l.state t)):CInv l σ' c :=
 ⟨hI.nd,hI.v0,hI.cell,hI.ld,fun hh=>by
  obtain ⟨h1,h2⟩:=hI.half hh
  exact ⟨h1,by rw [hst _ h1,h2,hI.cell,hm _ _ hI.v0 (by cases c.top<;>simp)]⟩⟩
omit hl in
theorem KInv.same {k K0 f e now:Int} {J:Int→Bool} {st:Bool} {c:CollectS} (h:KInv l σ par rt k K0 J f e st now c) (hm:∀ x f,V0 l x→(f=1∨f=2)→zaX l σ' (l.field x f)=zaX l σ (l.field x f)) (hst:∀ t:Int,1≤t∧t≤l.T→get σ' (l.state t)=get σ (l.state t)):KInv l σ' par rt k K0 J f e st now c :=
 ⟨h.uv,h.nd,h.ci.same hm hst,h.sb,h.ss,h.fe,h.fe0,fun he=>⟨(h.to he).inv.same hm hst,(h.to he).to⟩,h.lv,h.nu,h.pt,h.sm,h.rd⟩
omit hl in
theorem KInv.commit {k K0 f e now:Int} {J:Int→Bool} {st:Bool} {c:CollectS} (h:KInv l σ par rt k K0 J f e st now c) (hf:znx σ c.climb)
  (hw:∀ x f,V0 l x→(f=1∨f=2)→1≤(zaf (gf l σ x f)).1.thread→zd4 (zaf (gf l σ x f)).1 (get σ' (l.state (zaf (gf l σ x f)).1.thread))=zaX l σ' (l.field x f)) (hk:k+1≤1000000):KInv l σ' par' rt' (k+1) K0 J f e st now c:=by
 have hfe:=h.fe
 refine ⟨h.uv,h.nd,⟨h.ci.nd,h.ci.v0,h.ci.cell,h.ci.ld,fun hh=>?_⟩,h.sb,h.ss,by omega,h.fe0,fun he=>by omega,h.lv,fun hs=>⟨(h.nu hs).1,fun _ he=>by omega⟩,fun hf1=>by omega,fun hs=>⟨(h.sm hs).1,fun hf1=>by omega⟩,h.rd⟩
 obtain ⟨h1,_⟩:=h.ci.half hh
 refine ⟨h1,?_⟩
 have e:=hf hh
 rw [h.ci.cell] at e
 have:=hw c.climb.node (if c.climb.top then 1 else 2) h.ci.v0 (by cases c.climb.top<;>simp)
 unfold gf at this
 rw [←e] at this
 rw [h.ci.cell]; exact this h1.1
def verN (l:Lay) (p:Pen):Nat→M→M
 | 0,σ=>σ
 | n+1,σ =>
  if zcz l ((n+1:Nat):Int) then p.write (verN l p n σ) (l.field ((n+1:Nat):Int) 1) (IntKind.i64.wrap (pnew (verN l p n σ) (l.field ((n+1:Nat):Int) 1)+1)) else verN l p n σ
include hp
theorem znE (hz:σ.size=l.cells) {k:Int} (hk:0≤k∧k≤65534) (hv:∀ x,V0 l x→zcc (gf l σ x 1) k):∀ n:Nat,(n:Int)≤l.nodes→((verN l p n σ).size:Int)=l.cells∧(∀ j,(∀ x,V0 l x→j≠l.field x 1)→get (verN l p n σ) j=get σ j) ∧
  ∀ x,V0 l x→if x≤(n:Int) then zaf (gf l (verN l p n σ) x 1)=(⟨k,k+1,p.thread,p.tag⟩,true) else gf l (verN l p n σ) x 1=gf l σ x 1:=by
 intro n
 have ht:=hp.t
 have hg:=hp.g
 induction n with
 | zero=>exact fun _=>⟨hz,fun j _=>rfl,fun x hx=>by rw [if_neg (by have:=hx.1.1; omega)]; rfl⟩
 | succ n ih =>
  intro hn
  obtain ⟨k1,k2,k3⟩:=ih (by omega)
  have hx:l.nd ((n+1:Nat):Int):=⟨by omega,by omega⟩
  rw [verN]
  by_cases hs:zcz l ((n+1:Nat):Int)=true
  ·rw [if_pos hs]
   obtain ⟨τ,hτ⟩:∃ τ,verN l p n σ=τ:=⟨_,rfl⟩
   rw [hτ] at k1 k2 k3 ⊢
   have hV:V0 l ((n+1:Nat):Int):=⟨hx,hs⟩
   have hb:=zaS hl hx (f:=1) (by decide)
   have e1:=k3 _ hV
   rw [if_neg (by omega)] at e1
   have hpl:=(hv _ hV)
   rw [←e1] at hpl
   have hpl':zaf (get τ (l.field ((n+1:Nat):Int) 1))=(⟨k,k,0,0⟩,true):=hpl
   have hok:(⟨k,k+1,p.thread,p.tag⟩:Wd).Ok:=⟨by show 0≤k∧k≤65535; omega,by show 0≤k+1∧k+1≤65535; omega,by show 0≤p.thread∧p.thread≤8; omega,hg,fun h=>by have h:p.thread=0:=h; omega⟩
   have ew:p.write τ (l.field ((n+1:Nat):Int) 1) (IntKind.i64.wrap (pnew τ (l.field ((n+1:Nat):Int) 1)+1))=st τ (l.field ((n+1:Nat):Int) 1) (zfg ⟨k,k+1,p.thread,p.tag⟩):=by
    have e2:pnew τ (l.field ((n+1:Nat):Int) 1)=k:=by unfold pnew; rw [hpl']
    rw [e2,za1 (by omega)]
    unfold Pen.write
    rw [hpl',if_pos rfl]
    have e3:p.to (k+1) ⟨k,k,0,0⟩=⟨k,k+1,p.thread,p.tag⟩:=by unfold Pen.to; dsimp only; rw [if_pos (.inl (by omega))]
    dsimp only
    rw [e3,if_pos (zdz.2 hok),zeh hok]; rfl
   rw [ew]
   refine ⟨by rw [zaz]; exact k1,fun j hj=>by rw [zaB (hj _ hV),k2 j hj],fun x hx'=>?_⟩
   by_cases e:x=((n+1:Nat):Int)
   ·subst e
    rw [if_pos (Int.le_refl _)]
    unfold gf
    rw [zeR (zc5 hok),if_pos ⟨rfl,hb.2.1,by rw [k1]; exact hb.2.2⟩,zbU hok]
   ·have eg:gf l (st τ (l.field ((n+1:Nat):Int) 1) (zfg ⟨k,k+1,p.thread,p.tag⟩)) x 1=gf l τ x 1:=zaB fun he=>e ((zan hl hx'.1 (by decide) hx (by decide)).1 he).1
    rw [eg]
    have:=k3 x hx'
    by_cases hle:x≤(n:Int)
    ·rw [if_pos hle] at this; rw [if_pos (by omega)]; exact this
    ·rw [if_neg hle] at this; rw [if_neg (by omega)]; exact this
  ·rw [if_neg hs]
   refine ⟨k1,k2,fun x hx'=>?_⟩
   have hne:x≠((n+1:Nat):Int):=fun e=>hs (e▸hx'.2)
   have:=k3 x hx'
   by_cases hle:x≤(n:Int)
   ·rw [if_pos hle] at this; rw [if_pos (by omega)]; exact this
   ·rw [if_neg hle] at this; rw [if_neg (by omega)]; exact this
structure Upd (l:Lay) (pr:Int→Int) (p:Pen) (par0:Int→Int) (k:Int) (σ:M) (g:G):Prop where
 w:Writ l pr p par0 (fun _=>k) σ g
 up:∀ x,V0 l x→(zaf (gf l σ x 1)).1.new=k+1
theorem Writ.verN {k:Int} (hk:0≤k∧k≤65534) (ht:p.thread≤l.T) (hw:Writ l pr p par0 (fun _=>k) σ g) (hv:∀ x,V0 l x→zcc (gf l σ x 1) k):Upd l pr p par0 k (Go.Tm.verN l p l.nodes.toNat σ) g:=by
 have hn:=zaD hl
 have htt:=hp.t
 have hz:=hw.rt.size
 obtain ⟨k1,k2,k3⟩:=znE hl hp (by exact_mod_cast hz) hk hv l.nodes.toNat (by omega)
 have hx1:∀ x,V0 l x→zaf (gf l (Go.Tm.verN l p l.nodes.toNat σ) x 1)=(⟨k,k+1,p.thread,p.tag⟩,true):=fun x hx=>by
  have:=k3 x hx
  rw [if_pos (by have:=hx.1.2; omega)] at this; exact this
 have hne:∀ x f,l.nd x→0≤f∧f<7→f≠1→gf l (Go.Tm.verN l p l.nodes.toNat σ) x f=gf l σ x f:=fun x f hx hf hn1=>k2 _ fun y hy e=>hn1 ((zan hl hx hf hy.1 (by decide)).1 e).2
 refine ⟨⟨hw.rt.same_ hl (by exact_mod_cast (k1.trans hz.symm)) (fun j hj=>k2 j fun x hx=>zbL hl hj hx.1 (by decide)) (fun x f hx hf=>hne x f hx (by omega) (by omega)) (fun x hx=>zlQ (hne x 2 hx (by decide) (by decide))) (fun x hx=>zcD (hne x 2 hx (by decide) (by decide))),hw.hd,fun x hx hs=>by rw [hne x 2 hx (by decide) (by decide)]; exact hw.sn x hx hs,fun x hx=>?_,?_⟩,fun x hx=>by rw [hx1 x hx]⟩
 ·rw [hx1 x hx]; exact ⟨rfl,.inr ⟨rfl,rfl,rfl⟩⟩
 ·rw [k2 _ fun x hx e=>by
   have hb:=zaS hl hx.1 (f:=1) (by decide); have ho:=zce hl; have hh:l.heads=l.T+1+l.S * 7:=rfl
   rw [zcu hl ⟨htt.1,ht⟩] at e; omega]
  exact hw.st
end
end Go.Tm
namespace Go.Tm
open MemLike Eng
set_option linter.unusedSectionVars false
set_option linter.unusedVariables false
section
variable {l:Lay} (hl:l.Ok) {p:Pen} (hp:PenOk p) {pr:Int→Int} {σ σ':M} {g:G} {par rt par' rt' par0:Int→Int}
theorem Calm.congr {ver ver':Int→Int} (h:Calm l pr p ver σ g) (he:∀ x,V0 l x→ver x=ver' x):Calm l pr p ver' σ g:=⟨h.rt,h.hd,h.pp,fun x hx=>by rw [←he x hx]; exact h.pv x hx,h.st⟩
theorem zcc.means {x y:Int} (h:zcc (get σ x) y):zaX l σ x=y:=by
 unfold zaX; dsimp only; rw [if_pos (.inr h.ok.2.1)]; exact h.ok.2.2.1
def zcI (l:Lay) (p:Pen) (both:Bool) (σ:M):M:=za6 l p (zdH l both l.nodes.toNat (za6 l p σ p.tag true)) (p.tag+1) false
include hl hp
theorem Upd.commit {k:Int} (h:Upd l pr p par0 k σ g) (ht:p.thread≤l.T) (hg:p.tag+1≤16777215) :
  Calm l pr ⟨p.thread,p.tag+1⟩ (fun _=>k+1) (zcI l p true σ) g∧(∀ x,V0 l x→parent l (zcI l p true σ) x=parent l σ x) ∧
  ∀ x f,V0 l x→(f=1∨f=2)→1≤(zaf (gf l σ x f)).1.thread→zd4 (zaf (gf l σ x f)).1 (get (zcI l p true σ) (l.state (zaf (gf l σ x f)).1.thread))=zaX l (zcI l p true σ) (l.field x f):=by
 have htt:=hp.t
 have hgg:=hp.g
 have ho:=zce hl
 have hh:l.heads=l.T+1+l.S * 7:=rfl
 have es:=zcu hl ⟨htt.1,ht⟩
 obtain ⟨hC,hCn⟩:=h.w.commit hl hp ht
 obtain ⟨hK,_,hP⟩:=hC.clean hl hp ht hg true (fun h=>by cases h)
 have ec:∀ x f,V0 l x→0≤f∧f<7→gf l (za6 l p σ p.tag true) x f=gf l σ x f:=fun x f hx hf=>hCn _ (by have:=zaS hl hx.1 hf; omega)
 have hK2:Calm l pr ⟨p.thread,p.tag+1⟩ (fun _=>k+1) (zcI l p true σ) g:=hK.congr fun x hx=>by rw [ec x 1 hx (by decide)]; exact h.up x hx
 have hP2:∀ x,V0 l x→parent l (zcI l p true σ) x=parent l σ x:=fun x hx=>(hP x hx).trans (zcD (ec x 2 hx (by decide)))
 refine ⟨hK2,hP2,fun x f hx hf h1=>?_⟩
 have hst:get (zcI l p true σ) (l.state p.thread)=zbx (p.tag+1) false:=hK2.st
 have key:∀ w:Wd,w.thread=p.thread→w.tag=p.tag→zd4 w (get (zcI l p true σ) (l.state w.thread))=w.new:=fun w e1 e2=>by
  unfold zd4
  rw [e1,hst,zkz ⟨by omega,hg⟩,if_pos rfl]
  unfold zmg
  dsimp only
  rw [if_pos (.inr (.inl (by omega)))]
 rcases hf with rfl | rfl
 ·obtain ⟨v1,v2⟩:=h.w.vn x hx
  have hw:(zaf (gf l σ x 1)).1.thread=p.thread∧(zaf (gf l σ x 1)).1.tag=p.tag:=by
   rcases v2 with ⟨q,_⟩ | ⟨q1,q2,_⟩
   ·omega
   ·exact ⟨q1,q2⟩
  rw [key _ hw.1 hw.2,h.up x hx]
  exact (hK2.pv x hx).means.symm
 ·obtain ⟨v1,v2⟩:=h.w.sn x hx.1 hx.2
  have hw:(zaf (gf l σ x 2)).1.thread=p.thread∧(zaf (gf l σ x 2)).1.tag=p.tag:=by
   rcases v2 with ⟨q,_⟩ | ⟨q1,q2,_⟩
   ·omega
   ·exact ⟨q1,q2⟩
  rw [key _ hw.1 hw.2]
  have:=(hK2.pp x hx).means (l:=l)
  rw [hP2 x hx] at this
  rw [this]
  unfold parent pnew; rw [if_pos hx.2]
omit hp
theorem zaw.roots (hR:zaw l pr σ g):∃ rt:Int→Int,(∀ x,V0 l x→∃ h:Nat,(h:Int)≤l.nodes∧Up (parent l σ) (V0 l) h x (rt x))∧(∀ u v:Int,0≤u∧u<l.V→0≤v∧v<l.V→(rt (l.vertex 0 u)=rt (l.vertex 0 v)↔Jn g 0 u v))∧∀ x,V0 l x→(rt x=x↔parent l σ x=0):=by
 obtain ⟨F,h1,h2,h3,h4⟩:=hR.rows hl
 exact ⟨fun x=>(F x).root,fun x hx=>(h2 x hx).2,h3,h4⟩
end
end Go.Tm
namespace Go.Tm
open MemLike Eng
def memF (σ:Array UInt64):Nat→Int:=fun i=>(σ[i]!.toNat:Int)
theorem zs7 {σ:Array UInt64} {rs:Array Value} {i:Nat} (h:i<σ.size):lkCs (encM σ++rs) i 1=some (encU (memF σ i)):=by
 have e:nth (encM σ++rs).toList i=some (.int .u64 (memF σ i)):=by
  rw [zfj,Array.getElem?_toList,Array.getElem?_append_left (by rw [zet]; exact h),zjj σ h]; rfl
 simp only [lkCs,e]; rfl
theorem zs6 {mb:Nat} {σ:Array UInt64} {rs:Array Value} {T:TypeId}:zaZ (pt mb (.cells (encM σ++rs) T)) encU 1 mb 0 σ.size (memF σ):=fun h hA i hi=>⟨_,T,(0,0),hA,by rw [Nat.zero_add,Nat.mul_one]; exact zs7 hi⟩
theorem zsT {σ:Array UInt64} {e:Nat} {v:Value} {h:HF} (h0:0<σ.size) (hA:ownA encU 1 e v ((List.range σ.size).map (memF σ)).toArray h):∃ g cap rs,v=.slice (some ⟨g,0,none⟩) σ.size cap∧pt g (.cells (encM σ++rs) e) h:=by
 rcases hA with ⟨_,h2⟩ | ⟨g,cap,cur,h1,h2,h3,h4,h5,h6⟩
 ·rw [zcv] at h2; omega
 ·rw [zcv] at h1 h3 h6
  refine ⟨g,cap,cur.extract σ.size cur.size,h1,?_⟩
  have e:cur=encM σ++cur.extract σ.size cur.size:=by
   apply Array.ext_getElem?
   intro i
   rw [Array.getElem?_append,zet]
   by_cases hi:i<σ.size
   ·rw [if_pos hi,zjj σ hi]
    have h7:=h6 i hi
    rw [zeW _ hi,Nat.mul_one] at h7
    have h8:=(zcQ h7).2 0 (by omega)
    simpa [encU,memF] using h8
   ·rw [if_neg hi,Array.getElem?_extract]
    by_cases hj:i<cur.size
    ·rw [if_pos (by omega)]; congr 1; omega
    ·rw [if_neg (by omega),Array.getElem?_eq_none (by omega)]
  show h g=some _
  rw [←e]; exact h2
section
variable {P:Program} {w0:World} {R:Assn} {n:Nat} {Q:Exit→Act→World→Prop} {env:List (Nat×Value)} {L:List (Nat×Assn)}
variable {ks:List Nat} {L0:List (Nat×Assn)} {ops:Array Oper} {rest:List (Bool×Oper)}
theorem TL.ownM (k:Nat) {σ:Array UInt64} {e:Nat} {v:Value} (h0:0<σ.size) (hL:lk L k=some (ownA encU 1 e v ((List.range σ.size).map (memF σ)).toArray)) (hk:∀ g rs,Keep L0 ((k,pt g (.cells (encM σ++rs) e)) :: L) ks)
  (h:∀ g cap rs,v=.slice (some ⟨g,0,none⟩) σ.size cap→TL P w0 R n ks L0 ops Q rest env ((k,pt g (.cells (encM σ++rs) e)) :: L)):TL P w0 R n ks L0 ops Q rest env L:=fun a w ha hs hS=>by
 obtain ⟨X,hX,_,hto⟩:=Sat.some hs hL
 obtain ⟨g,cap,rs,h1,h2⟩:=zsT h0 hX
 exact h g cap rs h1 a w ha (hto _ h2) (SS.of (hto _ h2) (hk g rs))
end
section
variable {l:Lay} {σ:M} {k:LookS}
def LookS.cnt (l:Lay) (σ:M) (k:LookS) (c:Cnt):Cnt:=if k.done then c else cntL σ (k.at l) c
theorem LookS.cnt_0 {c:Cnt} (h:k.done=false) (h2:k.half=false):k.cnt l σ c=cntL σ k.cell c:=by unfold LookS.cnt LookS.at; rw [if_neg (by simp [h]),if_neg (by simp [h2])]
variable {c:ClimbS}
theorem ClimbS.stp_d (h:c.done=true):c.stp l σ=c:=by unfold ClimbS.stp; rw [if_pos h]
def ClimbS.cnt (l:Lay) (σ:M) (c:ClimbS) (n:Cnt):Cnt:=if c.done then n else c.look.cnt l σ n
theorem ClimbS.cnt_n {n:Cnt} (h:c.done=false):c.cnt l σ n=c.look.cnt l σ n:=by unfold ClimbS.cnt; rw [if_neg (by simp [h])]
end
section
variable {l:Lay} {S:Type} [MemLike S] {σ:S}
theorem zsB (h:l.S=0):zjC l σ=st σ l.free 0:=by unfold zjC; rw [if_pos h]
theorem zsA (h:l.S≠0):zjC l σ=st (st (zjB l l.S σ) (l.of ((l.S:Int) - 1) 0) 0) l.free 1:=by unfold zjC; rw [if_neg h]
theorem zil {dn:Nat} {fd:Nat→Int} {n:Nat} (h:0<dn):zlD l P1 (zeS l dn fd n σ) ((n+1:Nat):Int) (fd ((n+1) % dn))=zeS l dn fd (n+1) σ:=by rw [zeS,if_neg (by omega)]
theorem zhO {dn:Nat} {fd:Nat→Int} {n:Nat} (h:dn=0):zlD l P1 (zeS l dn fd n σ) ((n+1:Nat):Int) 0=zeS l dn fd (n+1) σ:=by rw [zeS,if_pos h]
end
def AllD (l:Lay) (σ:M) (d:Array Int) (u v:Nat):Prop:=(∀ s:Int,(∃ j,j<d.size∧d[j]! =s)↔∃ a b:Int,(0≤a∧a<b∧b<l.V)∧(a<u∨a=u∧b<v)∧(find l σ a b).ok=true∧(find l σ a b).slot=s)
theorem AllD.start {l:Lay} {σ:M} {v:Nat} (hv:v≤1):AllD l σ #[] 0 v:=fun s=>⟨fun ⟨j,hj,_⟩=>absurd hj (Nat.not_lt_zero j),fun ⟨a,b,h1,h2,_⟩=>by omega⟩
theorem AllD.row {l:Lay} {σ:M} {d:Array Int} {u v v':Nat} (h:AllD l σ d u v) (hv:l.V≤v) (hv':v'≤u+2):AllD l σ d (u+1) v':=fun s=>by
 rw [h s]
 constructor
 ·rintro ⟨a,b,h1,h2,h3⟩; exact ⟨a,b,h1,.inl (by omega),h3⟩
 ·rintro ⟨a,b,h1,h2,h3⟩; exact ⟨a,b,h1,(by omega),h3⟩
theorem AllD.yes {l:Lay} {σ:M} {d:Array Int} {u v:Nat} (h:AllD l σ d u v) (huv:u<v) (hv:v<l.V) (hf:(find l σ u v).ok=true):AllD l σ (d++#[(find l σ u v).slot]) u (v+1):=fun s=>by
 constructor
 ·rintro ⟨j,hj,hs⟩
  rw [app_get!] at hs
  rw [Array.size_append] at hj
  simp only [List.size_toArray,List.length_cons,List.length_nil] at hj
  by_cases hlt:j<d.size
  ·rw [if_pos hlt] at hs
   obtain ⟨a,b,h1,h2,h3⟩:=(h s).1 ⟨j,hlt,hs⟩
   exact ⟨a,b,h1,by omega,h3⟩
  ·rw [if_neg hlt,show j - d.size=0 by omega] at hs
   exact ⟨u,v,by omega,.inr ⟨rfl,by omega⟩,hf,hs⟩
 ·rintro ⟨a,b,h1,h2,h3,h4⟩
  by_cases hc:a<u∨a=u∧b<v
  ·obtain ⟨j,hj,hs⟩:=(h s).2 ⟨a,b,h1,hc,h3,h4⟩
   exact ⟨j,by simp; omega,by rw [app_get!,if_pos hj]; exact hs⟩
  ·obtain rfl:a=u:=by omega
   obtain rfl:b=v:=by omega
   exact ⟨d.size,by simp,by rw [app_get!,if_neg (by omega),Nat.sub_self]; exact h4⟩
theorem AllD.no {l:Lay} {σ:M} {d:Array Int} {u v:Nat} (h:AllD l σ d u v) (hf:(find l σ u v).ok=false):AllD l σ d u (v+1):=fun s=>by
 rw [h s]
 constructor
 ·rintro ⟨a,b,h1,h2,h3⟩; exact ⟨a,b,h1,by omega,h3⟩
 ·rintro ⟨a,b,h1,h2,h3,h4⟩
  refine ⟨a,b,h1,?_,h3,h4⟩
  by_cases hc:a<u∨a=u∧b<v
  ·exact hc
  ·obtain rfl:a=u:=by omega
   obtain rfl:b=v:=by omega
   rw [hf] at h3; cases h3
theorem AllD.edges {l:Lay} (hl:l.Ok) {σ:M} {g:G} (hE:EdgeOk l σ g) {d:Array Int} {u v:Nat} (h:AllD l σ d u v) (hu:l.V≤u+1) (s:Int):(∃ j,j<d.size∧d[j]! =s)↔g.has s=true:=by
 rw [h s]
 constructor
 ·rintro ⟨a,b,h1,h2,h3,h4⟩
  rcases hE.found hl (o:=⟨0,a,b⟩) ⟨by show a≠b; omega,by show 0≤a; omega,by show a<l.V; omega,by show 0≤b; omega,by show b<l.V; omega⟩ with ⟨q,hq,h5,h6,h7,_⟩ | ⟨_,h7⟩
  ·have h7:find l σ a b=_:=h7
   rw [h7] at h4; rw [←h4]; exact h6
  ·have h7:find l σ a b=_:=h7
   rw [h7] at h3; cases h3
 ·intro hs
  have hr:=hE.rng s hs
  refine ⟨g.u s,g.v s,by omega,.inl (by omega),?_⟩
  rw [zll hl hE hs]; exact ⟨rfl,rfl⟩
def UsB (d:Array Int) (k:Nat) (D:Array Bool):Prop:=∀ s,s<D.size→(D[s]! =true↔∃ j,j<k∧d[j]! =(s:Int))
theorem UsB.start {d:Array Int} {n:Nat}:UsB d 0 (Array.replicate n false):=fun s hs=>by
 rw [Array.size_replicate] at hs
 rw [getElem!_pos _ s (by simpa using hs),Array.getElem_replicate]
 exact ⟨fun h=>(by cases h),fun ⟨j,hj,_⟩=>absurd hj (Nat.not_lt_zero j)⟩
theorem UsB.step {d:Array Int} {k s:Nat} {D:Array Bool} (h:UsB d k D) (hs:d[k]! =(s:Int)):UsB d (k+1) (D.setIfInBounds s true):=fun q hq=>by
 rw [Array.size_setIfInBounds] at hq
 rw [get!_set hq]
 by_cases e:s=q
 ·rw [if_pos e]; exact ⟨fun _=>⟨k,by omega,by rw [hs,e]⟩,fun _=>rfl⟩
 ·rw [if_neg e,h q hq]
  constructor
  ·rintro ⟨j,hj,h1⟩; exact ⟨j,by omega,h1⟩
  ·rintro ⟨j,hj,h1⟩
   by_cases hjk:j=k
   ·rw [hjk,hs] at h1; omega
   ·exact ⟨j,by omega,h1⟩
end Go.Tm
namespace Go.Tm
open MemLike Eng
set_option linter.unusedSectionVars false
set_option linter.unusedVariables false
section
variable {l:Lay} (hl:l.Ok) {p:Pen} (hp:PenOk p) {pr:Int→Int} {σ σ':M} {g g':G} {par0 ver0:Int→Int} {o:Op3}
include hl
theorem Writ.skip (hW:Writ l pr p par0 ver0 σ g) (h:Val3 l o→¬(o.kind=1∧(find l σ o.u o.v).ok=false∧0≤(GA.of g).free l)∧¬(o.kind=2∧(find l σ o.u o.v).ok=true)):zd6 l (GA.of g) o=GA.of g:=by
 by_cases hv:Val3 l o
 ·obtain ⟨h1,h2⟩:=h hv
  by_cases k1:o.kind=1
  ·rcases (hW.edges hl).found hl hv with ⟨s,hb,_,_,hf,_⟩ | ⟨hno,hf⟩
   ·exact zoX k1 ⟨s,hb⟩
   ·by_cases h0:0≤(GA.of g).free l
    ·exact absurd ⟨k1,by rw [hf],h0⟩ h1
    ·exact zlj k1 (by omega)
  ·by_cases k2:o.kind=2
   ·rcases (hW.edges hl).found hl hv with ⟨s,hb,_,_,hf,_⟩ | ⟨hno,hf⟩
    ·exact absurd ⟨k2,by rw [hf]⟩ h2
    ·exact zli k2 hno
   ·exact zrj k1 k2
 ·exact zoW hv
include hp
end
section
variable {l:Lay} (hl:l.Ok) {σ:M} {g:G} {d:Array Int} {D:Array Bool}
include hl
theorem AllD.slot (hE:EdgeOk l σ g) (hA:AllD l σ d l.V (l.V+1)) {k:Nat} (hk:k<d.size):∃ z:Nat,d[k]! =(z:Int)∧z<l.S:=by
 have h1:=(hA.edges hl hE (by omega) (d[k]!)).1 ⟨k,hk,rfl⟩
 have h2:=(hE.rng _ h1).1
 exact ⟨(d[k]!).toNat,by omega,by omega⟩
end
theorem Rch.trans {S:Type} [MemLike S] {l:Lay} {p:Pen} {σ0 σ1 σ2:S} (h:Rch l p σ0 σ1) (h2:Rch l p σ1 σ2):Rch l p σ0 σ2:=by
 induction h2 with
 | refl=>exact h
 | ld i _ ih=>exact ih.ld i
 | nf _ hf ih=>exact ih.nf hf
 | par _ hs ih=>exact ih.par hs
 | wr _ hs ih=>exact ih.wr hs
 | low _ hj ih=>exact ih.low hj
section
variable {l:Lay} {σ:M} {n:Nat}
end
noncomputable def GA0:GA:=GA.of G0
structure Begun (l:Lay) (pr:Int→Int) (fo:Nat→Op3) (on:Nat) (σ1 σ2:M) (g1 g2:G) (ver:Int→Int):Prop where
 c1:Calm l pr ⟨1,1⟩ ver σ1 g1
 a1:GA.of g1=zrk l GA0 fo (on / 2)
 w2:Writ l pr ⟨1,1⟩ (parent l σ1) ver σ2 g2
 a2:GA.of g2=zrk l GA0 fo on
section
variable {l:Lay} (hl:l.Ok) {pr:Int→Int} {σ σ1:M} {g g1:G}
include hl
theorem zqG:(1:Int)≤l.T:=by have:=hl.2.2.2.1; omega
omit hl in
theorem zuO:PenOk ⟨1,0⟩:=⟨by decide,by decide⟩
omit hl in
theorem zsS:PenOk ⟨1,1⟩:=⟨by decide,by decide⟩
theorem Born.w0 (h:Born l pr σ):Writ l pr ⟨1,0⟩ (parent l σ) (fun _=>0) σ G0:=(h.calm hl (p:=⟨1,0⟩) ⟨by decide,zqG hl⟩ rfl).writ hl
theorem Born.half (hB:Born l pr σ) (hW:Writ l pr ⟨1,0⟩ (parent l σ) (fun _=>0) σ1 g1) (hR:Rch l ⟨1,0⟩ σ σ1) :
  ∃ ver,Calm l pr ⟨1,1⟩ ver (za6 l ⟨1,0⟩ (zdH l false l.nodes.toNat (za6 l ⟨1,0⟩ σ1 0 true)) 1 false) g1:=by
 have ht:=zqG hl
 obtain ⟨hC,ho⟩:=hW.commit hl (zuO) ht
 have hv:∀ x,V0 l x→gf l (za6 l ⟨1,0⟩ σ1 0 true) x 1=0:=fun x hx=>by
  have e1:gf l (za6 l ⟨1,0⟩ σ1 0 true) x 1=gf l σ1 x 1:=ho _ (by
   have h1:=zaS hl hx.1 (f:=1) (by decide)
   have h2:=zcu hl (t:=1) ⟨by decide,ht⟩
   have h3:l.state (⟨1,0⟩:Pen).thread=1 - 1:=h2
   have h4:=zce hl
   have h5:l.heads=l.T+1+l.S * 7:=rfl
   omega)
  rw [e1]
  have e2:gf l σ1 x 1=gf l σ x 1:=hR.other hl (.inr (.inr ⟨x,1,hx.1,.inr (.inl rfl),rfl⟩))
  rw [e2]; exact hB.ver x hx.1
 obtain ⟨h1,_⟩:=hC.clean hl (zuO) ht (by decide) false fun _ x hx=>by
  have e:gf l (za6 l ⟨1,0⟩ σ1 0 true) x 1=0:=hv x hx
  have e':gf l (za6 l ⟨1,0⟩ σ1 (⟨1,0⟩:Pen).tag true) x 1=0:=e
  rw [e']; exact zoj
 exact ⟨_,h1⟩
end
end Go.Tm
namespace Go.Tm
open MemLike Eng
set_option linter.unusedSectionVars false
set_option linter.unusedVariables false
theorem Up.next {par:Int→Int} {P:Int→Prop} {h:Nat} {x r:Int} (u:Up par P h x r) (h0:par x≠0):∃ k,h=k+1∧1≤k∧Up par P k (par x) r:=by
 cases u with
 | top _ h1=>exact absurd h1 h0
 | step _ _ hr=>exact ⟨_,rfl,hr.pos,hr⟩
def bmem (l:Lay) (cm:Bool) (σ:M):M:=if cm then za6 l ⟨1,1⟩ σ 1 true else σ
section
variable {l:Lay} (hl:l.Ok) {σ σ':M} {par rt:Int→Int} {c:ClimbS}
include hl
theorem CInv.cnt (hI:CInv l σ c) (hz:σ.size=l.cells) {n:Cnt}:c.cnt l σ n=n.ld:=by
 rw [ClimbS.cnt_n hI.nd]
 unfold LookS.cnt
 rw [if_neg (by rw [hI.ld]; decide)]
 have hr:0≤c.look.at l∧c.look.at l<σ.size:=by
  unfold LookS.at
  split
  ·next hh =>
   have h1:=(hI.half hh).1
   have h2:=zce hl
   have h3:l.heads=l.T+1+l.S * 7:=rfl
   have h4:=zf6 hl
   rw [zcu hl h1]; omega
  ·rw [hI.cell]
   have:=zaS hl hI.v0.1 (f:=if c.top then 1 else 2) (by split<;>decide)
   omega
 unfold cntL; rw [if_pos hr]
end
section
variable {l:Lay} (hl:l.Ok) {pr:Int→Int} {fo:Nat→Op3} {on:Nat} {σ1 σ2:M} {g1 g2:G} {ver:Int→Int}
include hl
theorem Begun.seen (hB:Begun l pr fo on σ1 σ2 g1 g2 ver) (cm:Bool):(bmem l cm σ2).size=l.cells∧∃ par rt,SeenF l (bmem l cm σ2) par rt∧∀ u v:Int,0≤u∧u<l.V→0≤v∧v<l.V→(rt (l.vertex 0 u)=rt (l.vertex 0 v)↔Jn (if cm then g2 else g1) 0 u v):=by
 have ht:=zqG hl
 cases cm with
 | false =>
  obtain ⟨F,_,h2,h3,_⟩:=hB.c1.rt.rows hl
  exact ⟨hB.w2.rt.size,parent l σ1,fun x=>(F x).root,hB.w2.seen hl zsS ht (fun x hx=>(h2 x hx).2),h3⟩
 | true =>
  obtain ⟨hC,_⟩:=hB.w2.commit hl zsS ht
  obtain ⟨F,_,h2,h3,_⟩:=hC.rt.rows hl
  exact ⟨hC.rt.size,parent l (bmem l true σ2),fun x=>(F x).root,hC.seen hl zsS ht (fun x hx=>(h2 x hx).2),h3⟩
end
end Go.Tm
namespace Go.Tm
open MemLike Eng
set_option linter.unusedSectionVars false
set_option linter.unusedVariables false
theorem zuZ {g g':G} (h:GA.of g=GA.of g') {u v:Int}:Wh g u v↔Wh g' u v:=by
 have h1:g.has=g'.has:=congrArg GA.has h
 have h2:g.u=g'.u:=congrArg GA.u h
 have h3:g.v=g'.v:=congrArg GA.v h
 unfold Wh; rw [h1,h2,h3]
section
variable {l:Lay} (hl:l.Ok) {pr:Int→Int} {fo:Nat→Op3} {on:Nat} {σ1 σ2 σ:M} {g1 g2 g:G} {ver par0 ver0:Int→Int} {p:Pen}
include hl
theorem Writ.wh (hW:Writ l pr p par0 ver0 σ g) {u v:Int}:Wh g u v↔Jn g 0 u v:=Wh.jn hW.hd fun q hq=>((hW.edges hl).rng q hq).2.2.1
theorem Writ.joined (hW:Writ l pr p par0 ver0 σ g) {u v:Int} (hu:0≤u∧u<l.V) (hv:0≤v∧v<l.V):∃ b,Go.Tm.same l 561 σ 0 u v=some (b,σ)∧(b=true↔Wh g u v):=by
 have lb:=zcF hl
 obtain ⟨b,h1,h2⟩:=hW.rt.same hl (i:=0) (u:=u) (v:=v) ⟨by omega,hu⟩ ⟨by omega,hv⟩ (k:=561) (by decide)
 exact ⟨b,h1,h2.trans (hW.wh hl).symm⟩
theorem Begun.same (hB:Begun l pr fo on σ1 σ2 g1 g2 ver) {cm:Bool} {rt:Int→Int} (hJ:∀ u v:Int,0≤u∧u<l.V→0≤v∧v<l.V→(rt (l.vertex 0 u)=rt (l.vertex 0 v)↔Jn (if cm then g2 else g1) 0 u v)) (hW:Writ l pr p par0 ver0 σ g) (hG:GA.of g=zrk l GA0 fo (if cm then on else on / 2))
  {u v:Int} (hu:0≤u∧u<l.V) (hv:0≤v∧v<l.V):∃ b,Go.Tm.same l 561 σ 0 u v=some (b,σ)∧(!(decide (rt (l.vertex 0 u)=rt (l.vertex 0 v)) == b))=false:=by
 obtain ⟨b,h1,h2⟩:=hW.joined hl hu hv
 refine ⟨b,h1,?_⟩
 have h3:Wh g u v↔Jn (if cm then g2 else g1) 0 u v:=by
  cases cm with
  | true=>rw [zuZ (g':=g2) (hG.trans hB.a2.symm)]; exact hB.w2.wh hl
  | false=>rw [zuZ (g':=g1) (hG.trans hB.a1.symm)]; exact (hB.c1.writ hl).wh hl
 have h4:(decide (rt (l.vertex 0 u)=rt (l.vertex 0 v))=true)↔b=true:=by rw [decide_eq_true_iff,hJ u v hu hv,h2,h3]
 rw [Bool.eq_iff_iff.2 h4]; cases b<;>rfl
end
section
variable {l:Lay} (hl:l.Ok) {σ σ':M} {par rt:Int→Int} {c:ClimbS}
include hl
end
section
variable {l:Lay} (hl:l.Ok) {pr:Int→Int} {fo:Nat→Op3} {on:Nat} {σ1 σ2 σ:M} {g1 g2 g:G} {ver par0 ver0:Int→Int} {p:Pen}
include hl
end
section
variable {P:Program} {w0:World} {R:Assn} {n:Nat} {Q:Exit→Act→World→Prop} {env:List (Nat×Value)} {L:List (Nat×Assn)}
variable {ks:List Nat} {L0:List (Nat×Assn)} {ops:Array Oper} {rest:List (Bool×Oper)}
variable {d:Option Tmp} {x y:Operand} {ty T K E:TypeId} {ps:String} {af:Array Edge} {g:Option (Nat×Bool)}
variable {κ β:Type} [DecidableEq κ] {enc:κ→Value} {venc:β→Value}
theorem TL.lkD1 (k:Nat) {r:Nat} {qs:List (κ×β)} {q:κ} (z0:β) (hx:evO env x=some (.map (some r))) (hy:evO env y=some (enc q)) (hL:lk L k=some (mapA r enc venc qs)) (hM:zjU P T K E=true) (hK:KeyOk P K enc) (hz:zby P E=some (venc z0)) (hg:zac ops env g=some true) (hd:okD n d=true) (hk:Keep L0 L ks)
  (h:TL P w0 R n ks L0 ops Q rest (setE env d (venc ((mget qs q).getD z0))) L):TL P w0 R n ks L0 ops Q ((false,⟨d,.lookup T x y false,ty,ps,af,g⟩) :: rest) env L :=
 TL.lkA k hx hy hL hM hK hz hg hd hk (by cases hq:mget qs q<;>(rw [hq] at h; exact h))
end
def intV (z:Int):Value:=.int .i64 z
def KpT (l:Lay) (n:Int) (z:Int):Prop:=∃ t:Int,(1≤t∧t≤n)∧z=l.state t
def KpN (l:Lay) (n:Int) (z:Int):Prop:=∃ x:Int,(1≤x∧x≤n)∧(l.node x).1.level=0∧(z=l.field x 2∨z=l.field x 1)
def Kp (qs:List (Int×Bool)) (P:Int→Prop):Prop:=∀ z,P z→mget qs z=some true
theorem Kp.put {qs:List (Int×Bool)} {P P':Int→Prop} {q:Int} (h:Kp qs P) (hP:∀ z,P' z→P z∨z=q):Kp (mput qs q true) P':=fun z hz=>by
 rw [zmf]
 by_cases e:z=q
 ·rw [if_pos e]
 ·rw [if_neg e]; exact h z ((hP z hz).resolve_right e)
theorem Kp.mono {qs:List (Int×Bool)} {P P':Int→Prop} (h:Kp qs P) (hP:∀ z,P' z→P z):Kp qs P':=fun z hz=>h z (hP z hz)
theorem KpT.zero {l:Lay}:Kp [] (KpT l 0):=fun z ⟨t,h,_⟩=>by omega
theorem KpT.succ {l:Lay} {n z:Int} (h:KpT l (n+1) z):KpT l n z∨z=l.state (n+1):=by
 obtain ⟨t,h1,h2⟩:=h
 by_cases e:t=n+1
 ·exact .inr (e▸h2)
 ·exact .inl ⟨t,by omega,h2⟩
theorem KpN.zero {l:Lay} {z:Int} (h:KpN l 0 z):False:=by obtain ⟨x,h,_⟩:=h; omega
theorem KpN.succ {l:Lay} {n z:Int} (h:KpN l (n+1) z):KpN l n z∨((l.node (n+1)).1.level=0∧(z=l.field (n+1) 2∨z=l.field (n+1) 1)):=by
 obtain ⟨x,h1,h2,h3⟩:=h
 by_cases e:x=n+1
 ·exact .inr (e▸⟨h2,h3⟩)
 ·exact .inl ⟨x,by omega,h2,h3⟩
def OthM (qs:List (Int×Bool)) (σ τ:M):Prop:=τ.size=σ.size∧∀ z,mget qs z=some true→get τ z=get σ z
theorem OthM.st {qs:List (Int×Bool)} {σ τ:M} (h:OthM qs σ τ) {i y:Int} (hi:(mget qs i).getD false=false):OthM qs σ (MemLike.st τ i y):=⟨by rw [zaz]; exact h.1,fun z hz=>by
 rw [zaB (fun e=>by rw [e] at hz; rw [hz] at hi; cases hi)]; exact h.2 z hz⟩
theorem OthM.alike {l:Lay} (hl:l.Ok) {qs:List (Int×Bool)} {σ τ:M} (h:OthM qs σ τ) (hk:Kp qs (fun z=>KpT l l.T z∨KpN l l.nodes z)):Alike l σ τ :=
 ⟨fun x f hx hf=>h.2 _ (hk _ (.inr ⟨x,hx.1,of_decide_eq_true hx.2,by rcases hf with rfl | rfl; exact .inr rfl; exact .inl rfl⟩)),fun t ht=>h.2 _ (hk _ (.inl ⟨t,ht,rfl⟩))⟩
section
variable {l:Lay} (hl:l.Ok) {σ τ:M} {par rt:Int→Int}
include hl
end
end Go.Tm
namespace Go.Tm
open MemLike Eng
set_option linter.unusedSectionVars false
set_option linter.unusedVariables false
section
variable {l:Lay} {σ:M} {c:CollectS} {n:Int}
theorem CollectS.stp_d (h:c.done=true):c.stp l σ n=c:=by unfold CollectS.stp; rw [if_pos h]
def CollectS.cnt (l:Lay) (σ:M) (c:CollectS) (m:Cnt):Cnt:=if c.done then m else c.climb.cnt l σ m
theorem CollectS.cnt_n {m:Cnt} (h:c.done=false):c.cnt l σ m=c.climb.cnt l σ m:=by unfold CollectS.cnt; rw [if_neg (by simp [h])]
end
end Go.Tm
namespace Go.Tm
open MemLike Eng
set_option linter.unusedSectionVars false
set_option linter.unusedVariables false
section
variable {l:Lay} {σ:M} {n:Nat} {p:Pen}
theorem zuN {k:Int} (hk:0≤k∧k≤60):PenOk ⟨1,k⟩:=⟨by show (1:Int)≤1∧(1:Int)≤8; decide,by show 0≤k∧k≤16777215; omega⟩
end
section
variable {l:Lay} (hl:l.Ok) {σ σ2:M} {p:Pen} (hp:PenOk p) {pr:Int→Int} {g g2:G}
include hl hp
theorem Calm.upd {k:Int} (hC:Calm l pr p (fun _=>k) σ g) (ht:p.thread≤l.T) (hk:0≤k∧k≤65534) (hW2:Writ l pr p (parent l σ) (fun _=>k) σ2 g2) (hR2:Rch l p σ σ2):Upd l pr p (parent l σ) k (verN l p l.nodes.toNat σ2) g2 :=
 hW2.verN hl hp hk ht fun x hx=>by
  have e:gf l σ2 x 1=gf l σ x 1:=hR2.other hl (.inr (.inr ⟨x,1,hx.1,.inr (.inl rfl),rfl⟩))
  rw [e]; exact hC.pv x hx
end
end Go.Tm
namespace Go.Tm
open MemLike Eng
set_option linter.unusedSectionVars false
set_option linter.unusedVariables false
section
variable {l:Lay} {σ:M} {c:CollectS} {n:Int} {par rt:Int→Int}
theorem CollectS.stp_uv:(c.stp l σ n).u=c.u∧(c.stp l σ n).v=c.v:=by
 unfold CollectS.stp CollectS.next CollectS.over
 split
 ·exact ⟨rfl,rfl⟩
 ·split
  ·exact ⟨rfl,rfl⟩
  ·split
   ·exact ⟨rfl,rfl⟩
   ·split<;>exact ⟨rfl,rfl⟩
theorem CollectS.stp_steps (h:c.done=false):(c.stp l σ n).steps=IntKind.i64.wrap (c.steps+1):=by
 unfold CollectS.stp CollectS.next CollectS.over
 rw [if_neg (by simp [h])]
 split
 ·rfl
 ·split
  ·rfl
  ·split<;>rfl
theorem KInv.later {k K0 f e now now':Int} {J:Int→Bool} {st:Bool} (h:KInv l σ par rt k K0 J f e st now c) (hle:now≤now') (hb:now'≤100000000):KInv l σ par rt k K0 J f e st now' c:=by
 have hss:=h.ss
 exact ⟨h.uv,h.nd,h.ci,h.sb,⟨hss.1,by omega,hb⟩,h.fe,h.fe0,h.to,h.lv,h.nu,fun h1 h2 h3=>by obtain ⟨p1,p2,p3⟩:=h.pt h1 h2 h3; exact ⟨p1,⟨p2.1,by omega⟩,p3⟩,h.sm,h.rd⟩
def SI (l:Lay) (σ:M) (par rt:Int→Int) (kv:Int) (u v:Int) (n0:Int) (B s:Nat) (first:Int) (c:CollectS):Prop :=
 ((∃ f e st,KInv l σ par rt kv kv (fun _=>decide (rt (l.vertex 0 u)=rt (l.vertex 0 v))) f e st (n0+s) c∧zgq l par rt kv f st c+s≤B)∧c.u=u∧c.v=v∧c.steps=s∧(c.rounds=0∧first=0∨c.rounds=1∧first≠0∧c.last.at_=first)) ∨
 (c.done=true∧c.joined=decide (rt (l.vertex 0 u)=rt (l.vertex 0 v))∧c.rounds=2∧c.steps=s∧c.point=first∧s≤B∧1≤s)
variable (hl:l.Ok)
include hl
theorem SI.start (hS:SeenF l σ par rt) {u v:Int} (hu:0≤u∧u<l.V) (hv:0≤v∧v<l.V) {kv n0:Int} (hk:0≤kv∧kv≤1000000) (hn:0≤n0∧n0≤100000) :
  SI l σ par rt kv u v n0 (2 * ((2 * upH l par rt (l.vertex 0 u)+2)+(2 * upH l par rt (l.vertex 0 v)+2))) 0 0 (zgK l u v):=by
 obtain ⟨h1,h2⟩:=KInv.start hl hS hu hv (J:=fun _=>decide (rt (l.vertex 0 u)=rt (l.vertex 0 v))) hk
 exact .inl ⟨⟨_,_,_,h1.later (by show (0:Int)≤n0+((0:Nat):Int); omega) (by show n0+((0:Nat):Int)≤_; omega),by rw [h2]; omega⟩,rfl,rfl,rfl,.inl ⟨rfl,rfl⟩⟩
omit hl in
theorem SI.run {kv u v n0 first:Int} {B s:Nat} (h:SI l σ par rt kv u v n0 B s first c) (hd:c.done=false):CInv l σ c.climb∧s+1≤B∧c.steps=s:=by
 rcases h with ⟨⟨f,e,st,hK,hm⟩,_,_,hs,_⟩ | ⟨h,_⟩
 ·refine ⟨hK.ci,?_,hs⟩
  have:=zfD (l:=l) (par:=par) (rt:=rt) (c:=c.climb)
  unfold zgq at hm; omega
 ·rw [h] at hd; cases hd
omit hl in
theorem SI.over {kv u v n0 first:Int} {B s:Nat} (h:SI l σ par rt kv u v n0 B s first c) (hd:c.done=true):c.joined=decide (rt (l.vertex 0 u)=rt (l.vertex 0 v))∧c.rounds=2∧c.steps=s∧c.point=first∧s≤B∧1≤s:=by
 rcases h with ⟨⟨f,e,st,hK,_⟩,_⟩ | ⟨_,h⟩
 ·rw [hK.nd] at hd; cases hd
 ·exact h
theorem SI.step (hS:SeenF l σ par rt) {kv u v n0 first first':Int} (hv:∀ x,V0 l x→zaX l σ (l.field x 1)=kv) (hn:0≤n0∧n0≤100000) {B s:Nat} (hB:B≤1000000) (h:SI l σ par rt kv u v n0 B s first c) (hd:c.done=false)
  (hf:first'=if (c.stp l σ (n0+(s+1:Nat))).rounds=1∧first=0 then n0+(s+1:Nat) else first):SI l σ par rt kv u v n0 B (s+1) first' (c.stp l σ (n0+(s+1:Nat))):=by
 obtain ⟨_,hsB,_⟩:=h.run hd
 rcases h with ⟨⟨f,e,st,hK,hm⟩,hu,hvv,hs,hr⟩ | ⟨h,_⟩
 ·have e1:n0+((s+1:Nat):Int)=(n0+s)+1:=by omega
  rw [e1] at hf ⊢
  have huv:=CollectS.stp_uv (l:=l) (σ:=σ) (c:=c) (n:=n0+s+1)
  have hst:=CollectS.stp_steps (l:=l) (σ:=σ) (n:=n0+s+1) hd
  rw [hs,za1 (by omega)] at hst
  have hst:(c.stp l σ (n0+s+1)).steps=((s+1:Nat):Int):=by rw [hst]; omega
  have hfe:=hK.fe
  rcases hK.step hl hS hv (by rw [hu,hvv]) (by omega) with ⟨f',e',st',hK2,hm2,hr2,hlast⟩ | ⟨hE,hr2,hlast⟩
  ·have hfe2:=hK2.fe
   have hrd:=hK2.rd
   refine .inl ⟨⟨f',e',st',by rw [e1]; exact hK2,by omega⟩,huv.1.trans hu,huv.2.trans hvv,hst,?_⟩
   have hr1:(c.stp l σ (n0+s+1)).rounds≤1:=by cases st'<;>simp at hrd<;>omega
   rcases hr2 with hr2 | ⟨hr2,hat⟩
   ·rw [hr2,hlast hr2]
    rw [hr2] at hf
    rcases hr with ⟨a1,a2⟩ | ⟨a1,a2,a3⟩
    ·rw [if_neg (by omega)] at hf; exact .inl ⟨a1,by omega⟩
    ·rw [if_neg (by omega)] at hf; exact .inr ⟨a1,by omega,by omega⟩
   ·rcases hr with ⟨a1,a2⟩ | ⟨a1,a2,a3⟩
    ·rw [if_pos ⟨by omega,a2⟩] at hf; exact .inr ⟨by omega,by omega,by omega⟩
    ·omega
  ·have hrd:=hE.rd
   rcases hr with ⟨a1,a2⟩ | ⟨a1,a2,a3⟩
   ·omega
   ·rw [if_neg (by omega)] at hf
    refine .inr ⟨hE.dn,by rw [hE.jt,hu,hvv],by omega,hst,by rw [←hE.stp,hlast,a3,hf],hsB,by omega⟩
 ·rw [h] at hd; cases hd
end
end Go.Tm
namespace Go.Tm
open MemLike Eng
set_option linter.unusedSectionVars false
set_option linter.unusedVariables false
structure Op4 where
 kind:Int
 u:Int
 v:Int
 wait:Int
 deriving Inhabited,DecidableEq
def Op4.o3 (x:Op4):Op3:=⟨x.kind,x.u,x.v⟩
section
variable {l:Lay} (hl:l.Ok) {σ σ2:M} {pr:Int→Int} {g g2:G} {k:Int}
include hl
end
theorem SI.step0 {l:Lay} (hl:l.Ok) {σ:M} {par rt:Int→Int} {c:CollectS} (hS:SeenF l σ par rt) {kv u v:Int} (hv:∀ x,V0 l x→zaX l σ (l.field x 1)=kv) {B s:Nat} (hB:B≤1000000) (h:∃ fi,SI l σ par rt kv u v 0 B s fi c) (hd:c.done=false):∃ fi,SI l σ par rt kv u v 0 B (s+1) fi (c.stp l σ ((s+1:Nat):Int)):=by
 obtain ⟨fi,h⟩:=h
 have:=h.step hl hS hv ⟨by decide,by decide⟩ hB hd rfl
 rw [Int.zero_add] at this
 exact ⟨_,this⟩
end Go.Tm
namespace Go.Tm
open MemLike Eng
set_option linter.unusedSectionVars false
set_option linter.unusedVariables false
section
variable {l:Lay} (hl:l.Ok) {σ σ2:M} {p:Pen} (hp:PenOk p) {pr:Int→Int} {g g2:G} {c:CollectS} {par rt par' rt':Int→Int}
def zsj (l:Lay) (σ σ2:M):Prop:=∀ t:Int,1≤t∧t≤l.T→get σ2 (l.state t)=get σ (l.state t)
include hl in
theorem zmR {t:Int} (ht:1≤t∧t≤l.T) {x f:Int} (hx:l.nd x) (hf:0≤f∧f<7):l.state t≠l.field x f:=fun e=>by
 have h1:=zaS hl hx hf
 have h4:=zce hl
 have h5:l.heads=l.T+1+l.S * 7:=rfl
 rw [zcu hl ht] at e; omega
def jf (d:Array Bool):Int→Bool:=fun i=>d[(i - 1).toNat]!
theorem zrZ {d:Array Bool} {b:Bool}:jf (d++#[b]) ((d.size:Int)+1)=b:=by
 unfold jf
 rw [show ((d.size:Int)+1 - 1).toNat=d.size by omega,app_get!,if_neg (by omega),Nat.sub_self]; rfl
theorem zrY {d:Array Bool} {b:Bool} {i:Int} (h:1≤i∧i≤d.size):jf (d++#[b]) i=jf d i:=by
 unfold jf
 rw [app_get!,if_pos (by omega)]
theorem KInv.jc {k K0 f e now:Int} {J J':Int→Bool} {st:Bool} (h:KInv l σ par rt k K0 J f e st now c) (hJ:∀ i,1≤i∧i≤now→J' i=J i):KInv l σ par rt k K0 J' f e st now c :=
 ⟨h.uv,h.nd,h.ci,h.sb,h.ss,h.fe,h.fe0,h.to,h.lv,h.nu,fun h1 h2 h3=>by obtain ⟨p1,p2,p3⟩:=h.pt h1 h2 h3; exact ⟨p1,p2,by rw [hJ _ p2]; exact p3⟩,h.sm,h.rd⟩
def PIv (l:Lay) (σ:M) (par rt:Int→Int) (kv K0:Int) (u v:Int) (now:Nat) (c:CollectS) (d:Array Bool):Prop :=
 ((∃ f e st,KInv l σ par rt kv K0 (jf d) f e st now c)∧d.size=now∧c.u=u∧c.v=v) ∨
 (c.done=true∧(1≤c.point∧c.point≤d.size)∧c.joined=jf d c.point∧c.rounds≤2 * (kv - K0)+2∧d.size≤now)
def zoI (c:CollectS) (d:Array Bool) (b:Bool):Array Bool:=if c.done then d else d++#[b]
include hl in
theorem PIv.start (hS:SeenF l σ par rt) {u v:Int} (hu:0≤u∧u<l.V) (hv:0≤v∧v<l.V) {kv:Int} (hk:0≤kv∧kv≤1000000):PIv l σ par rt kv kv u v 0 (zgK l u v) #[] :=
 .inl ⟨⟨_,_,_,(KInv.start hl hS hu hv hk).1⟩,rfl,rfl,rfl⟩
include hl in
theorem PIv.step (hS:SeenF l σ par rt) {kv K0 u v:Int} (hv:∀ x,V0 l x→zaX l σ (l.field x 1)=kv) {now:Nat} (hn:now≤1000000) {d:Array Bool} (h:PIv l σ par rt kv K0 u v now c d) :
  PIv l σ par rt kv K0 u v (now+1) (c.stp l σ ((now+1:Nat):Int)) (zoI c d (decide (rt (l.vertex 0 u)=rt (l.vertex 0 v))))∧((c.stp l σ ((now+1:Nat):Int)).done=false→znx σ (c.stp l σ ((now+1:Nat):Int)).climb):=by
 rcases h with ⟨⟨f,e,st,hK⟩,hz,hu,hvv⟩ | ⟨hd,hp,hj,hr,hz⟩
 ·unfold zoI
  rw [hK.nd,if_neg (by decide)]
  obtain ⟨b,hb⟩:∃ b,decide (rt (l.vertex 0 u)=rt (l.vertex 0 v))=b:=⟨_,rfl⟩
  rw [hb]
  have hK1:KInv l σ par rt kv K0 (jf (d++#[b])) f e st now c:=hK.jc fun i hi=>zrY (by omega)
  have e1:((now+1:Nat):Int)=(now:Int)+1:=by omega
  have hJ:jf (d++#[b]) ((now:Int)+1)=decide (rt (l.vertex 0 c.u)=rt (l.vertex 0 c.v)):=by rw [←hz,zrZ,hu,hvv,hb]
  refine ⟨?_,fun hd=>by rw [e1] at hd ⊢; exact hK.fresh hl hS hd⟩
  have huv:=CollectS.stp_uv (l:=l) (σ:=σ) (c:=c) (n:=(now:Int)+1)
  rw [e1]
  rcases hK1.step hl hS hv hJ (by omega) with ⟨f',e',st',hK2,_⟩ | ⟨hE,_⟩
  ·refine .inl ⟨⟨f',e',st',?_⟩,by simp [hz],huv.1.trans hu,huv.2.trans hvv⟩
   have e2:((now+1:Nat):Int)=(now:Int)+1:=by omega
   rw [e2]; exact hK2
  ·have hpt:=hE.pt
   exact .inr ⟨hE.dn,⟨hpt.1,by simp; omega⟩,hE.jn,by have:=hE.rd; omega,by simp; omega⟩
 ·unfold zoI
  rw [CollectS.stp_d hd,hd,if_pos rfl]
  exact ⟨.inr ⟨hd,hp,hj,hr,by omega⟩,fun h=>by cases h⟩
theorem PIv.same {kv K0 u v:Int} {now:Nat} {d:Array Bool} (h:PIv l σ par rt kv K0 u v now c d) (hm:∀ x f,V0 l x→(f=1∨f=2)→zaX l σ2 (l.field x f)=zaX l σ (l.field x f)) (hst:zsj l σ σ2):PIv l σ2 par rt kv K0 u v now c d:=by
 rcases h with ⟨⟨f,e,st,hK⟩,h⟩ | h
 ·exact .inl ⟨⟨f,e,st,hK.same hm hst⟩,h⟩
 ·exact .inr h
theorem PIv.commit {kv K0 u v:Int} {now:Nat} {d:Array Bool} (h:PIv l σ par rt kv K0 u v now c d) (hf:c.done=false→znx σ c.climb)
  (hw:∀ x f,V0 l x→(f=1∨f=2)→1≤(zaf (gf l σ x f)).1.thread→zd4 (zaf (gf l σ x f)).1 (get σ2 (l.state (zaf (gf l σ x f)).1.thread))=zaX l σ2 (l.field x f)) (hk:kv+1≤1000000):PIv l σ2 par' rt' (kv+1) K0 u v now c d:=by
 rcases h with ⟨⟨f,e,st,hK⟩,h⟩ | ⟨h1,h2,h3,h4,h5⟩
 ·exact .inl ⟨⟨f,e,st,hK.commit (hf hK.nd) hw hk⟩,h⟩
 ·exact .inr ⟨h1,h2,h3,by omega,h5⟩
def PIf (l:Lay) (σ:M) (par rt:Int→Int) (kv K0:Int) (u v:Int) (B n now:Nat) (c:CollectS) (d:Array Bool):Prop :=
 ((∃ f e st,KInv l σ par rt kv K0 (jf d) f e st now c∧zgq l par rt kv f st c+n≤B)∧d.size=now∧c.u=u∧c.v=v) ∨
 (c.done=true∧(1≤c.point∧c.point≤d.size)∧c.joined=jf d c.point∧c.rounds≤2 * (kv - K0)+2∧d.size≤now)
include hl in
theorem PIv.fin (hS:SeenF l σ par rt) {kv K0 u v:Int} {now:Nat} {d:Array Bool} (h:PIv l σ par rt kv K0 u v now c d):PIf l σ par rt kv K0 u v (12 * l.nodes.toNat+12) 0 now c d:=by
 have hnb:=zaD hl
 rcases h with ⟨⟨f,e,st,hK⟩,h⟩ | h
 ·refine .inl ⟨⟨f,e,st,hK,?_⟩,h⟩
  have h1:=(hS.upH hl hK.ci.v0).1
  have h2:=(hS.upH hl (zbv hl (σ:=σ) hK.uv.1).2).1
  have h3:=(hS.upH hl (zbv hl (σ:=σ) hK.uv.2).2).1
  have hc:crem l par rt c.climb≤2 * l.nodes.toNat+2:=by unfold crem; split<;>split<;>omega
  unfold zgq
  obtain ⟨a,ha⟩:∃ a,upH l par rt (l.vertex 0 c.u)=a:=⟨_,rfl⟩
  obtain ⟨b,hb⟩:∃ b,upH l par rt (l.vertex 0 c.v)=b:=⟨_,rfl⟩
  rw [ha] at h2 ⊢
  rw [hb] at h3 ⊢
  obtain ⟨m,hm⟩:∃ m,2 * a+2+(2 * b+2)=m:=⟨_,rfl⟩
  rw [hm]
  have hm2:m≤4 * l.nodes.toNat+4:=by omega
  obtain ⟨q,hq⟩:∃ q,(if f=kv then (if st=true then 0 else 1) else 2:Nat)=q:=⟨_,rfl⟩
  have hq2:q≤2:=by rw [←hq]; split<;>(try split)<;>omega
  rw [hq]
  have:q * m≤2 * m:=Nat.mul_le_mul_right _ hq2
  split<;>omega
 ·exact .inr h
theorem PIf.run {kv K0 u v:Int} {B n now:Nat} {d:Array Bool} (h:PIf l σ par rt kv K0 u v B n now c d) (hd:c.done=false):n+1≤B:=by
 rcases h with ⟨⟨f,e,st,hK,hm⟩,_⟩ | ⟨h,_⟩
 ·have:=zfD (l:=l) (par:=par) (rt:=rt) (c:=c.climb)
  unfold zgq at hm; omega
 ·rw [h] at hd; cases hd
theorem PIf.over {kv K0 u v:Int} {B n now:Nat} {d:Array Bool} (h:PIf l σ par rt kv K0 u v B n now c d) (hd:c.done=true):(1≤c.point∧c.point≤d.size)∧c.joined=jf d c.point∧c.rounds≤2 * (kv - K0)+2∧d.size≤now:=by
 rcases h with ⟨⟨f,e,st,hK,_⟩,_⟩ | ⟨_,h⟩
 ·rw [hK.nd] at hd; cases hd
 ·exact h
include hl in
theorem PIf.step (hS:SeenF l σ par rt) {kv K0 u v:Int} (hv:∀ x,V0 l x→zaX l σ (l.field x 1)=kv) {B n now:Nat} (hn:now≤1000000) {d:Array Bool} (h:PIf l σ par rt kv K0 u v B n now c d) (hd:c.done=false) :
  PIf l σ par rt kv K0 u v B (n+1) (now+1) (c.stp l σ ((now+1:Nat):Int)) (zoI c d (decide (rt (l.vertex 0 u)=rt (l.vertex 0 v)))):=by
 rcases h with ⟨⟨f,e,st,hK,hm⟩,hz,hu,hvv⟩ | ⟨hd2,_⟩
 ·unfold zoI
  rw [hK.nd,if_neg (by decide)]
  obtain ⟨b,hb⟩:∃ b,decide (rt (l.vertex 0 u)=rt (l.vertex 0 v))=b:=⟨_,rfl⟩
  rw [hb]
  have hK1:KInv l σ par rt kv K0 (jf (d++#[b])) f e st now c:=hK.jc fun i hi=>zrY (by omega)
  have e1:((now+1:Nat):Int)=(now:Int)+1:=by omega
  have hJ:jf (d++#[b]) ((now:Int)+1)=decide (rt (l.vertex 0 c.u)=rt (l.vertex 0 c.v)):=by rw [←hz,zrZ,hu,hvv,hb]
  have huv:=CollectS.stp_uv (l:=l) (σ:=σ) (c:=c) (n:=(now:Int)+1)
  rw [e1]
  rcases hK1.step hl hS hv hJ (by omega) with ⟨f',e',st',hK2,hm2,_⟩ | ⟨hE,_⟩
  ·refine .inl ⟨⟨f',e',st',?_,by omega⟩,by simp [hz],huv.1.trans hu,huv.2.trans hvv⟩
   rw [e1]; exact hK2
  ·have hpt:=hE.pt
   exact .inr ⟨hE.dn,⟨hpt.1,by simp; omega⟩,hE.jn,by have:=hE.rd; omega,by simp; omega⟩
 ·rw [hd2] at hd; cases hd
end
theorem Fn.pack {P:Program} {f:FuncId} {args:List Value} {X:Type} {A B A' B':X→Assn} {Cs Cs':List Assn} {r:Value} (h:∀ x,Eng.Fn P f args (A x :: B x :: Cs) (fun v Bs=>v=r∧∃ y,Bs=A' y :: B' y :: Cs')):FnD P f args (ex (fun x=>star (A x) (B x)) :: Cs) r (ex (fun y=>star (A' y) (B' y)) :: Cs'):=by
 intro w0 R w hs
 obtain ⟨x,hx⟩:=hs.head_ex
 refine (h x w0 R w hx.apart2).mono ?_
 rintro e w' ⟨v,Bs,he,⟨rfl,y,rfl⟩,hs'⟩
 exact ⟨_,_,he,⟨rfl,rfl⟩,hs'.join2.head fun z hz=>⟨y,hz⟩⟩
end Go.Tm
namespace Go.Tm
open MemLike Eng
set_option linter.unusedSectionVars false
set_option linter.unusedVariables false
section
variable {l:Lay} (hl:l.Ok) {σ σ2:M} {pr:Int→Int} {g g2:G} {c:CollectS} {rt:Int→Int} {k K0 u v:Int} {now:Nat} {d:Array Bool}
include hl
theorem Calm.ver_ {ver:Int→Int} {p:Pen} (hC:Calm l pr p ver σ g) {x:Int} (hx:V0 l x):zaX l σ (l.field x 1)=ver x:=(hC.pv x hx).means
theorem PIv.write (hk:0≤k∧k≤60) (hC:Calm l pr ⟨1,k⟩ (fun _=>k) σ g) (hU:Upd l pr ⟨1,k⟩ (parent l σ) k σ2 g2) (hst:zsj l σ σ2) (hS:SeenF l σ (parent l σ) rt) (h:PIv l σ (parent l σ) rt k K0 u v now c d) :
  SeenF l σ2 (parent l σ) rt∧(∀ x,V0 l x→zaX l σ2 (l.field x 1)=k)∧PIv l σ2 (parent l σ) rt k K0 u v now c d:=by
 have ht:=zqG hl
 have hS2:=hU.w.seen hl (zuN hk) ht hS.up
 have hv2:∀ x,V0 l x→zaX l σ2 (l.field x 1)=k:=fun x hx=>zkE hl (zuN hk) hU.w.vn ht hU.w.st hx
 exact ⟨hS2,hv2,h.same (fun x f hx hf=>by
  rcases hf with rfl | rfl
  ·rw [hv2 x hx,hC.ver_ hl hx]
  ·rw [hS2.mn x hx,hS.mn x hx]) hst⟩
end
theorem TC.close {w0:World} {R:Assn} {n:Nat} {Q:Exit→Act→World→Prop} {env:List (Nat×Value)} {L:List (Nat×Assn)} {x:Code} {P:Program} (k m:Nat) {A B:Assn} (C:Assn) (hne:m≠k) (hA:lk L k=some A) (hB:lk L m=some B) (hC:∀ h f g:HF,HF.sub f h→HF.sub g h→HF.dis f g→A f→B g→C h) (h:TC P w0 R n x Q env ((m,emp) :: (k,C) :: L)):TC P w0 R n x Q env L :=
 fun a w ha hs=>h a w ha (zg2 hs hne hA hB hC)
end Go.Tm
namespace Go.Tm
open MemLike Eng
set_option linter.unusedSectionVars false
set_option linter.unusedVariables false
def cpt (d:Array Int):Nat→List Int
 | 0=>[]
 | n+1=>if n=0∨d[n]!≠d[n - 1]! then cpt d n++[d[n]!] else cpt d n
theorem zrq {d:Array Int} {n:Nat} (h:d[n]!≠d[n - 1]!):cpt d (n+1)=cpt d n++[d[n]!]:=by rw [cpt,if_pos (.inr h)]
theorem zuq {d:Array Int} {n:Nat} (h0:n≠0) (h:d[n]! =d[n - 1]!):cpt d (n+1)=cpt d n:=by rw [cpt,if_neg (by simp [h0,h])]
theorem zhL {d:Array Int}:cpt d 1=[d[0]!]:=by rw [cpt,if_pos (.inl rfl)]; rfl
structure CpA (d:Array Int) (k:Nat):Prop where
 len:(cpt d k).length=k
 eq:∀ j,j<k→(cpt d k)[j]! =d[j]!
theorem zmq {a:List Int} {x:Int} {j:Nat}:(a++[x])[j]! =if j<a.length then a[j]! else if j=a.length then x else 0:=by
 rw [List.getElem!_eq_getElem?_getD,List.getElem!_eq_getElem?_getD]
 by_cases h:j<a.length
 ·rw [if_pos h,List.getElem?_append_left h]
 ·rw [if_neg h,List.getElem?_append_right (by omega)]
  by_cases h2:j=a.length
  ·subst h2; simp
  ·rw [if_neg h2,List.getElem?_eq_none (by simp; omega)]; rfl
theorem CpA.start {d:Array Int}:CpA d 1:=by
 refine ⟨by rw [zhL]; rfl,fun j hj=>?_⟩
 have:j=0:=by omega
 subst this; rw [zhL]; rfl
theorem CpA.step {d:Array Int} {k:Nat} (h:CpA d k) (hne:d[k]!≠d[k - 1]!):CpA d (k+1):=by
 refine ⟨by rw [zrq hne,List.length_append,h.len]; rfl,fun j hj=>?_⟩
 rw [zrq hne,zmq,h.len]
 by_cases hc:j<k
 ·rw [if_pos hc]; exact h.eq j hc
 ·rw [if_neg hc,if_pos (by omega)]; congr 1; omega
theorem CpA.all {d:Array Int} (h:CpA d d.size):d.toList=cpt d d.size:=by
 refine List.ext_getElem? fun i=>?_
 by_cases hi:i<d.size
 ·have h1:=h.eq i hi
  rw [List.getElem!_eq_getElem?_getD,List.getElem?_eq_getElem (by rw [h.len]; exact hi)] at h1
  rw [List.getElem?_eq_getElem (by simpa using hi),List.getElem?_eq_getElem (by rw [h.len]; exact hi)]
  simp only [Option.getD_some] at h1
  rw [h1,getElem!_pos d i hi,Array.getElem_toList]
 ·rw [List.getElem?_eq_none (by simp; omega),List.getElem?_eq_none (by rw [h.len]; omega)]
structure CpI (d:Array Int) (k0 k k2:Nat) (D:Array Int):Prop where
 sz:D.size=d.size
 le:1≤k∧k+1≤k0+k2∧1≤k2∧1≤k0
 old:∀ j,k0+k2 - 1≤j→D[j]! =d[j]!
 len:(cpt d (k0+k2)).length=k
 eq:∀ j,j<k→D[j]! =(cpt d (k0+k2))[j]!
theorem CpI.start {d:Array Int} {k:Nat} (h:CpA d k) (hk:1≤k) (he:d[k]! =d[k - 1]!):CpI d k k 1 d :=
 ⟨rfl,by omega,fun _ _=>rfl,by rw [zuq (by omega) he,h.len],fun j hj=>by rw [zuq (by omega) he,h.eq j hj]⟩
theorem set_get! {D:Array Int} {k j:Nat} {v:Int} (hk:k<D.size):(D.setIfInBounds k v)[j]! =if j=k then v else D[j]!:=by
 rw [getElem!_def,getElem!_def,Array.getElem?_setIfInBounds]
 by_cases h:k=j
 ·subst h; rw [if_pos rfl,if_pos rfl,if_pos hk]
 ·rw [if_neg h,if_neg (fun e=>h e.symm)]
theorem CpI.yes {d:Array Int} {k0 k k2:Nat} {D:Array Int} (h:CpI d k0 k k2 D) (hn:k0+k2<d.size) (hne:D[k0+k2]!≠D[k0+k2 - 1]!):CpI d k0 (k+1) (k2+1) (D.setIfInBounds k D[k0+k2]!):=by
 have hle:=h.le
 have e1:=h.old (k0+k2) (by omega)
 have e2:=h.old (k0+k2 - 1) (by omega)
 rw [e1,e2] at hne
 have hD:k<D.size:=by rw [h.sz]; omega
 refine ⟨by simp [h.sz],by omega,fun j hj=>?_,?_,fun j hj=>?_⟩
 ·rw [set_get! hD,if_neg (by omega)]; exact h.old j (by omega)
 ·rw [←Nat.add_assoc,zrq hne,List.length_append,h.len]; rfl
 ·rw [set_get! hD,←Nat.add_assoc,zrq hne,zmq,h.len]
  by_cases hc:j=k
  ·rw [if_pos hc,if_neg (by omega),if_pos hc,e1]
  ·rw [if_neg hc,if_pos (by omega)]; exact h.eq j (by omega)
theorem CpI.no {d:Array Int} {k0 k k2:Nat} {D:Array Int} (h:CpI d k0 k k2 D) (he:D[k0+k2]! =D[k0+k2 - 1]!):CpI d k0 k (k2+1) D:=by
 have hle:=h.le
 have e1:=h.old (k0+k2) (by omega)
 have e2:=h.old (k0+k2 - 1) (by omega)
 rw [e1,e2] at he
 have e3:cpt d (k0+(k2+1))=cpt d (k0+k2):=by rw [←Nat.add_assoc,zuq (by omega) he]
 exact ⟨h.sz,by omega,fun j hj=>h.old j (by omega),by rw [e3]; exact h.len,fun j hj=>by rw [e3]; exact h.eq j hj⟩
theorem CpI.fin {d:Array Int} {k0 k k2:Nat} {D:Array Int} (h:CpI d k0 k k2 D) (hn:k0+k2=d.size):(D.extract 0 k).size=k∧(D.extract 0 k).toList=cpt d d.size:=by
 have hle:=h.le
 have hs:(D.extract 0 k).size=k:=by rw [Array.size_extract,h.sz]; omega
 refine ⟨hs,List.ext_getElem? fun i=>?_⟩
 have hlen:=h.len
 have heq:=h.eq
 rw [hn] at hlen heq
 by_cases hi:i<k
 ·have h1:=heq i hi
  have hsz:=h.sz
  rw [List.getElem!_eq_getElem?_getD,List.getElem?_eq_getElem (by rw [hlen]; exact hi),getElem!_pos D i (by omega)] at h1
  rw [List.getElem?_eq_getElem (by rw [Array.length_toList,hs]; exact hi),List.getElem?_eq_getElem (by rw [hlen]; exact hi)]
  simp only [Option.getD_some] at h1
  rw [←h1,Array.getElem_toList,Array.getElem_extract]
  congr 2; omega
 ·rw [List.getElem?_eq_none (by rw [Array.length_toList,hs]; omega),List.getElem?_eq_none (by rw [hlen]; omega)]
theorem zur {d:Array Int} {n:Nat} (hs:d.size=n) (h:n<2):d.toList=cpt d n:=by
 have:n=0∨n=1:=by omega
 rcases this with rfl | rfl
 ·rw [Array.eq_empty_of_size_eq_zero hs]; rfl
 ·rw [zhL]
  refine List.ext_getElem? fun i=>?_
  by_cases hi:i=0
  ·subst hi; rw [List.getElem?_eq_getElem (by simp; omega),getElem!_pos d 0 (by omega)]; rfl
  ·rw [List.getElem?_eq_none (by simp; omega),List.getElem?_eq_none (by simp; omega)]
theorem zup {a b:Int}:(cpt #[min a b,max a b] 2).toArray=zaq a b:=by
 rw [cpt]
 unfold zaq
 by_cases h:a=b
 ·subst h
  rw [if_neg (by simp),zhL,if_pos rfl]; simp
 ·rw [if_pos (.inr (by show max a b≠min a b; omega)),zhL,if_neg h]; rfl
def rowS (v:Value) (d:Array Int):Assn:=fun h=>∃ a b off c,v=.slice a d.size c∧d.size≤c∧(0<d.size→a=some ⟨b,off,none⟩)∧rowW encI 1 b off d.size d h
section
variable {P:Program} {w0:World} {R:Assn} {n:Nat} {Q:Exit→Act→World→Prop} {env:List (Nat×Value)} {L:List (Nat×Assn)} {ks:List Nat} {L0:List (Nat×Assn)} {ops:Array Oper} {rest:List (Bool×Oper)}
theorem TC.rowS {x:Code} (k:Nat) {v:Value} {d:Array Int} (hL:lk L k=some (Go.Tm.rowS v d)) (h:∀ a b off c,v=.slice a d.size c→d.size≤c→(0<d.size→a=some ⟨b,off,none⟩)→TC P w0 R n x Q env ((k,rowW encI 1 b off d.size d) :: L)):TC P w0 R n x Q env L:=fun a w ha hs=>by
 obtain ⟨X,hX,_,hto⟩:=Sat.some hs hL
 obtain ⟨a',b,off,c,h1,h2,h3,h4⟩:=hX
 exact h a' b off c h1 h2 h3 a w ha (hto _ h4)
theorem TL.rowS (k:Nat) {v:Value} {d:Array Int} (hL:lk L k=some (Go.Tm.rowS v d)) (h:∀ a b off c,v=.slice a d.size c→d.size≤c→(0<d.size→a=some ⟨b,off,none⟩)→Keep L0 ((k,rowW encI 1 b off d.size d) :: L) ks∧TL P w0 R n ks L0 ops Q rest env ((k,rowW encI 1 b off d.size d) :: L)):TL P w0 R n ks L0 ops Q rest env L:=fun a w ha hs hS=>by
 obtain ⟨X,hX,_,hto⟩:=Sat.some hs hL
 obtain ⟨a',b,off,c,h1,h2,h3,h4⟩:=hX
 obtain ⟨hk,h⟩:=h a' b off c h1 h2 h3
 exact h a w ha (hto _ h4) (SS.of (hto _ h4) hk)
end
theorem zkR {a:Option Addr} {b off m c:Nat} {d:Array Int} (hm:d.size=m) (hc:m≤c) (ha:0<m→a=some ⟨b,off,none⟩) {h:HF} (hr:rowW encI 1 b off m d h):rowS (.slice a m c) d h:=by
 subst hm; exact ⟨a,b,off,c,rfl,hc,ha,hr⟩
theorem zey {e:Nat} {v:Value} {d:Array Int} {h:HF} (ho:ownA encI 1 e v d h):rowS v d h:=by
 obtain ⟨a,b,c,h1,h2,h3,h4⟩:=zhg ho
 exact ⟨a,b,0,c,h1,h2,h3,h4⟩
theorem zq1 {b e:Nat} {x y:Int} {h:HF} (hp:pt b (.cells #[.int .i64 x,.int .i64 y] e) h):ownA encI 1 e (.slice (some ⟨b,0,none⟩) 2 2) #[x,y] h :=
 .inr ⟨b,2,_,rfl,hp,Nat.le_refl _,(by decide),rfl,fun i hi=>by
  have:i=0∨i=1:=by simp at hi; omega
  rcases this with rfl | rfl<;>rfl⟩
section
variable {l:Lay} {σ:M} {t:TakeS}
def TakeS.cnt (l:Lay) (σ:M) (t:TakeS) (c:Cnt):Cnt :=
 if t.at_=0∨t.at_=2 then t.climb.cnt l σ c
 else if t.at_=1 then cntX σ (l.field t.want[t.held.size]! 0) 0 c
 else if t.at_=3 then cntS σ (l.field t.held[t.held.size - 1]! 0) c
 else c
def zte (l:Lay) (σ:M) (d:Array Int):M:=if d.size=0 then σ else st σ (l.field d[0]! 0) 0
theorem TakeS.stp_0a (ha:t.at_=0) (h:(t.climbs l σ).2=false):t.stp l σ=((t.climbs l σ).1,σ):=by unfold TakeS.stp; rw [if_pos ha]; dsimp only; rw [if_neg (by simp [h])]
theorem TakeS.stp_0b (ha:t.at_=0) (h:(t.climbs l σ).2=true):t.stp l σ=({ (t.climbs l σ).1 with want:=zaq (t.climbs l σ).1.f0 (t.climbs l σ).1.f1,at_:=1 },σ):=by unfold TakeS.stp; rw [if_pos ha]; dsimp only; rw [if_pos h]
theorem TakeS.stp_2a (ha:t.at_=2) (h:(t.climbs l σ).2=false):t.stp l σ=((t.climbs l σ).1,σ):=by unfold TakeS.stp; rw [if_neg (by omega),if_neg (by omega),if_pos ha]; dsimp only; rw [if_neg (by simp [h])]
theorem TakeS.stp_2b (ha:t.at_=2) (h:(t.climbs l σ).2=true) (h2:zaq (t.climbs l σ).1.f0 (t.climbs l σ).1.f1=t.want):t.stp l σ=({ (t.climbs l σ).1 with at_:=4 },σ):=by unfold TakeS.stp; rw [if_neg (by omega),if_neg (by omega),if_pos ha]; dsimp only; rw [if_pos h,if_pos h2]
theorem TakeS.stp_2c (ha:t.at_=2) (h:(t.climbs l σ).2=true) (h2:zaq (t.climbs l σ).1.f0 (t.climbs l σ).1.f1≠t.want):t.stp l σ=((t.climbs l σ).1.leave l,σ):=by unfold TakeS.stp; rw [if_neg (by omega),if_neg (by omega),if_pos ha]; dsimp only; rw [if_pos h,if_neg h2]
theorem TakeS.leave_want:(t.leave l).want=t.want:=by unfold TakeS.leave; split<;>rfl
theorem TakeS.climbs_st:(t.climbs l σ).1.at_=t.at_∧(t.climbs l σ).1.held=t.held∧(t.climbs l σ).1.want=t.want:=by
 unfold TakeS.climbs; dsimp only
 split
 ·exact ⟨rfl,rfl,rfl⟩
 ·split<;>exact ⟨rfl,rfl,rfl⟩
theorem TakeS.cnt_0 {c:Cnt} (h:t.at_=0∨t.at_=2):t.cnt l σ c=t.climb.cnt l σ c:=by unfold TakeS.cnt; rw [if_pos h]
theorem TakeS.cnt_1 {c:Cnt} (h:t.at_=1):t.cnt l σ c=cntX σ (l.field t.want[t.held.size]! 0) 0 c:=by unfold TakeS.cnt; rw [if_neg (by omega),if_pos h]
end
end Go.Tm
namespace Go.Tm
open MemLike Eng
set_option linter.unusedSectionVars false
set_option linter.unusedVariables false
section
variable {w0 w:World} {R:Assn} {A B C:Assn} {Cs:List Assn}
theorem Sat.rot3 (h:Sat w0 (lab 0 (A :: B :: C :: Cs)) R w):Sat w0 (lab 0 (C :: A :: B :: Cs)) R w:=by
 refine h.back (ks:=2 :: 0 :: 1 :: List.range' 3 Cs.length) (zei ?_) (zjZ (by simp) fun t k hk=>?_)
 ·simp only [List.nodup_cons,List.mem_cons,List.mem_range'_1,not_or]
  exact ⟨⟨by omega,by omega,by omega⟩,⟨by omega,by omega⟩,by omega,List.nodup_range'⟩
 ·match t with
  | 0=>cases hk; rw [zaJ]; rfl
  | 1=>cases hk; rw [zaJ]; rfl
  | 2=>cases hk; rw [zaJ]; rfl
  | t+3 =>
   obtain ⟨h2,rfl⟩:=zgx (s:=3) (n:=Cs.length) (t:=t) (by simpa using hk)
   rw [zaJ,Nat.add_comm 3 t]; rfl
theorem Sat.headH (h:Sat w0 (lab 0 (A :: Cs)) R w):∃ g,A g∧∀ B,B g→Sat w0 (lab 0 (B :: Cs)) R w:=by
 obtain ⟨X,hX,_,hto⟩:=Sat.some h (k:=0) (A:=A) (by rw [zaJ]; rfl)
 refine ⟨X,hX,fun B hB=>(hto B hB).weaken fun j D hD=>?_⟩
 rw [zaJ] at hD
 rw [zax]
 match j with
 | 0=>rw [if_pos rfl]; exact hD
 | j+1=>rw [if_neg (by omega),zaJ]; exact hD
end
section
variable {P:Program} {f:FuncId} {args:List Value} {T T1 T2 E:TypeId} {tb:Nat} {l:Lay} {t:TakeS} {Cs:List Assn} {Ψ:Value→List Assn→Prop}
end
theorem zsI {d:Array Int} {n:Nat} (h:d.size=n):((List.range n).map fun i=>d[i]!).toArray=d:=by
 subst h
 refine Array.ext (by simp) fun i h1 h2=>?_
 rw [List.getElem_toArray,List.getElem_map,List.getElem_range,getElem!_pos d i h2]
def TakeS.roots (t:TakeS):Array Int:=if t.at_=4 then t.want else #[]
end Go.Tm
namespace Go.Tm
open MemLike Eng
set_option linter.unusedSectionVars false
set_option linter.unusedVariables false
structure Op2 where
 u:Int
 v:Int
 deriving Inhabited,DecidableEq
structure AgL (l:Lay) (σ τ:M):Prop where
 sz:τ.size=σ.size
 eq:∀ j,(∀ x,l.nd x→j≠l.field x 0)→get τ j=get σ j
section
variable {l:Lay} (hl:l.Ok) {σ τ σ1:M} {p:Pen} {pr:Int→Int} {g g1:G} {par rt:Int→Int}
include hl
theorem zq9 {x y f:Int} (hx:l.nd x) (hy:l.nd y) (hf:1≤f∧f<7):l.field x f≠l.field y 0:=fun e=>by have:=(zan hl hx (by omega) hy (by decide)).1 e; omega
theorem AgL.gf (h:AgL l σ τ) {x f:Int} (hx:l.nd x) (hf:1≤f∧f<7):gf l τ x f=gf l σ x f:=h.eq _ fun y hy=>zq9 hl hx hy hf
theorem zq8 {t:Int} (ht:1≤t∧t≤l.T) {y:Int} (hy:l.nd y):l.state t≠l.field y 0:=zmR hl ht hy (by decide)
theorem AgL.right (h:AgL l σ τ) (hR:zaw l pr σ g):zaw l pr τ g :=
 hR.same_ hl h.sz (fun j hj=>h.eq j fun x hx e=>zfQ hl hj (.inr (.inr ⟨x,0,hx,.inl rfl,rfl⟩)) e.symm) (fun x f hx hf=>h.gf hl hx (by omega)) (fun x hx=>zlQ (h.gf hl hx (by decide))) fun x hx=>zcD (h.gf hl hx (by decide))
theorem AgL.alike (h:AgL l σ τ):Alike l σ τ:=⟨fun x f hx hf=>h.gf hl hx.1 (by omega),fun t ht=>h.eq _ fun y hy=>zq8 hl ht hy⟩
theorem AgL.parent_ (h:AgL l σ τ) {x:Int} (hx:l.nd x):parent l τ x=parent l σ x:=zcD (h.gf hl hx (by decide))
theorem AgL.st (h:AgL l σ τ) {x v:Int} (hx:l.nd x):AgL l σ (st τ (l.field x 0) v):=⟨by rw [zaz]; exact h.sz,fun j hj=>by rw [zaB (hj x hx)]; exact h.eq j hj⟩
theorem zaw.rootS (hR:zaw l pr σ g) (hp:∀ x,V0 l x→parent l σ x=par x) (hS:∀ x,V0 l x→∃ h:Nat,Up par (V0 l) h x (rt x)) {x:Int} (hx:V0 l x) {k:Nat} (hk:560<k):Go.Tm.root l k σ x=some (rt x,σ):=by
 obtain ⟨F,mk,L,hI⟩:=hR
 have hF:=hI.lm.forest
 rw [hF.root hl hx.1 hk]
 obtain ⟨h,_,h2⟩:=hF.up hl hx.1
 have lb:=zcF hl
 have hT:=hI.tours 0 (by omega)
 have hv:∀ y∈(F x).list,V0 l y:=fun y hy=>⟨(hF.rep x hx.1).nd y hy,decide_eq_true (hT.lev x hx.1 (of_decide_eq_true hx.2) y hy)⟩
 obtain ⟨h',h3⟩:=hS x hx
 have h4:=h2.mono hv
 rw [(h4.uniq (h3.congr hp)).2]
structure Lk0 (l:Lay) (pr:Int→Int) (σ:M) (par rt:Int→Int) (g:G):Prop where
 rg:zaw l pr σ g
 seen:SeenF l σ par rt
 par_:∀ x,V0 l x→parent l σ x=par x
theorem AgL.lk0 (h:AgL l σ τ) (hk:Lk0 l pr σ par rt g):Lk0 l pr τ par rt g:=⟨h.right hl hk.rg,(h.alike hl).seen hk.seen,fun x hx=>by rw [h.parent_ hl hx.1]; exact hk.par_ x hx⟩
theorem Lk0.root (hk:Lk0 l pr σ par rt g) {x:Int} (hx:V0 l x) {k:Nat} (h:560<k):Go.Tm.root l k σ x=some (rt x,σ):=hk.rg.rootS hl hk.par_ (fun x hx=>(hk.seen.up x hx).imp fun _ h=>h.2) hx h
omit hl in
theorem Lk0.size (hk:Lk0 l pr σ par rt g):σ.size=l.cells:=hk.rg.size
theorem Lk0.stL (hk:Lk0 l pr σ par rt g) {x v:Int} (hx:l.nd x):Lk0 l pr (st σ (l.field x 0) v) par rt g:=((AgL.mk rfl fun _ _=>rfl:AgL l σ σ).st hl hx).lk0 hl hk
end
def ts0 (l:Lay) (fe:Nat→Op2):Nat→TakeS:=fun i=>take0 l (fe i).u (fe i).v ((i+1:Nat):Int)
structure EndOk (V:Int) (x:Op2):Prop where
 u:0≤x.u∧x.u<V
 v:0≤x.v∧x.v<V
instance {V:Int} {x:Op2}:Decidable (EndOk V x):=decidable_of_iff ((0≤x.u∧x.u<V)∧0≤x.v∧x.v<V) ⟨fun h=>⟨h.1,h.2⟩,fun h=>⟨h.1,h.2⟩⟩
theorem GL.start {l:Lay} (hl:l.Ok) {σ:M} {pr par rt:Int→Int} {g:G} (hk:Lk0 l pr σ par rt g) (h0:∀ v:Int,0≤v∧v<l.V→gf l σ (rt (l.vertex 0 v)) 0=0) {n:Nat} (hn:n≤l.T) {fe:Nat→Op2} (he:∀ i,i<n→EndOk l.V (fe i)):GL l σ par rt n (ts0 l fe) (fun _=>false) :=
 ⟨hk.size,hk.seen,fun i hi=>TInv.take0 hl hk.seen (he i hi).u (he i hi).v ⟨by omega,by omega⟩,fun i hi=>by show ((i+1:Nat):Int)=_; omega,fun i hi _ h=>by exact absurd (show (0:Int)=3 from h) (by decide),fun v hv=>.inl (h0 v hv),hn⟩
end Go.Tm
namespace Go.Tm
open MemLike Eng
set_option linter.unusedSectionVars false
set_option linter.unusedVariables false
theorem zl9 {α:Type} [Inhabited α] {enc:α→List Value} {m e g c n:Nat} {a:Option Addr} {d:Array α} (hn:d.size=n) (ha:0<n→a=some ⟨g,0,none⟩):zaZ (ownA enc m e (.slice a n c) d) enc m g 0 n (fun i=>d[i]!):=by subst hn; exact zaR ha
theorem ze9 {a b:Int}:(zaq a b).size≤2:=by rw [zdK]; split<;>decide
theorem TakeS.stp_wz {l:Lay} {σ:M} {t:TakeS} (h:t.want.size≤2):(t.stp l σ).1.want.size≤2:=by
 have hc:=TakeS.climbs_st (l:=l) (σ:=σ) (t:=t)
 unfold TakeS.stp
 split
 ·dsimp only
  split
  ·exact ze9
  ·rw [hc.2.2]; exact h
 ·split
  ·dsimp only
   split
   ·exact h
   ·show (t.leave l).want.size≤2; rw [TakeS.leave_want]; exact h
  ·split
   ·dsimp only
    split
    ·split
     ·show (t.climbs l σ).1.want.size≤2; rw [hc.2.2]; exact h
     ·show ((t.climbs l σ).1.leave l).want.size≤2; rw [TakeS.leave_want,hc.2.2]; exact h
    ·rw [hc.2.2]; exact h
   ·split
    ·dsimp only; split<;>exact h
    ·exact h
section
variable {l:Lay} (hl:l.Ok) {σ:M} {pr par rt:Int→Int} {t:TakeS} {g:G}
include hl
theorem TInv.own (hS:SeenF l σ par rt) (hz:σ.size=l.cells) (h:TInv l σ par rt t) (htr:t.tries≤999999):AgL l σ (t.stp l σ).2∧∀ c,get (t.stp l σ).2 c≠get σ c→(∃ v:Int,(0≤v∧v<l.V)∧c=l.field (rt (l.vertex 0 v)) 0)∧(get σ c=0∧get (t.stp l σ).2 c=t.thread∨get σ c=t.thread∧get (t.stp l σ).2 c=0):=by
 have hT:(l.T:Int)≤8:=by have:=hl.2.2.2.2; omega
 have hth:=h.th
 have hat:=h.at_
 have same:∀ {t'},t.stp l σ=(t',σ)→AgL l σ (t.stp l σ).2∧∀ c,get (t.stp l σ).2 c≠get σ c→(∃ v:Int,(0≤v∧v<l.V)∧c=l.field (rt (l.vertex 0 v)) 0)∧(get σ c=0∧get (t.stp l σ).2 c=t.thread∨get σ c=t.thread∧get (t.stp l σ).2 c=0):=fun {t'} e=>by
  rw [e]; exact ⟨⟨rfl,fun _ _=>rfl⟩,fun c hc=>absurd rfl hc⟩
 have stor:∀ {t' x v},t.stp l σ=(t',stL l σ x v)→V0 l x→(∃ u:Int,(0≤u∧u<l.V)∧x=rt (l.vertex 0 u))→(lkF l σ x=0∧v=t.thread∨lkF l σ x=t.thread∧v=0)→AgL l σ (t.stp l σ).2∧∀ c,get (t.stp l σ).2 c≠get σ c→(∃ v:Int,(0≤v∧v<l.V)∧c=l.field (rt (l.vertex 0 v)) 0)∧(get σ c=0∧get (t.stp l σ).2 c=t.thread∨get σ c=t.thread∧get (t.stp l σ).2 c=0):=fun {t' x v} e hx hu hv=>by
  rw [e]
  refine ⟨(AgL.mk rfl fun _ _=>rfl:AgL l σ σ).st hl hx.1,fun c hc=>?_⟩
  have hc:get (stL l σ x v) c≠get σ c:=hc
  have e1:c=l.field x 0:=Classical.byContradiction fun hne=>hc (zaB hne)
  subst e1
  obtain ⟨u,hu1,rfl⟩:=hu
  have hb:=zaS hl hx.1 (f:=0) (by decide)
  have hv2:get (stL l σ (rt (l.vertex 0 u)) v) (l.field (rt (l.vertex 0 u)) 0)=v:=by
   unfold stL; rw [zeR (by rcases hv with h | h<;>omega),if_pos ⟨rfl,hb.2.1,by rw [hz]; exact hb.2.2⟩]
  refine ⟨⟨u,hu1,rfl⟩,?_⟩
  show lkF l σ _=0∧get (stL l σ _ v) _=t.thread∨lkF l σ _=t.thread∧get (stL l σ _ v) _=0
  rw [hv2]; exact hv
 have cases5:t.at_=0∨t.at_=1∨t.at_=2∨t.at_=3∨t.at_=4:=by omega
 rcases cases5 with ha | ha | ha | ha | ha
 ·obtain ⟨t',e,_⟩:=h.step0 hl hS ha; exact same e
 ·obtain ⟨x,hx,hxv,_,⟨h0,t',e,_⟩ | ⟨_,t',e,_⟩⟩:=h.step1 hl hS hz ha htr
  ·refine stor e hxv ?_ (.inl ⟨h0,rfl⟩)
   rcases zbZ (h.h1 ha).1 with q | q
   ·exact ⟨t.u,h.uv.1,hx.trans q⟩
   ·exact ⟨t.v,h.uv.2,hx.trans q⟩
  ·exact same e
 ·obtain ⟨t',e,_⟩:=h.step2 hl hS ha; exact same e
 ·obtain ⟨x,t',hx,hxv,_,hlk,e,_⟩:=h.step3 hl hS hz ha htr
  have h30:=h.h3 ha
  obtain ⟨v,hv,hv2⟩:=zhn hl hS h (k:=t.held.size - 1) (by omega)
  exact stor e hxv ⟨v,hv,hx.trans hv2⟩ (.inr ⟨hlk,rfl⟩)
 ·exact same (TInv.step4 hl ha)
end
end Go.Tm
namespace Go.Tm
open MemLike Eng
set_option linter.unusedSectionVars false
set_option linter.unusedVariables false
theorem ziB {D:Array Bool} {i j:Nat} {b:Bool} (hi:i<D.size):(D.setIfInBounds i b)[j]! =if j=i then b else D[j]!:=by
 rw [getElem!_def,getElem!_def,Array.getElem?_setIfInBounds]
 by_cases h:i=j
 ·subst h; rw [if_pos rfl,if_pos rfl,if_pos hi]
 ·rw [if_neg h,if_neg fun e=>h e.symm]
abbrev ovD (D:Array Bool):Nat→Bool:=fun j=>D[j]!
structure GS (l:Lay) (σ:M) (par rt:Int→Int) (n:Nat) (ts tr:Nat→TakeS) (D:Array Bool) (B:Int):Prop where
 gl:GL l σ par rt n ts (ovD D)
 sz:D.size=n
 tr:∀ j,j<n→D[j]! =false→tr j=ts j
 w:∀ j,j<n→(ts j).want.size≤2∧(ts j).tries≤B
def Srch (l:Lay) (par rt:Int→Int) (n r p:Nat) (got:Int) (ts:Nat→TakeS) (D:Array Bool):Prop :=
 (got=-1∧(∀ j,j<n→D[j]! =false→(ts j).at_≠4)∧∃ m,Q1 l par rt n r p (2 * (4 * l.nodes+6).toNat+5) ts (ovD D)∨Q2 l par rt n r p (4 * l.nodes+6).toNat m ts (ovD D)) ∨
 (0≤got∧∃ j,j<n∧D[j]! =false∧(ts j).at_=4)
section
variable {l:Lay} (hl:l.Ok) {σ σ':M} {par rt:Int→Int} {n r p:Nat} {got:Int} {ts tr:Nat→TakeS} {D:Array Bool} {B:Int} {t:TakeS}
theorem Srch.skip (h:Srch l par rt n r p got ts D) (ho:D[p]! =true):Srch l par rt n r (p+1) got ts D:=by
 have hne:∀ j,ovD D j=false→j≠p:=fun j hj e=>by subst e; rw [show ovD D j=true from ho] at hj; cases hj
 rcases h with ⟨h1,h2,m,hq⟩ | h
 ·refine .inl ⟨h1,h2,m,?_⟩
  rcases hq with ⟨i,hi,hoi,ha,hb⟩ | ⟨mx,lv,no,a,ha,hoa,hfa,wt⟩
  ·exact .inl ⟨i,hi,hoi,ha,by rw [zbc,if_neg (hne i hoi)]; exact hb⟩
  ·exact .inr ⟨mx,fun j hj ho hf h3=>by rw [zbc,if_neg (hne j ho)]; exact lv j hj ho hf h3,no,a,ha,hoa,hfa,by rw [zbc,if_neg (hne a hoa)]; exact wt⟩
 ·exact .inr h
theorem Srch.round (h:Srch l par rt n r n got ts D):Srch l par rt n (r+1) 0 got ts D:=by
 rcases h with ⟨h1,h2,m,hq⟩ | h
 ·exact .inl ⟨h1,h2,m,zm5 hq⟩
 ·exact .inr h
theorem Srch.found (h:Srch l par rt n r p got ts D) (hg:¬got<0):∃ j,j<n∧D[j]! =false∧(ts j).at_=4:=by
 rcases h with h | h
 ·omega
 ·exact h.2
include hl
theorem Srch.start (hG:GS l σ par rt n ts tr D B) (hno:∀ j,j<n→D[j]! =false→(ts j).at_≠4) (hex:∃ j,j<n∧D[j]! =false):Srch l par rt n 0 0 (-1) ts D:=by
 obtain ⟨m,h⟩:=zm4 hl hG.gl (K:=(4 * l.nodes+6).toNat) (Nat.le_refl _) hno hex
 exact .inl ⟨rfl,hno,m,h⟩
theorem Srch.step (hG:GS l σ par rt n ts tr D B) (h:Srch l par rt n r p got ts D) (hp:p<n) (ho:D[p]! =false) (hB:B≤999999) (e:(ts p).stp l σ=(t,σ')) :
  GS l σ' par rt n (setT ts p t) (setT tr p t) D (B+1)∧(t.at_=4→got<0→Srch l par rt n r (p+1) (p:Int) (setT ts p t) D)∧(¬(t.at_=4∧got<0)→Srch l par rt n r (p+1) got (setT ts p t) D):=by
 have hw:=hG.w p hp
 obtain ⟨t2,σ2,e2,hG2,hu,hv,htr,_,_,_,_,_,c4⟩:=hG.gl.step hl hp ho (by omega)
 obtain ⟨rfl,rfl⟩:=Prod.mk.inj (e.symm.trans e2)
 have key:=fun (hgot:got=-1) (m) hq=>zod hl hG.gl hp (r:=r) (K:=(4 * l.nodes+6).toNat) (m:=m) (Nat.le_refl _) hq ho (by omega) e
 refine ⟨⟨hG2,hG.sz,fun j hj hj0=>?_,fun j hj=>?_⟩,fun h4 hg=>?_,fun hn4=>?_⟩
 ·by_cases q:j=p
  ·subst q; rw [zar,zar]
  ·rw [zaG q,zaG q]; exact hG.tr j hj hj0
 ·by_cases q:j=p
  ·subst q; rw [zar]
   have h1:=TakeS.stp_wz (l:=l) (σ:=σ) hw.1
   rw [e] at h1
   exact ⟨h1,by omega⟩
  ·rw [zaG q]; have:=hG.w j hj; exact ⟨this.1,by omega⟩
 ·exact .inr ⟨by omega,p,hp,ho,by rw [zar]; exact h4⟩
 ·rcases h with ⟨h1,h2,m,hq⟩ | ⟨h1,j,hj,hj0,h4⟩
  ·have hat:t.at_≠4:=fun q=>hn4 ⟨q,by omega⟩
   refine .inl ⟨h1,fun j hj hj0=>?_,m,(key h1 m hq).resolve_left hat⟩
   by_cases q:j=p
   ·subst q; rw [zar]; exact hat
   ·rw [zaG q]; exact h2 j hj hj0
  ·refine .inr ⟨h1,j,hj,hj0,?_⟩
   by_cases q:j=p
   ·subst q; rw [zar,c4 h4]; exact h4
   ·rw [zaG q]; exact h4
def gvN (l:Lay) (σ:M) (d:Array Int):Nat→M
 | 0=>σ
 | k+1=>st (gvN l σ d k) (l.field d[k]! 0) 0
theorem zri {d:Array Int} (hz:σ.size=l.cells) (hd:∀ k,k<d.size→l.nd d[k]!):∀ k,k≤d.size→AgL l σ (gvN l σ d k)∧∀ x,l.nd x→(gf l (gvN l σ d k) x 0=gf l σ x 0∨gf l (gvN l σ d k) x 0=0)∧((∃ j,j<k∧d[j]! =x)→gf l (gvN l σ d k) x 0=0):=by
 intro k
 induction k with
 | zero=>exact fun _=>⟨⟨rfl,fun _ _=>rfl⟩,fun x hx=>⟨.inl rfl,fun ⟨j,hj,_⟩=>absurd hj (Nat.not_lt_zero _)⟩⟩
 | succ k ih =>
  intro hk
  obtain ⟨h1,h2⟩:=ih (by omega)
  have hx:=hd k (by omega)
  have hz2:(gvN l σ d k).size=l.cells:=by rw [h1.sz]; exact hz
  have key:∀ x,l.nd x→gf l (gvN l σ d (k+1)) x 0=if x=d[k]! then 0 else gf l (gvN l σ d k) x 0:=fun x hx'=>by
   rw [gvN]
   unfold gf
   rw [za4 hl hz2 hx (by decide) (by decide)]
   by_cases e:x=d[k]!
   ·rw [if_pos (by rw [e]),if_pos e]
   ·rw [if_neg fun q=>e ((zan hl hx' (by decide) hx (by decide)).1 q).1,if_neg e]
  refine ⟨h1.st hl hx,fun x hx'=>?_⟩
  rw [key x hx']
  by_cases e:x=d[k]!
  ·rw [if_pos e]; exact ⟨.inr rfl,fun _=>rfl⟩
  ·rw [if_neg e]
   refine ⟨(h2 x hx').1,fun ⟨j,hj,hjx⟩=>(h2 x hx').2 ⟨j,?_,hjx⟩⟩
   have:j≠k:=fun q=>e (by rw [←hjx,q])
   omega
theorem GS.give (hG:GS l σ par rt n ts tr D B) {i:Nat} (hi:i<n) (ho:D[i]! =false) (h4:(ts i).at_=4) (hB:1≤B) :
  GS l (gvN l σ (ts i).held (ts i).held.size) par rt n (setT ts i (take0 l (ts i).u (ts i).v ((i+1:Nat):Int))) tr (D.setIfInBounds i true) B:=by
 have hT:=hG.gl.ti i hi
 have hS:=hG.gl.seen
 have hnl:=hG.gl.hn
 have hth:=hG.gl.th i hi
 have hT8:(l.T:Int)≤8:=by have:=hl.2.2.2.2; omega
 have hiD:i<D.size:=by rw [hG.sz]; exact hi
 have hnd:∀ k,k<(ts i).held.size→V0 l (ts i).held[k]!:=fun k hk=>by
  obtain ⟨v,hv,e⟩:=zhn hl hS hT hk
  rw [e]; exact zc3 hl hS hv
 have hsp:=zri hl hG.gl.size (d:=(ts i).held) (fun k hk=>(hnd k hk).1)
 have hall:=hsp (ts i).held.size (Nat.le_refl _)
 have oth:∀ j,j<n→j≠i→∀ k,k≤(ts i).held.size→TInv l (gvN l σ (ts i).held k) par rt (ts j):=fun j hj hne k=>by
  induction k with
  | zero=>exact fun _=>hG.gl.ti j hj
  | succ k ih =>
   intro hk
   have h1:=hsp k (by omega)
   refine (ih (by omega)).other hl (by rw [h1.1.sz]; exact hG.gl.size) ((h1.1.alike hl).seen hS) (hnd k (by omega)).1 (by decide) ?_
   have hthj:=hG.gl.th j hj
   have hlk:lkF l σ (ts i).held[k]! =(ts i).thread:=hT.held.lk k (by omega)
   rcases (h1.2 _ (hnd k (by omega)).1).1 with e | e
   ·show gf l _ _ 0≠_
    rw [e]
    have hlk:gf l σ (ts i).held[k]! 0=(ts i).thread:=hlk
    rw [hlk,hth,hthj]; omega
   ·show gf l _ _ 0≠_
    rw [e,hthj]; omega
 have hS':=(hall.1.alike hl).seen hS
 refine ⟨⟨by rw [hall.1.sz]; exact hG.gl.size,hS',fun j hj=>?_,fun j hj=>?_,fun j hj hj0=>?_,fun v hv=>?_,hnl⟩,by simp [hG.sz],fun j hj hj0=>?_,fun j hj=>?_⟩
 ·by_cases q:j=i
  ·subst q; rw [zar]; exact TInv.take0 hl hS' hT.uv.1 hT.uv.2 ⟨by omega,by omega⟩
  ·rw [zaG q]; exact oth j hj q _ (Nat.le_refl _)
 ·by_cases q:j=i
  ·subst q; rw [zar]; show ((j+1:Nat):Int)=_; omega
  ·rw [zaG q]; exact hG.gl.th j hj
 ·have hj0:(D.setIfInBounds i true)[j]! =false:=hj0
  rw [ziB hiD] at hj0
  by_cases q:j=i
  ·rw [if_pos q] at hj0; cases hj0
  ·rw [if_neg q] at hj0; rw [zaG q]; exact hG.gl.sh j hj hj0
 ·have hr:=zc3 hl hS hv
  have hx:=hall.2 _ hr.1
  rcases hG.gl.lk v hv with h0 | ⟨j,k,j1,j2,j3,j4⟩
  ·left
   show gf l _ _ 0=0
   rcases hx.1 with e | e
   ·rw [e]; exact h0
   ·exact e
  ·by_cases q:j=i
   ·subst q; left; exact hx.2 ⟨k,j3,j4⟩
   ·right
    refine ⟨j,k,j1,?_,by rw [zaG q]; exact j3,by rw [zaG q]; exact j4⟩
    show (D.setIfInBounds i true)[j]! =false
    rw [ziB hiD,if_neg q]; exact j2
 ·rw [ziB hiD] at hj0
  by_cases q:j=i
  ·rw [if_pos q] at hj0; cases hj0
  ·rw [if_neg q] at hj0; rw [zaG q]; exact hG.tr j hj hj0
 ·by_cases q:j=i
  ·subst q; rw [zar]; exact ⟨(by show (0:Nat)≤2; decide),by show (1:Int)≤B; exact hB⟩
  ·rw [zaG q]; exact hG.w j hj
omit hl in
theorem GS.mono {B':Int} (h:GS l σ par rt n ts tr D B) (hB:B≤B'):GS l σ par rt n ts tr D B':=⟨h.gl,h.sz,h.tr,fun j hj=>⟨(h.w j hj).1,by have:=(h.w j hj).2; omega⟩⟩
end
theorem GS.start {l:Lay} {σ:M} {par rt:Int→Int} {n:Nat} {fe:Nat→Op2} (hG:GL l σ par rt n (ts0 l fe) (fun _=>false)):GS l σ par rt n (ts0 l fe) (ts0 l fe) (Array.replicate n false) 1:=by
 have e:∀ j,j<n→(Array.replicate n false)[j]! =false:=fun j hj=>by rw [getElem!_pos _ _ (by simp; exact hj)]; simp
 refine ⟨⟨hG.size,hG.seen,hG.ti,hG.th,fun j hj _ h3=>hG.sh j hj rfl h3,fun v hv=>(hG.lk v hv).imp id fun ⟨j,k,j1,_,j3,j4⟩=>⟨j,k,j1,e j j1,j3,j4⟩,hG.hn⟩,by simp,fun _ _ _=>rfl,fun j hj=>⟨(by show (0:Nat)≤2; decide),(by show (1:Int)≤1; decide)⟩⟩
end Go.Tm
namespace Go.Tm
open MemLike Eng
set_option linter.unusedSectionVars false
set_option linter.unusedVariables false
def cAB (n:Cnt) (a h:Nat):Cnt:=⟨if a=0 then n.c1 else IntKind.i64.wrap (n.c1+a),n.c2,if h=0 then n.c3 else IntKind.i64.wrap (n.c3+h),n.c4,n.c5⟩
theorem zny {x:Int} {a:Nat}:IntKind.i64.wrap ((if a=0 then x else IntKind.i64.wrap (x+a))+1)=IntKind.i64.wrap (x+((a+1:Nat):Int)):=by
 split
 ·rename_i h; subst h; rfl
 ·rw [IntKind.wrap_i64,IntKind.wrap_i64,IntKind.wrap_i64]; omega
theorem zse {n:Cnt} {a h:Nat}:(cAB n a h).ld=cAB n (a+1) h:=by
 unfold cAB Cnt.ld; dsimp only; rw [zny,if_neg (show ¬a+1=0 by omega)]
theorem zvk {n:Cnt} {a h:Nat}:(cAB n a h).sw=cAB n a (h+1):=by
 unfold cAB Cnt.sw; dsimp only; rw [zny,if_neg (show ¬h+1=0 by omega)]
def seqA (l:Lay) (σ:M) (t:TakeS):Nat→TakeS
 | 0=>t
 | k+1=>((seqA l σ t k).climbs l σ).1
structure Sim (s t:TakeS):Prop where
 w:t.which=s.which
 c:t.climb=s.climb
 u:t.u=s.u
 v:t.v=s.v
section
variable {l:Lay} (hl:l.Ok) {σ σ0 σ':M} {pr par rt:Int→Int} {t t0 s:TakeS} {n0 c:Cnt} {N k h j:Nat}
theorem Sim.stp (h:Sim s t) (he:t.climb.stp l σ=s.climb.stp l σ0):(t.climbs l σ).2=(s.climbs l σ0).2∧Sim (s.climbs l σ0).1 (t.climbs l σ).1:=by
 obtain ⟨h1,h2,h3,h4⟩:=h
 unfold TakeS.climbs
 dsimp only
 rw [he,h1,h3,h4]
 split
 ·exact ⟨rfl,rfl,rfl,rfl,rfl⟩
 ·split
  ·exact ⟨rfl,rfl,rfl,rfl,rfl⟩
  ·exact ⟨rfl,rfl,rfl,rfl,rfl⟩
def nov (l:Lay) (σ:M) (t:TakeS) (k:Nat):Prop:=∀ j,j<k→((seqA l σ t j).climbs l σ).2=false
theorem zuT {k N:Nat} (h:nov l σ t k) (hN:nov l σ t N) (h1:((seqA l σ t k).climbs l σ).2=true) (h2:((seqA l σ t N).climbs l σ).2=true):k=N:=by
 by_cases a:k<N
 ·have:=hN k a; rw [h1] at this; cases this
 ·by_cases b:N<k
  ·have:=h N b; rw [h2] at this; cases this
  ·omega
theorem zmd {k:Nat} (h:nov l σ t k) (h1:((seqA l σ t k).climbs l σ).2=false):nov l σ t (k+1):=fun j hj=>by
 by_cases e:j=k
 ·subst e; exact h1
 ·exact h j (by omega)
structure Cm (l:Lay) (σ0:M) (par rt:Int→Int) (t0:TakeS) (σ:M) (t:TakeS):Prop where
 ti:TInv l σ par rt t
 sz:σ.size=l.cells
 seen:SeenF l σ par rt
 ag:AgL l σ0 σ
 tr:t.tries=t0.tries
 u:t.u=t0.u
 v:t.v=t0.v
 th:t.thread=t0.thread
 w:t.want.size≤2
 lk:∀ x,l.nd x→(∀ k,k<t.held.size→t.held[k]!≠x)→gf l σ x 0=gf l σ0 x 0
inductive Ph (l:Lay) (σ0:M) (par rt:Int→Int) (t0:TakeS) (n0:Cnt):Nat→TakeS→Cnt→Prop
 | a {k:Nat} (t:TakeS) (ht:t=seqA l σ0 t0 k) (h0:t.at_=0) (hn:nov l σ0 t0 k) (hb:trem l par rt t+k≤4 * l.nodes.toNat+4):Ph l σ0 par rt t0 n0 k t (cAB n0 k 0)
 | b {N h:Nat} (t:TakeS) (h1:t.at_=1) (hh:t.held.size=h) (hn:nov l σ0 t0 N) (ho:((seqA l σ0 t0 N).climbs l σ0).2=true) (hb:N≤4 * l.nodes.toNat+4):Ph l σ0 par rt t0 n0 (N+1+h) t (cAB n0 (N+1) h)
 | c {N j:Nat} (t:TakeS) (h2:t.at_=2) (hs:Sim (seqA l σ0 t0 j) t) (hj:nov l σ0 t0 j) (hn:nov l σ0 t0 N) (ho:((seqA l σ0 t0 N).climbs l σ0).2=true) (hb:N≤4 * l.nodes.toNat+4):Ph l σ0 par rt t0 n0 (N+1+t.held.size+j) t (cAB n0 (N+1+j) t.held.size)
 | d {N:Nat} (t:TakeS) (h4:t.at_=4) (hb:N≤4 * l.nodes.toNat+4):Ph l σ0 par rt t0 n0 (2 * (N+1)+t.held.size) t (cAB n0 (2 * (N+1)) t.held.size)
include hl
theorem zuS (hn:nov l σ0 t0 j) (hN:nov l σ0 t0 N) (ho:((seqA l σ0 t0 N).climbs l σ0).2=true):j≤N:=Classical.byContradiction fun h=>by
 have:=hn N (by omega); rw [ho] at this; cases this
omit hl in
theorem zf5 (h:TInv l σ par rt t) (ha:t.at_=0∨t.at_=2):CInv l σ t.climb:=by
 rcases h.cl ha with ⟨_,h⟩ | ⟨_,_,h⟩<;>exact h.to.inv
theorem Ph.step (hlk0:∀ v:Int,0≤v∧v<l.V→gf l σ0 (rt (l.vertex 0 v)) 0=0) (hS0:SeenF l σ0 par rt) (ht0:t0.tries≤1000∧t0.which=0∧t0.climb=zbd l t0.u) (hc:Cm l σ0 par rt t0 σ t) (hi:∀ {t:TakeS},t.at_=0→t.held.size=0→True) (h:Ph l σ0 par rt t0 n0 k t c) (h00:t.at_=0→σ=σ0) (h4:t.at_≠4) {t':TakeS} (e:t.stp l σ=(t',σ')) :
  Cm l σ0 par rt t0 σ' t'∧(t'.at_=0→σ'=σ0)∧Ph l σ0 par rt t0 n0 (k+1) t' (t.cnt l σ c):=by
 have hn:=zaD hl
 have hti:=hc.ti
 have hag:=(TInv.own hl hc.seen hc.sz hti (by rw [hc.tr]; omega)).1
 have hw:=TakeS.stp_wz (l:=l) (σ:=σ) hc.w
 rw [e] at hag hw
 have hag':AgL l σ0 σ':=⟨hag.sz.trans hc.ag.sz,fun j hj=>(hag.eq j hj).trans (hc.ag.eq j hj)⟩
 have hS':SeenF l σ' par rt:=(hag.alike hl).seen hc.seen
 have hz':σ'.size=l.cells:=by rw [hag.sz]; exact hc.sz
 have hT8:(l.T:Int)≤8:=by have:=hl.2.2.2.2; omega
 have hth:=hti.th
 cases h with
 | a _ hts h0 hno hb =>
  have hσ:=h00 h0
  subst hσ
  obtain ⟨t2,e2,i1,i2,i3,i4,i5,i6,i7⟩:=hti.step0 hl hc.seen h0
  obtain ⟨rfl,rfl⟩:=Prod.mk.inj (e.symm.trans e2)
  have hcnt:t.cnt l σ' (cAB n0 k 0)=cAB n0 (k+1) 0:=by rw [TakeS.cnt_0 (.inl h0),(zf5 hti (.inl h0)).cnt hl hc.sz,zse]
  rw [hcnt]
  refine ⟨⟨i1,hz',hS',hag',by rw [i6]; exact hc.tr,by rw [i3]; exact hc.u,by rw [i4]; exact hc.v,by rw [i2]; exact hc.th,hw,by rw [i5]; exact hc.lk⟩,fun _=>rfl,?_⟩
  cases hov:(t.climbs l σ').2 with
  | false =>
   have e3:=TakeS.stp_0a h0 hov
   have e4:t'=(t.climbs l σ').1:=by rw [e] at e3; exact (Prod.mk.inj e3).1
   have hcs:=TakeS.climbs_st (l:=l) (σ:=σ') (t:=t)
   have h0':t'.at_=0:=by rw [e4,hcs.1,h0]
   refine .a _ (by rw [e4,hts]; rfl) h0' (zmd hno (by rw [←hts]; exact hov)) ?_
   rcases i7 with ⟨_,i7⟩ | i7
   ·omega
   ·omega
  | true =>
   have e3:=TakeS.stp_0b h0 hov
   have e4:t'.at_=1:=by rw [e] at e3; rw [(Prod.mk.inj e3).1]
   have hh0:t'.held.size=0:=by rw [i5]; exact hti.h0 h0
   exact .b (N:=k) (h:=0) _ e4 hh0 hno (by rw [←hts]; exact hov) (by have:=zfD (l:=l) (par:=par) (rt:=rt) (c:=t.climb); unfold trem at hb; omega)
 | b _ h1 hh hno ho hb =>
  rename_i N h
  obtain ⟨x,hx,hxv,hxr,hcase⟩:=hti.step1 hl hc.seen hc.sz h1 (by rw [hc.tr]; omega)
  have h1s:=hti.h1 h1
  have hxw:t.want[t.held.size]! =x:=by rw [h1s.2.1,hx]
  have hfree:lkF l σ x=0:=by
   have hm:=zbZ h1s.1
   have hx0:gf l σ0 x 0=0:=by
    rw [hx]
    rcases hm with q | q<;>rw [q]
    ·exact hlk0 _ hti.uv.1
    ·exact hlk0 _ hti.uv.2
   show gf l σ x 0=0
   rw [hc.lk x hxv.1 fun k hk he=>?_]
   ·exact hx0
   ·have hk2:k<(zaq (rt (l.vertex 0 t.u)) (rt (l.vertex 0 t.v))).size:=by have:=hti.held.le; omega
    have e1:=hti.held.eq k hk
    rw [he,hx] at e1
    have hs2:(zaq (rt (l.vertex 0 t.u)) (rt (l.vertex 0 t.v))).size≤2:=ze9
    have e0:k=0∧t.held.size=1:=by have:=h1s.1; omega
    rw [e0.1,e0.2] at e1
    have:=zgs (a:=rt (l.vertex 0 t.u)) (b:=rt (l.vertex 0 t.v)) (by have:=h1s.1; omega)
    omega
  rcases hcase with ⟨_,t2,e2,i1,i2,i3,i4,i5,i6,i7,i8,i9⟩ | ⟨hne,_⟩
  ·obtain ⟨rfl,rfl⟩:=Prod.mk.inj (e.symm.trans e2)
   have hcnt:t.cnt l σ (cAB n0 (N+1) h)=cAB n0 (N+1) (h+1):=by
    rw [TakeS.cnt_1 h1,hxw]
    have hb2:=zaS hl hxv.1 (f:=0) (by decide)
    unfold cntX
    rw [if_pos ⟨hb2.2.1,by rw [hc.sz]; exact hb2.2.2⟩,if_pos hfree,zvk]
   rw [hcnt]
   have hsz:t'.held.size=h+1:=by rw [i5]; simp [hh]
   refine ⟨⟨i1,hz',hS',hag',by rw [i6]; exact hc.tr,by rw [i3]; exact hc.u,by rw [i4]; exact hc.v,by rw [i2]; exact hc.th,hw,fun y hy hne=>?_⟩,fun q=>?_,?_⟩
   ·have hyx:y≠x:=fun q=>hne t.held.size (by rw [hsz]; omega) (by rw [i5,app_get!,if_neg (by omega),Nat.sub_self]; exact q.symm)
    show lkF l (stL l σ x t.thread) y=_
    rw [zh2 hl hc.sz hxv.1 (by omega) hy,if_neg hyx]
    exact hc.lk y hy fun k hk he=>hne k (by rw [hsz]; omega) (by rw [i5,app_get!,if_pos hk]; exact he)
   ·rw [q] at i9; split at i9<;>cases i9
   ·by_cases hfull:t.held.size+1=(zaq (rt (l.vertex 0 t.u)) (rt (l.vertex 0 t.v))).size
    ·rw [if_pos hfull] at i9
     have hP:=Ph.c (l:=l) (par:=par) (rt:=rt) (n0:=n0) (N:=N) (j:=0) t' i9 ⟨by rw [i8]; exact ht0.2.1.symm,by rw [i7,hc.u]; exact ht0.2.2.symm,by rw [i3]; exact hc.u,by rw [i4]; exact hc.v⟩ (fun j hj=>absurd hj (Nat.not_lt_zero _)) hno ho hb
     rw [hsz] at hP
     exact hP
    ·rw [if_neg hfull] at i9
     exact .b (h:=h+1) _ i9 hsz hno ho hb
  ·exact absurd hfree hne
 | c _ h2 hs hj hno ho hb =>
  rename_i N j
  obtain ⟨t2,e2,i1,i2,i3,i4,i5,i6,i7⟩:=hti.step2 hl hc.seen h2
  obtain ⟨rfl,rfl⟩:=Prod.mk.inj (e.symm.trans e2)
  have hst:t.climb.stp l σ'=(seqA l σ0 t0 j).climb.stp l σ0:=by
   rw [←hs.c]
   have hA:Alike l σ' σ0:=(hc.ag.alike hl).symm
   exact (hA.stp hc.seen (zf5 hti (.inr h2))).symm
  obtain ⟨s1,s2⟩:=hs.stp hst
  have hcnt:t.cnt l σ' (cAB n0 (N+1+j) t.held.size)=cAB n0 (N+1+(j+1)) t.held.size:=by rw [TakeS.cnt_0 (.inr h2),(zf5 hti (.inr h2)).cnt hl hc.sz,zse]; rfl
  rw [hcnt]
  refine ⟨⟨i1,hz',hS',hag',by rw [i6]; exact hc.tr,by rw [i3]; exact hc.u,by rw [i4]; exact hc.v,by rw [i2]; exact hc.th,hw,by rw [i5]; exact hc.lk⟩,fun q=>(by rcases i7 with ⟨q2,_⟩ | q2<;>(rw [q2] at q; cases q)),?_⟩
  cases hov:(t.climbs l σ').2 with
  | false =>
   have e3:=TakeS.stp_2a h2 hov
   have e4:t'=(t.climbs l σ').1:=by rw [e] at e3; exact (Prod.mk.inj e3).1
   have hcs:=TakeS.climbs_st (l:=l) (σ:=σ') (t:=t)
   have h2':t'.at_=2:=by rw [e4,hcs.1,h2]
   have hP:=Ph.c (l:=l) (par:=par) (rt:=rt) (n0:=n0) (N:=N) (j:=j+1) t' h2' (by rw [e4]; exact s2) (zmd hj (by rw [←s1]; exact hov)) hno ho hb
   rw [i5] at hP
   exact hP
  | true =>
   have hjN:j=N:=zuT hj hno (by rw [←s1]; exact hov) ho
   subst hjN
   have h4':t'.at_=4:=by
    rcases i7 with ⟨q,_⟩ | q
    ·exfalso
     by_cases hw2:zaq (t.climbs l σ').1.f0 (t.climbs l σ').1.f1=t.want
     ·have e3:=TakeS.stp_2b h2 hov hw2
      rw [e] at e3; rw [(Prod.mk.inj e3).1] at q; cases q
     ·have e3:=TakeS.stp_2c h2 hov hw2
      rw [e] at e3; rw [(Prod.mk.inj e3).1] at q
      unfold TakeS.leave at q
      split at q<;>cases q
    ·exact q
   have hP:=Ph.d (l:=l) (σ0:=σ0) (par:=par) (rt:=rt) (t0:=t0) (n0:=n0) (N:=j) t' h4' hb
   rw [i5] at hP
   rw [show j+1+t.held.size+j+1=2 * (j+1)+t.held.size by omega,show j+1+(j+1)=2 * (j+1) by omega]
   exact hP
 | d _ q4 _=>exact absurd q4 h4
theorem Ph.le (hc:Cm l σ0 par rt t0 σ t) (h:Ph l σ0 par rt t0 n0 k t c):k≤8 * l.nodes.toNat+12:=by
 have hle:=hc.ti.held.le
 have h2:(zaq (rt (l.vertex 0 t.u)) (rt (l.vertex 0 t.v))).size≤2:=ze9
 cases h with
 | a _ hts h0 hno hb=>omega
 | b _ h1 hh hno ho hb=>omega
 | c _ hq hs hj hno ho hb=>have:=zuS hl hj hno ho; omega
 | d _ q4 hb=>omega
omit hl in
theorem Ph.done (h:Ph l σ0 par rt t0 n0 k t c) (h4:t.at_=4):∃ N,N≤4 * l.nodes.toNat+4∧c=cAB n0 (2 * (N+1)) t.held.size:=by
 cases h with
 | a _ hts h0=>omega
 | b _ h1=>omega
 | c _ h2=>omega
 | d _ q4 hb=>exact ⟨_,hb,rfl⟩
end
end Go.Tm
