import Derived.Test.YtabjfnfglcghfaaGreatEngB
set_option linter.unusedVariables false
set_option linter.unusedSimpArgs false
set_option linter.unusedSectionVars false
namespace Go.Tm
open MemLike Eng
section
variable {l:Lay} (hl:l.Ok) {p:Pen} (hp:PenOk p) {mk:Int->Int} (hm:mkOk mk) {pr:Int->Int}
theorem znm {mk mk':Int->Int}:∀ {r:List Int},(∀ y∈r,mk' y=mk y)->alm mk' r=alm mk r
 | [],_=>rfl
 | x :: r,h=>by
  simp only [alm]; rw [h x (by simp),znm fun y hy=>h y (by simp [hy])]
theorem zqe {mk mk':Int->Int} {t:T} (h:∀ y∈t.list,mk' y=mk y):sumT l mk' t=sumT l mk t:=by
 cases t with
 | nil=>rfl
 | node a x b=>simp only [sumT]; rw [znm h,h x (T.mem_node.2 (.inr (.inl Z)))]
theorem zdk {mk mk':Int->Int} {σ:M}:∀ {t:T},(∀ y∈t.list,mk' y=mk y)->repU l mk σ t->repU l mk' σ t
 | .nil,_,_=>trivial
 | .node a x b,h,hr=>by
  obtain ⟨h1,h2,h3,h4,h5,h6,h7,h8,h9⟩:=hr
  exact ⟨h1,h2,h3,h4,by rw [zqe h]; exact h5,zdk (fun y hy=>h y (T.mem_node.2 (.inl hy))) h6,zdk (fun y hy=>h y (T.mem_node.2 (.inr (.inr hy)))) h7,h8,h9⟩
theorem Sub.nodup {s t:T} {o:Nat} (h:Sub s t o) (hnd:t.list.Nodup):s.list.Nodup:=by
 induction h with
 | refl=>exact hnd
 | left h ih=>exact ih (T.nodup_node.1 hnd).1
 | right h ih=>exact ih (T.nodup_node.1 hnd).2.1
def updM (mk:Int->Int) (x m:Int):Int->Int:=fun y=>if y=x then m else mk y
theorem znt (h:mkOk mk) {x m:Int} (hmm:0<=m/\m<4):mkOk (updM mk x m):=fun y=>by
 unfold updM; split
 ·exact hmm
 ·exact h y
theorem zdM {x m y:Int} (h:y≠x):updM mk x m y=mk y:=if_neg h
theorem zgB {x m:Int}:updM mk x m x=m:=if_pos Z
include hl
theorem zjd {mk:Int->Int} (hm:mkOk mk) {σ:M} (hs:σ.size=l.cells) {x:Int} {a b:T} (hx:l.nd x) (ha:repU l mk σ a) (hb:repU l mk σ b) (h3:gf l σ x 3=a.root) (h4:gf l σ x 4=b.root) (hw:wOk l σ x)
  (hpa:a.root≠0->parent l σ a.root=x) (hpb:b.root≠0->parent l σ b.root=x) (hnd:(T.node a x b).list.Nodup) (hz:(T.node a x b).size<65536) :
  Fr l σ (zfc l σ x (mk x)) (·=x)/\repU l mk (zfc l σ x (mk x)) (.node a x b)/\parent l (zfc l σ x (mk x)) x=parent l σ x:=by
 obtain ⟨n1,n2,n3,n4,n5⟩:=T.nodup_node.1 hnd
 rw [zo7 hl hx ha hb h3 h4 hm (hm x) hz,<-zkj hl]
 have hzs:=zin (smOk (l:=l) hm (T.node a x b).list hz (hm x))
 have hsv:0<=sumT l mk (.node a x b)/\sumT l mk (.node a x b)<18446744073709551616:=⟨hzs.1,Int.lt_trans hzs.2 (by decide)⟩
 have F3:=zk8 hl hs hx (f:=6) (v:=sumT l mk (.node a x b)) (by decide) hsv
 have G3:∀ g,0<=g/\g<7->gf l (st σ (l.field x 6) (sumT l mk (.node a x b))) x g=if g=6 then sumT l mk (.node a x b) else gf l σ x g:=fun g hg=>by
  unfold gf
  rw [za4 hl hs hx (by decide) hsv]
  by_cases h:g=6
  ·subst h; rw [Zp Z,Zp Z]
  ·rw [Zn h,Zn (fun he=>h ((zac hl hx hg hx (by decide)).1 he).2)]
 have P3:parent l (st σ (l.field x 6) (sumT l mk (.node a x b)):M) x=parent l σ x/\(wOk l (st σ (l.field x 6) (sumT l mk (.node a x b))) x↔wOk l σ x):=by
  have:=G3 2 (by decide)
  rw [Zn (by decide)] at this
  unfold parent pnew tget wOk
  rw [this]
  unfold gf at this
  rw [this]
  exact ⟨Z,.rfl⟩
 refine ⟨F3,⟨hx,?_,?_,P3.2.2 hw,?_,?_,?_,?_,?_⟩,P3.1⟩
 ·rw [G3 3 (by decide),Zn (by decide)]; exact h3
 ·rw [G3 4 (by decide),Zn (by decide)]; exact h4
 ·rw [G3 6 (by decide),Zp Z]
 ·exact ha.fr hl F3 fun y hy he=>n3 (he▸hy)
 ·exact hb.fr hl F3 fun y hy he=>n4 (he▸hy)
 ·intro h0; rw [F3.parent hl (ha.nd _ (ha.root_mem h0)) fun he=>n3 (he▸ha.root_mem h0)]; exact hpa h0
 ·intro h0; rw [F3.parent hl (hb.nd _ (hb.root_mem h0)) fun he=>n4 (he▸hb.root_mem h0)]; exact hpb h0
include hp
theorem zh8 {mk:Int->Int} (hm:mkOk mk) {σ:M} (hs:σ.size=l.cells) {x:Int} (hx:l.nd x) (hw:wOk l σ x) (hm0:mk x=0) :
  Fr l σ (alone l p σ x) (·=x)/\repU l mk (alone l p σ x) (.node .nil x .nil)/\parent l (alone l p σ x) x=0:=by
 unfold alone
 have h0:l.lk 0:=by have:=zaB hl; unfold Lay.lk; omega
 rw [zk7 hl h0,zk7 hl h0]
 have z:(0:Int)<=0/\(0:Int)<18446744073709551616:=by decide
 have F1:=zk8 hl hs hx (f:=3) (v:=0) (by decide) z
 have s1:=F1.size.trans (Z:σ.size=σ.size)
 have hs1:((st σ (l.field x 3) 0:M).size:Int)=l.cells:=by rw [F1.size]; exact hs
 have F2:=zk8 hl hs1 hx (f:=4) (v:=0) (by decide) z
 have g2:∀ f,0<=f/\f<7->gf l (st (st σ (l.field x 3) 0:M) (l.field x 4) 0) x f=if f=3\/f=4 then 0 else gf l σ x f:=fun f hf=>by
  unfold gf
  rw [za4 hl hs1 hx (by decide) z,za4 hl hs hx (by decide) z]
  have i3:=zac hl hx hf hx (g:=3) (by decide)
  have i4:=zac hl hx hf hx (g:=4) (by decide)
  by_cases h4:f=4
  ·subst h4; rw [Zp Z,Zp (.inr Z)]
  ·rw [Zn (fun h=>h4 (i4.1 h).2)]
   by_cases h3:f=3
   ·subst h3; rw [Zp Z,Zp (.inl Z)]
   ·rw [Zn (fun h=>h3 (i3.1 h).2),Zn (by omega)]
 have F12:=F1.trans F2
 generalize hσ2:(st (st σ (l.field x 3) 0:M) (l.field x 4) 0:M)=σ2 at *
 have hs2:(σ2.size:Int)=l.cells:=by rw [F12.size]; exact hs
 have hw2:wOk l σ2 x:=by
  have:=g2 2 (by decide)
  rw [Zn (by decide)] at this
  unfold wOk at *
  rw [this]; exact hw
 obtain ⟨v,e,hv,hpar,hwok⟩:=zsM hl hp hs2 hx h0 hw2
 rw [e]
 have F3:=zk8 hl hs2 hx (f:=2) (v:=v) (by decide) hv
 have g3:∀ f,0<=f/\f<7->f≠2->gf l (st σ2 (l.field x 2) v) x f=gf l σ2 x f:=fun f hf h2=>by
  unfold gf
  rw [za4 hl hs2 hx (by decide) hv,Zn (fun h=>h2 (zac hl hx hf hx (by decide) |>.1 h).2)]
 generalize hσ3:(st σ2 (l.field x 2) v:M)=σ3 at *
 have hs3:(σ3.size:Int)=l.cells:=by rw [F3.size]; exact hs2
 have hsum:zfD l x 0=sumT l mk (.node .nil x .nil):=by
  rw [zst (by decide),sumT,T.list,T.list,List.nil_append]
  simp only [vts,alm,hm0,T.size,T.list,List.nil_append,List.length_cons,List.length_nil,Int.add_zero]
  rfl
 rw [hsum]
 have hz:(T.node .nil x .nil).size<65536:=by show 1<65536; decide
 have hzs:=zin (smOk (l:=l) hm (T.node .nil x .nil).list hz (hm x))
 have hsv:0<=sumT l mk (.node .nil x .nil)/\sumT l mk (.node .nil x .nil)<18446744073709551616:=⟨hzs.1,Int.lt_trans hzs.2 (by decide)⟩
 have F4:=zk8 hl hs3 hx (f:=6) (v:=sumT l mk (.node .nil x .nil)) (by decide) hsv
 have g4:∀ g,0<=g/\g<7->gf l (st σ3 (l.field x 6) (sumT l mk (.node .nil x .nil))) x g=if g=6 then sumT l mk (.node .nil x .nil) else gf l σ3 x g:=fun g hg=>by
  unfold gf
  rw [za4 hl hs3 hx (by decide) hsv]
  by_cases h:g=6
  ·subst h; rw [Zp Z,Zp Z]
  ·rw [Zn h,Zn (fun he=>h ((zac hl hx hg hx (by decide)).1 he).2)]
 have P4:parent l (st σ3 (l.field x 6) (sumT l mk (.node .nil x .nil)):M) x=parent l σ3 x/\(wOk l (st σ3 (l.field x 6) (sumT l mk (.node .nil x .nil))) x↔wOk l σ3 x):=by
  have:=g4 2 (by decide)
  rw [Zn (by decide)] at this
  unfold parent pnew tget wOk
  rw [this]
  unfold gf at this
  rw [this]
  exact ⟨Z,.rfl⟩
 refine ⟨((F12.trans F3).trans F4).mono fun y hy=>by rcases hy with ((h | h) | h) | h<;>exact h,⟨hx,?_,?_,P4.2.2 hwok,?_,trivial,trivial,fun h=>absurd rfl h,fun h=>absurd rfl h⟩,by rw [P4.1]; exact hpar⟩
 ·rw [g4 3 (by decide),Zn (by decide),g3 3 (by decide) (by decide),g2 3 (by decide),Zp (.inl Z)]; rfl
 ·rw [g4 4 (by decide),Zn (by decide),g3 4 (by decide) (by decide),g2 4 (by decide),Zp (.inr Z)]; rfl
 ·rw [g4 6 (by decide),Zp Z]
omit hp
include hm
theorem znS {s t:T} {o:Nat} (h:Sub s t o) {mk':Int->Int} (hm':mkOk mk') {σ0:M} (hs:σ0.size=l.cells) (hr:repU l mk σ0 t) (hnd:t.list.Nodup) (hz:t.size<65536) (h0:s.root≠0) {x:Int} (hxs:x∈s.list) (hmk:∀ y,y≠x->mk' y=mk y) :
  ∀ {σ:M},Fr l σ0 σ (·∈s.list)->repU l mk' σ s->parent l σ s.root=parent l σ0 s.root ->
   ∃ d σ',d+s.size<=t.size/\(∀ k,zbO l (k+d) σ (parent l σ s.root)=zbO l k σ' (parent l σ' t.root))/\repU l mk' σ' t/\parent l σ' t.root=parent l σ0 t.root/\t.root≠0/\Fr l σ0 σ' (·∈t.list):=by
 induction h with
 | refl=>intro σ F hr' hpp; exact ⟨0,σ,by omega,fun _=>rfl,hr',hpp,h0,F⟩
 | @left a b y o h ih =>
  intro σ F hr' hpp
  obtain ⟨h1,h2,h3,h4,h5,h6,h7,h8,h9⟩:=hr
  obtain ⟨n1,n2,n3,n4,n5⟩:=T.nodup_node.1 hnd
  have hsz:=T.size_node (a:=a) (b:=b) (x:=y)
  obtain ⟨d,σa,hd,hk,ra,pa,ha0,Fa⟩:=ih h6 n1 (by omega) F hr' hpp
  have hy0:y≠0:=by unfold Lay.nd at h1; omega
  have hxa:x∈a.list:=h.mem x hxs
  have hsa:(σa.size:Int)=l.cells:=by rw [Fa.size]; exact hs
  have hxy:y≠x:=fun he=>n3 (he▸hxa)
  have hmy:marks l σa y=mk' y:=by
   rw [hmk y hxy]
   exact zhe hl h1 (smOk (l:=l) hm (T.node a y b).list hz (hm y)) (by rw [Fa.gf hl h1 (by decide) n3]; exact h5)
  have hb:repU l mk' σa b:=zdk (fun z hz=>hmk z fun he=>n5 x hxa (he▸hz)) (h7.fr hl Fa fun z hz hz'=>n5 z hz' hz)
  obtain ⟨F1,r1,p1⟩:=zjd hl hm' hsa h1 ra hb (by rw [Fa.gf hl h1 (by decide) n3]; exact h2) (by rw [Fa.gf hl h1 (by decide) n3]; exact h3) ((Fa.wOk hl h1 n3).2 h4)
   (fun hh=>by rw [pa]; exact h8 hh) (fun hh=>by rw [Fa.parent hl (h7.nd _ (h7.root_mem hh)) fun hh'=>n5 _ hh' (h7.root_mem hh)]; exact h9 hh) hnd hz
  refine ⟨d+1,_,by omega,fun k=>?_,r1,?_,hy0,(Fa.trans F1).mono fun z hz=>T.mem_node.2 ?_⟩
  ·have:k+(d+1)=k+1+d:=by omega
   rw [this,hk,pa,h8 ha0,zbO,Zp hy0]
   dsimp only
   rw [zej,zbB,hmy]
   rfl
  ·show parent l _ y=parent l σ0 y
   rw [p1,Fa.parent hl h1 n3]
  ·rcases hz with hz | hz
   ·exact .inl hz
   ·exact .inr (.inl hz)
 | @right a b y o h ih =>
  intro σ F hr' hpp
  obtain ⟨h1,h2,h3,h4,h5,h6,h7,h8,h9⟩:=hr
  obtain ⟨n1,n2,n3,n4,n5⟩:=T.nodup_node.1 hnd
  have hsz:=T.size_node (a:=a) (b:=b) (x:=y)
  obtain ⟨d,σa,hd,hk,ra,pa,ha0,Fa⟩:=ih h7 n2 (by omega) F hr' hpp
  have hy0:y≠0:=by unfold Lay.nd at h1; omega
  have hxa:x∈b.list:=h.mem x hxs
  have hsa:(σa.size:Int)=l.cells:=by rw [Fa.size]; exact hs
  have hxy:y≠x:=fun he=>n4 (he▸hxa)
  have hmy:marks l σa y=mk' y:=by
   rw [hmk y hxy]
   exact zhe hl h1 (smOk (l:=l) hm (T.node a y b).list hz (hm y)) (by rw [Fa.gf hl h1 (by decide) n4]; exact h5)
  have hb:repU l mk' σa a:=zdk (fun z hz=>hmk z fun he=>n5 x (he▸hz) hxa) (h6.fr hl Fa fun z hz hz'=>n5 z hz hz')
  obtain ⟨F1,r1,p1⟩:=zjd hl hm' hsa h1 hb ra (by rw [Fa.gf hl h1 (by decide) n4]; exact h2) (by rw [Fa.gf hl h1 (by decide) n4]; exact h3) ((Fa.wOk hl h1 n4).2 h4)
   (fun hh=>by rw [Fa.parent hl (h6.nd _ (h6.root_mem hh)) fun hh'=>n5 _ (h6.root_mem hh) hh']; exact h8 hh) (fun hh=>by rw [pa]; exact h9 hh) hnd hz
  refine ⟨d+1,_,by omega,fun k=>?_,r1,?_,hy0,(Fa.trans F1).mono fun z hz=>T.mem_node.2 ?_⟩
  ·have:k+(d+1)=k+1+d:=by omega
   rw [this,hk,pa,h9 ha0,zbO,Zp hy0]
   dsimp only
   rw [zej,zbB,hmy]
   rfl
  ·show parent l _ y=parent l σ0 y
   rw [p1,Fa.parent hl h1 n4]
  ·rcases hz with hz | hz
   ·exact .inr (.inr hz)
   ·exact .inr (.inl hz)
theorem zmM {m:Int} (hmm:0<=m/\m<4) {j:Int} (hj:j=0\/j=1) (on:Bool):0<=zkd m j on/\zkd m j on<4:=by
 have hm4:m=0\/m=1\/m=2\/m=3:=by omega
 rcases hm4 with rfl | rfl | rfl | rfl<;>rcases hj with rfl | rfl<;>cases on<;>decide +kernel
theorem zqz {t:T} {σ:M} (hs:σ.size=l.cells) (hr:repU l mk σ t) (hnd:t.list.Nodup) (hz:t.size<65536) (hp0:parent l σ t.root=0) {x:Int} (hx:x∈t.list) {k:Nat} (hk:t.size<k) {j:Int} (hj:j=0\/j=1) (on:Bool) :
  ∃ σ',zgq l k σ x j on=some σ'/\repU l (updM mk x (zkd (mk x) j on)) σ' t/\parent l σ' t.root=0/\Fr l σ σ' (·∈t.list):=by
 obtain ⟨c,d,o,hsub,_⟩:=zjn hx
 have hrs:=hsub.rep hr
 have hss:=hsub.size
 have hsn:(T.node c x d).list.Nodup:=hsub.nodup hnd
 obtain ⟨h1,h2,h3,h4,h5,h6,h7,h8,h9⟩:=hrs
 obtain ⟨n1,n2,n3,n4,n5⟩:=T.nodup_node.1 hsn
 have hmm:=zmM hl hm (hm x) hj on
 have hm':=znt (x:=x) hm hmm
 have hmx:marks l σ x=mk x:=zhe hl h1 (smOk (l:=l) hm (T.node c x d).list (by show (T.node c x d).size<65536; omega) (hm x)) h5
 obtain ⟨F1,r1,p1⟩:=zjd hl hm' hs h1 (zdk (fun y hy=>zdM fun he=>n3 (he▸hy)) h6) (zdk (fun y hy=>zdM fun he=>n4 (he▸hy)) h7) h2 h3 h4 h8 h9 hsn (by omega)
 rw [zgB] at F1 r1 p1
 have hx0:x≠0:=by unfold Lay.nd at h1; omega
 obtain ⟨n,σ',hn,hk',r',p',h0,F'⟩:=znS hl hm hsub hm' hs hr hnd hz hx0 (T.mem_node.2 (.inr (.inl rfl))) (fun y hy=>zdM hy) (F1.mono fun y hy=>T.mem_node.2 (.inr (.inl hy))) r1 p1
 refine ⟨σ',?_,r',by rw [p']; exact hp0,F'⟩
 unfold zgq
 dsimp only
 rw [zej,zbB,hmx]
 have hsz:=T.size_node (a:=c) (b:=d) (x:=x)
 have:=hk' (k - n)
 rw [Nat.sub_add_cancel (by omega)] at this
 rw [show zbO l k _ (parent l _ x)=_ from this,p',hp0]
 obtain ⟨i,hi⟩:∃ i,k - n=i+1:=⟨k - n - 1,by omega⟩
 rw [hi,zbO,Zn (by simp)]
def bitM (m j:Int):Bool:=decide (andU (shrU m j) 1=1)
omit hl hm
theorem zzC {a b:Nat} (ha:a<4) (hb:b<4) {j:Int} (hj:j=0\/j=1):bitM ((a ||| b:Nat):Int) j=(bitM a j || bitM b j):=by
 have h1:a=0\/a=1\/a=2\/a=3:=by omega
 have h2:b=0\/b=1\/b=2\/b=3:=by omega
 rcases h1 with rfl | rfl | rfl | rfl<;>rcases h2 with rfl | rfl | rfl | rfl<;>rcases hj with rfl | rfl<;>decide +kernel
theorem zj2 {j:Int} (hj:j=0\/j=1):bitM ((0:Nat):Int) j=false:=by rcases hj with rfl | rfl<;>decide +kernel
theorem zhu {m:Int} (hmm:0<=m/\m<4) {j j':Int} (hj:j=0\/j=1) (hj':j'=0\/j'=1) (on:Bool):bitM (zkd m j on) j'=if j'=j then on else bitM m j':=by
 have hm4:m=0\/m=1\/m=2\/m=3:=by omega
 rcases hm4 with rfl | rfl | rfl | rfl<;>rcases hj with rfl | rfl<;>rcases hj' with rfl | rfl<;>cases on<;>decide +kernel
include hm
theorem zv7 {j:Int} (hj:j=0\/j=1) (r:List Int):bitM ((alm mk r:Nat):Int) j=r.any fun x=>bitM (mk x) j:=by
 induction r with
 | nil=>exact zj2 hj
 | cons x r ih =>
  simp only [alm,List.any_cons]
  rw [zzC (by have:=hm x; omega) (zwc hm r) hj,ih]
  have:(((mk x).toNat:Nat):Int)=mk x:=by have:=hm x; omega
  rw [this]
include hl
theorem zwP {t:T} {σ:M} (hr:repU l mk σ t) (hz:t.size<65536) {j:Int} (hj:j=0\/j=1):has l σ t.root j=t.list.any fun x=>bitM (mk x) j:=by
 unfold has
 rw [hr.all hl hm hz]
 exact zv7 hm hj _
theorem zmL {t:T} {σ:M} (hr:repU l mk σ t) (hz:t.size<65536) {x:Int} (hx:x∈t.list) {j:Int}:marked l σ x j=bitM (mk x) j:=by
 obtain ⟨c,d,o,hsub,_⟩:=zjn hx
 have hrs:=hsub.rep hr
 have hss:=hsub.size
 unfold marked bitM
 rw [zhe hl hrs.1 (smOk (l:=l) hm (T.node c x d).list (by show (T.node c x d).size<65536; omega) (hm x)) hrs.2.2.2.2.1]
theorem zn8 {j:Int} (hj:j=0\/j=1) {σ:M}:∀ (t:T) (k:Nat),repU l mk σ t->t.size<65536->t.size<k->(t.list.any fun x=>bitM (mk x) j)=true ->
  ∃ y,zcO l j k σ t.root=some (y,σ)/\t.list.find? (fun x=>bitM (mk x) j)=some y:=by
 intro t
 induction t with
 | nil=>intro k _ _ _ h; simp [T.list] at h
 | node a x b iha ihb =>
  intro k hr hz hk ha
  obtain ⟨k,rfl⟩:∃ i,k=i+1:=⟨k - 1,by omega⟩
  have hr0:=hr
  obtain ⟨h1,h2,h3,h4,h5,h6,h7,h8,h9⟩:=hr
  have hsz:=T.size_node (a:=a) (b:=b) (x:=x)
  show ∃ y,zcO l j (k+1) σ x=_/\_
  rw [zcO]
  dsimp only
  rw [zbt,zbd,zbd,zbt,show tget l σ x 3=a.root from zc2 hl (h6.lk hl) h2,show tget l σ x 4=b.root from zc2 hl (h7.lk hl) h3,zwP hl hm h6 (by omega) hj]
  cases hA:a.list.any fun x=>bitM (mk x) j with
  | true =>
   rw [Zp Z]
   obtain ⟨y,e1,e2⟩:=iha k h6 (by omega) (by omega) hA
   exact ⟨y,e1,by rw [T.list,List.find?_append,e2]; rfl⟩
  | false =>
   have hfa:a.list.find? (fun x=>bitM (mk x) j)=none:=by
    rw [List.find?_eq_none]; intro y hy; rw [List.any_eq_false] at hA; exact hA y hy
   rw [Zn (by decide),zmL hl hm hr0 hz (T.mem_node.2 (.inr (.inl Z)))]
   cases hX:bitM (mk x) j with
   | true =>
    rw [Zp Z]
    exact ⟨x,Z,by rw [T.list,List.find?_append,hfa,List.find?_cons,hX]; rfl⟩
   | false =>
    rw [Zn (by decide)]
    have hB:(b.list.any fun x=>bitM (mk x) j)=true:=by
     rw [T.list,List.any_append,hA,List.any_cons,hX] at ha
     simpa using ha
    obtain ⟨y,e1,e2⟩:=ihb k h7 (by omega) (by omega) hB
    exact ⟨y,e1,by rw [T.list,List.find?_append,hfa,List.find?_cons,hX]; exact e2⟩
theorem zqG {t:T} {σ:M} (hr:repU l mk σ t) (hz:t.size<65536) {j:Int} (hj:j=0\/j=1) {k:Nat} (hk:t.size<k) :
  first l k σ t.root j=some ((t.list.find? fun x=>bitM (mk x) j).getD 0,σ):=by
 unfold first
 rw [zwP hl hm hr hz hj,zbd]
 cases hA:t.list.any fun x=>bitM (mk x) j with
 | true =>
  rw [Zp Z]
  obtain ⟨y,e1,e2⟩:=zn8 hl hm hj t k hr hz hk hA
  rw [e1,e2]; rfl
 | false =>
  rw [Zn (by decide)]
  have hfa:t.list.find? (fun x=>bitM (mk x) j)=none:=by
   rw [List.find?_eq_none]; intro y hy; rw [List.any_eq_false] at hA; exact hA y hy
  rw [hfa]; rfl
end
theorem zef:∀ (N:Nat) (r:List Int),r.Nodup->(∀ x∈r,1<=x/\x<=(N:Int))->r.length<=N:=by
 intro N
 induction N with
 | zero=>intro r _ h; cases r with
  | nil=>exact Nat.le_refl _
  | cons x r=>have:=h x (by simp); omega
 | succ N ih =>
  intro r hnd h
  by_cases hm:((N:Int)+1)∈r
  ·have h2:=ih (r.erase ((N:Int)+1)) (hnd.erase _) fun x hx=>by
    have:=(List.Nodup.mem_erase_iff hnd).1 hx
    have:=h x this.2
    omega
   rw [List.length_erase_of_mem hm] at h2
   omega
  ·have h2:=ih r hnd fun x hx=>by
    have:=h x hx
    have:x≠(N:Int)+1:=fun he=>hm (he▸hx)
    omega
   omega
structure Forest (l:Lay) (pr mk:Int->Int) (σ:M) (F:Int->T):Prop where
 size:σ.size=l.cells
 pri:prOk l pr σ
 mkk:mkOk mk
 mem:∀ x,l.nd x->x∈(F x).list
 cls:∀ x,l.nd x->∀ y∈(F x).list,F y=F x
 nodup:∀ x,l.nd x->(F x).list.Nodup
 heap:∀ x,l.nd x->heap pr (F x)
 rep:∀ x,l.nd x->repU l mk σ (F x)
 top:∀ x,l.nd x->parent l σ (F x).root=0
def Tree (l:Lay) (F:Int->T) (t:T):Prop:=∀ y∈t.list,l.nd y/\F y=t
section
variable {l:Lay} (hl:l.Ok) {p:Pen} (hp:PenOk p) {mk:Int->Int} {pr:Int->Int} {σ:M} {F:Int->T}
include hl
theorem zAg {r:List Int} (hnd:r.Nodup) (h:∀ x∈r,l.nd x):r.length<=560:=by
 have:=zaB hl
 have:=zef l.nodes.toNat r hnd fun x hx=>by have:=h x hx; unfold Lay.nd at this; omega
 omega
theorem Forest.tree (hF:Forest l pr mk σ F) {x:Int} (hx:l.nd x):Tree l F (F x):=fun y hy=>⟨(hF.rep x hx).nd y hy,hF.cls x hx y hy⟩
theorem Tree.facts (hF:Forest l pr mk σ F) {t:T} (ht:Tree l F t):t.list.Nodup/\Go.Tm.heap pr t/\repU l mk σ t/\(t.root≠0->parent l σ t.root=0)/\t.size<=560:=by
 cases t with
 | nil=>exact ⟨List.nodup_nil,Zt,Zt,fun h=>absurd Z h,by simp [T.size,T.list]⟩
 | node a x b =>
  obtain ⟨h1,h2⟩:=ht x (T.mem_node.2 (.inr (.inl rfl)))
  have n1:=hF.nodup x h1
  have h3:=hF.heap x h1
  have h4:=hF.rep x h1
  have h5:=hF.top x h1
  rw [h2] at n1 h3 h4 h5
  exact ⟨n1,h3,h4,fun _=>h5,zAg hl n1 h4.nd⟩
theorem Forest.rowLen (hF:Forest l pr mk σ F) {x:Int} (hx:l.nd x):(F x).size<=560:=((hF.tree hl hx).facts hl hF).2.2.2.2
omit hl
theorem Tree.disj {t t':T} (h:Tree l F t) (h':Tree l F t') {y:Int} (hy:y∈t.list) (hy':y∈t'.list):t=t':=by rw [<-(h y hy).2,(h' y hy').2]
theorem Forest.upd (hF:Forest l pr mk σ F) {σ':M} {mk':Int->Int} {A:Int->Prop} (ts:List T) (hmk':mkOk mk') (hmkA:∀ y,¬A y->mk' y=mk y) (hl:l.Ok) (hfr:Fr l σ σ' A) (hA:∀ y,A y->l.nd y/\∀ z∈(F y).list,A z)
  (hts:∀ y,A y↔∃ t∈ts,y∈t.list) (hdis:∀ t∈ts,∀ t'∈ts,∀ y,y∈t.list->y∈t'.list->t=t') (ht:∀ t∈ts,t.list.Nodup/\Go.Tm.heap pr t/\repU l mk' σ' t/\(t.root≠0->parent l σ' t.root=0)) :
  ∃ F',Forest l pr mk' σ' F'/\(∀ t∈ts,Tree l F' t)/\∀ y,¬A y->F' y=F y:=by
 let F':Int->T:=fun y=>match ts.find? (fun t=>decide (y∈t.list)) with | some t=>t | none=>F y
 have h1:∀ t∈ts,∀ y∈t.list,F' y=t:=fun t hts' y hy=>by
  show (match ts.find? (fun t=>decide (y∈t.list)) with | some t=>t | none=>F y)=t
  cases hfi:ts.find? (fun t=>decide (y∈t.list)) with
  | none=>rw [List.find?_eq_none] at hfi; exact absurd (decide_eq_true hy) (hfi t hts')
  | some t' =>
   have:=List.find?_some hfi
   exact hdis t' (List.mem_of_find?_eq_some hfi) t hts' y (of_decide_eq_true this) hy
 have h2:∀ y,¬A y->F' y=F y:=fun y hy=>by
  show (match ts.find? (fun t=>decide (y∈t.list)) with | some t=>t | none=>F y)=F y
  cases hfi:ts.find? (fun t=>decide (y∈t.list)) with
  | none=>rfl
  | some t'=>exact absurd ((hts y).2 ⟨t',List.mem_of_find?_eq_some hfi,of_decide_eq_true (List.find?_some (p:=fun t:T=>decide (y∈t.list)) hfi)⟩) hy
 have hAF:∀ x,l.nd x->¬A x->∀ y∈(F x).list,¬A y:=fun x hx hn y hy hy'=>hn ((hA y hy').2 x (by rw [hF.cls x hx y hy]; exact hF.mem x hx))
 have key:∀ x,l.nd x->(∃ t∈ts,F' x=t/\x∈t.list)\/(¬A x/\F' x=F x):=fun x hx=>by
  by_cases hax:A x
  ·obtain ⟨t,hts',hxt⟩:=(hts x).1 hax
   exact .inl ⟨t,hts',h1 t hts' x hxt,hxt⟩
  ·exact .inr ⟨hax,h2 x hax⟩
 refine ⟨F',⟨by rw [hfr.size]; exact hF.size,hF.pri.fr hl hfr,hmk',?_,?_,?_,?_,?_,?_⟩,fun t htt y hy=>⟨(hA y ((hts y).2 ⟨t,htt,hy⟩)).1,h1 t htt y hy⟩,h2⟩
 ·intro x hx
  rcases key x hx with ⟨t,hts',e,hxt⟩ | ⟨hn,e⟩
  ·rw [e]; exact hxt
  ·rw [e]; exact hF.mem x hx
 ·intro x hx y hy
  rcases key x hx with ⟨t,hts',e,hxt⟩ | ⟨hn,e⟩
  ·rw [e] at hy ⊢; exact h1 t hts' y hy
  ·rw [e] at hy ⊢; rw [h2 y (hAF x hx hn y hy)]; exact hF.cls x hx y hy
 ·intro x hx
  rcases key x hx with ⟨t,hts',e,hxt⟩ | ⟨hn,e⟩
  ·rw [e]; exact (ht t hts').1
  ·rw [e]; exact hF.nodup x hx
 ·intro x hx
  rcases key x hx with ⟨t,hts',e,hxt⟩ | ⟨hn,e⟩
  ·rw [e]; exact (ht t hts').2.1
  ·rw [e]; exact hF.heap x hx
 ·intro x hx
  rcases key x hx with ⟨t,hts',e,hxt⟩ | ⟨hn,e⟩
  ·rw [e]; exact (ht t hts').2.2.1
  ·rw [e]; exact zdk (fun y hy=>hmkA y (hAF x hx hn y hy)) ((hF.rep x hx).fr hl hfr (hAF x hx hn))
 ·intro x hx
  rcases key x hx with ⟨t,hts',e,hxt⟩ | ⟨hn,e⟩
  ·rw [e]; exact (ht t hts').2.2.2 (fun h0=>by have:=((ht t hts').2.2.1.nil_iff).1 h0; subst this; cases hxt)
  ·rw [e]
   have hr:=hF.rep x hx
   have h0:(F x).root≠0:=fun h0=>by have:=hr.nil_iff.1 h0; have:=hF.mem x hx; simp_all [T.list]
   rw [hfr.parent hl (hr.nd _ (hr.root_mem h0)) (hAF x hx hn _ (hr.root_mem h0))]; exact hF.top x hx
include hl
theorem Forest.root (hF:Forest l pr mk σ F) {x:Int} (hx:l.nd x) {k:Nat} (hk:560<k):Go.Tm.root l k σ x=some ((F x).root,σ) :=
 zrG (hF.rep x hx) (hF.top x hx) (hF.mem x hx) (by have:=hF.rowLen hl hx; omega)
theorem Forest.index (hF:Forest l pr mk σ F) {x:Int} (hx:l.nd x) {pre post:List Int} (he:(F x).list=pre++x :: post) {k:Nat} (hk:560<k):Go.Tm.index l k σ x=some ((pre.length:Int),σ):=by
 have:=hF.rowLen hl hx
 exact zqD hl hF.mkk (hF.rep x hx) (hF.nodup x hx) (by omega) (hF.top x hx) he (by omega)
theorem Forest.roots (hF:Forest l pr mk σ F) {x y:Int} (hx:l.nd x) (hy:l.nd y):(F x).root=(F y).root↔F x=F y:=by
 constructor
 ·intro h
  have hr:=hF.rep x hx
  have hr':=hF.rep y hy
  have h0:(F x).root≠0:=fun h0=>by have:=hr.nil_iff.1 h0; have:=hF.mem x hx; simp_all [T.list]
  rw [<-hF.cls x hx _ (hr.root_mem h0),h]
  exact hF.cls y hy _ (hr'.root_mem (h▸h0))
 ·intro h; rw [h]
theorem Forest.mark (hF:Forest l pr mk σ F) {x:Int} (hx:l.nd x) {k:Nat} (hk:560<k) {j:Int} (hj:j=0\/j=1) (on:Bool) :
  ∃ σ',zgq l k σ x j on=some σ'/\Forest l pr (updM mk x (zkd (mk x) j on)) σ' F/\Fr l σ σ' (fun y=>y∈(F x).list):=by
 have hz:=hF.rowLen hl hx
 obtain ⟨σ',e,hr,hpar,hfr⟩:=zqz hl hF.mkk hF.size (hF.rep x hx) (hF.nodup x hx) (by omega) (hF.top x hx) (hF.mem x hx) (k:=k) (by omega) hj on
 have hmm:=zmM hl hF.mkk (hF.mkk x) hj on
 obtain ⟨F',h1,h2,h3⟩:=hF.upd (σ':=σ') (mk':=updM mk x (zkd (mk x) j on)) (A:=fun y=>y∈(F x).list) [F x] (znt hF.mkk hmm) (fun y hy=>zdM fun he=>hy (he▸hF.mem x hx)) hl hfr
  (fun y hy=>⟨(hF.rep x hx).nd y hy,fun z hz=>by rw [hF.cls x hx y hy] at hz; exact hz⟩) (fun y=>by simp) (fun t ht t' ht' _ _ _=>by simp at ht ht'; rw [ht,ht']) (fun t ht=>by simp at ht; subst ht; exact ⟨hF.nodup x hx,hF.heap x hx,hr,fun _=>hpar⟩)
 have hFF:∀ y,l.nd y->F' y=F y:=fun y hy=>by
  by_cases hm:y∈(F x).list
  ·rw [(h2 (F x) (by simp) y hm).2,hF.cls x hx y hm]
  ·exact h3 y hm
 refine ⟨σ',e,⟨h1.size,h1.pri,h1.mkk,fun y hy=>hF.mem y hy,fun y hy=>hF.cls y hy,fun y hy=>hF.nodup y hy,fun y hy=>hF.heap y hy,fun y hy=>by rw [<-hFF y hy]; exact h1.rep y hy,fun y hy=>by rw [<-hFF y hy]; exact h1.top y hy⟩,hfr⟩
include hp
theorem Forest.alone (hF:Forest l pr mk σ F) {x:Int} (hx:l.nd x) (he:(F x).list=[x]):Forest l pr (updM mk x 0) (Go.Tm.alone l p σ x) F/\Fr l σ (Go.Tm.alone l p σ x) (·=x):=by
 have hFx:F x=.node .nil x .nil:=by
  cases h:F x with
  | nil=>rw [h] at he; cases he
  | node a y b =>
   rw [h,T.list] at he
   have hlen:=congrArg List.length he
   simp only [List.length_append,List.length_cons,List.length_nil] at hlen
   have ha:a=.nil:=by
    cases a with
    | nil=>rfl
    | node _ _ _=>simp [T.list] at hlen; omega
   have hb:b=.nil:=by
    cases b with
    | nil=>rfl
    | node _ _ _=>simp [T.list] at hlen; omega
   subst ha hb; simp [T.list] at he; rw [he]
 have hr:=hF.rep x hx
 have hm':mkOk (updM mk x 0):=znt hF.mkk (by decide)
 obtain ⟨hfr,r1,p1⟩:=zh8 hl hp hm' hF.size hx (by rw [hFx] at hr; exact hr.2.2.2.1) zgB
 obtain ⟨F',h1,h2,h3⟩:=hF.upd (mk':=updM mk x 0) (A:=fun y=>y=x) [F x] hm' (fun y hy=>zdM hy) hl hfr
  (fun y hy=>⟨hy▸hx,fun z hz=>by rw [hy,he] at hz; simpa using hz⟩) (fun y=>by simp [he]) (fun t ht t' ht' _ _ _=>by simp at ht ht'; rw [ht,ht']) (fun t ht=>by simp at ht; subst ht; exact ⟨hF.nodup x hx,hF.heap x hx,by rw [hFx]; exact r1,fun _=>by rw [hFx]; exact p1⟩)
 have hFF:∀ y,l.nd y->F' y=F y:=fun y hy=>by
  by_cases hm:y=x
  ·rw [hm,(h2 (F x) (by simp) x (by simp [he])).2]
  ·exact h3 y hm
 exact ⟨⟨h1.size,h1.pri,h1.mkk,fun y hy=>hF.mem y hy,fun y hy=>hF.cls y hy,fun y hy=>hF.nodup y hy,fun y hy=>hF.heap y hy,fun y hy=>by rw [<-hFF y hy]; exact h1.rep y hy,fun y hy=>by rw [<-hFF y hy]; exact h1.top y hy⟩,hfr⟩
theorem Forest.split (hF:Forest l pr mk σ F) {t:T} (ht:Tree l F t) (n:Nat) {k:Nat} (hk:560<k) :
  ∃ a b σ' F',zeb l p k σ t.root n=some ((a.root,b.root),σ')/\a.list=t.list.take n/\b.list=t.list.drop n/\Forest l pr mk σ' F'/\Tree l F' a/\Tree l F' b/\(∀ y,y∉t.list->F' y=F y)/\Fr l σ σ' (·∈t.list):=by
 obtain ⟨n1,n2,n3,n4,n5⟩:=ht.facts hl hF
 obtain ⟨a,b,σ',e,la,lb,ha,hb,ra,rb,pa,pb,hfr⟩:=znC hl hp hF.mkk (pr:=pr) t k n hF.size n3 n1 (by omega) (by omega) n2
 rw [Int.toNat_natCast] at la lb
 have hnd2:(a.list++b.list).Nodup:=by rw [la,lb,List.take_append_drop]; exact n1
 obtain ⟨na,nb,nab⟩:=List.nodup_append.1 hnd2
 have hmem:∀ y,y∈t.list↔y∈a.list\/y∈b.list:=fun y=>by rw [<-List.mem_append,la,lb,List.take_append_drop]
 obtain ⟨F',h1,h2,h3⟩:=hF.upd (σ':=σ') (mk':=mk) (A:=fun y=>y∈t.list) [a,b] hF.mkk (fun _ _=>rfl) hl hfr (fun y hy=>⟨(ht y hy).1,fun z hz=>by rw [(ht y hy).2] at hz; exact hz⟩) (fun y=>by rw [hmem]; simp)
  (fun u hu u' hu' y hy hy'=>by
   simp at hu hu'
   rcases hu with rfl | rfl<;>rcases hu' with rfl | rfl<;>first | rfl | exact absurd rfl (nab y hy y hy') | exact absurd rfl (nab y hy' y hy))
  (fun u hu=>by
   simp at hu
   rcases hu with rfl | rfl
   ·exact ⟨na,ha,ra,pa⟩
   ·exact ⟨nb,hb,rb,pb⟩)
 exact ⟨a,b,σ',F',e,la,lb,h1,h2 a (by simp),h2 b (by simp),h3,hfr⟩
theorem Forest.merge (hF:Forest l pr mk σ F) {a b:T} (ha:Tree l F a) (hb:Tree l F b) (hdis:∀ y∈a.list,y∉b.list) {k:Nat} (hk:560<k) :
  ∃ t σ' F',zei l p k σ a.root b.root=some (t.root,σ')/\t.list=a.list++b.list/\Forest l pr mk σ' F'/\Tree l F' t/\(∀ y,y∉a.list->y∉b.list->F' y=F y)/\Fr l σ σ' (fun y=>y∈a.list\/y∈b.list):=by
 obtain ⟨n1,n2,n3,n4,n5⟩:=ha.facts hl hF
 obtain ⟨m1,m2,m3,m4,m5⟩:=hb.facts hl hF
 have hnd:(a.list++b.list).Nodup:=List.nodup_append.2 ⟨n1,m1,fun y hy z hz he=>hdis y hy (he▸hz)⟩
 have hlen:=zAg hl hnd fun y hy=>by rcases List.mem_append.1 hy with h | h; exact (ha y h).1; exact (hb y h).1
 rw [List.length_append] at hlen
 have e1:a.size+b.size<=560:=hlen
 obtain ⟨t,σ',e,lt,ht,rt,pt,hfr⟩:=znR hl hp hF.mkk (pr:=pr) k a b hF.size hF.pri n3 m3 hnd (by omega) (by omega) n2 m2
 have hfr':Fr l σ σ' (fun y=>y∈a.list\/y∈b.list):=hfr.mono fun y hy=>List.mem_append.1 hy
 obtain ⟨F',h1,h2,h3⟩:=hF.upd (σ':=σ') (mk':=mk) (A:=fun y=>y∈a.list\/y∈b.list) [t] hF.mkk (fun _ _=>rfl) hl hfr'
  (fun y hy=>by
   rcases hy with hy | hy
   ·exact ⟨(ha y hy).1,fun z hz=>by rw [(ha y hy).2] at hz; exact .inl hz⟩
   ·exact ⟨(hb y hy).1,fun z hz=>by rw [(hb y hy).2] at hz; exact .inr hz⟩) (fun y=>by simp [lt])
  (fun u hu u' hu' y hy hy'=>by simp at hu hu'; rw [hu,hu'])
  (fun u hu=>by simp at hu; subst hu; exact ⟨by rw [lt]; exact hnd,ht,rt,pt⟩)
 exact ⟨t,σ',F',e,lt,h1,h2 t (by simp),fun y h h'=>h3 y (by rintro (q | q); exact h q; exact h' q),hfr'⟩
end
section
variable {l:Lay} (hl:l.Ok) {p:Pen} (hp:PenOk p) {mk:Int->Int} {pr:Int->Int} {σ:M} {F:Int->T}
abbrev Lay.okV (l:Lay) (i v:Int):Prop:=(0<=i/\i<l.lev)/\0<=v/\v<l.V
abbrev Lay.okA (l:Lay) (s i d:Int):Prop:=(0<=s/\s<l.S)/\(0<=i/\i<l.lev)/\0<=d/\d<2
include hl
theorem zaf {i v:Int} (h:l.okV i v):l.nd (l.vertex i v)/\l.node (l.vertex i v)=(⟨false,i,v,0,0⟩,true)/\l.vertex i v=1+i * l.V+v:=by
 have b:=zct hl
 obtain ⟨hi,hv⟩:=h
 have e:l.vertex i v=1+i * l.V+v:=by unfold Lay.vertex; rw [if_pos ⟨hi,hv⟩]
 have m1:=mulb (a:=i) (A:=l.lev - 1) (b:=(l.V:Int)) (B:=l.V) (by omega) (by omega) (by omega) (by omega)
 rw [Int.sub_mul] at m1
 have:=b.n; have:=b.sa; have:=zaB hl
 have hn:l.nd (1+i * l.V+v):=by unfold Lay.nd; omega
 rw [e]
 refine ⟨hn,?_,Z⟩
 unfold Lay.node
 unfold Lay.nd at hn
 dsimp only
 rw [zaU (by omega),if_pos ⟨by omega,by omega⟩,Zp (by omega)]
 have e1:1+i * (l.V:Int)+v - 1=v+i * l.V:=by omega
 rw [e1,Int.add_mul_ediv_right _ _ (by omega),Int.add_mul_emod_self_right,Int.ediv_eq_zero_of_lt (by omega) (by omega),Int.emod_eq_of_lt (by omega) (by omega),Int.zero_add]
theorem zay {s i d:Int} (h:l.okA s i d):l.nd (l.arc s i d)/\l.node (l.arc s i d)=(⟨true,i,0,s,d⟩,true):=by
 have b:=zct hl
 obtain ⟨hs,hi,hd⟩:=h
 have e:l.arc s i d=1+l.lev * l.V+s * l.arcs+2 * i+d:=by unfold Lay.arc; rw [if_pos ⟨hs,hi,hd⟩]
 have ha:=b.a
 have m1:=mulb (a:=s) (A:=l.S - 1) (b:=l.arcs) (B:=l.arcs) (by omega) (by omega) (by omega) (by omega)
 rw [Int.sub_mul] at m1
 have:=b.n; have:=b.sa; have:=zaB hl; have:=b.lv
 have hn:l.nd (1+l.lev * l.V+s * l.arcs+2 * i+d):=by unfold Lay.nd; omega
 rw [e]
 refine ⟨hn,?_⟩
 unfold Lay.node
 unfold Lay.nd at hn
 dsimp only
 rw [zaU (by omega),if_pos ⟨by omega,by omega⟩,Zn (by omega)]
 have e1:1+l.lev * (l.V:Int)+s * l.arcs+2 * i+d - 1 - l.lev * l.V=(2 * i+d)+s * l.arcs:=by omega
 have q1:(2 * i+d+s * l.arcs) % l.arcs=2 * i+d:=by rw [Int.add_mul_emod_self_right,Int.emod_eq_of_lt (by omega) (by omega)]
 have q2:(2 * i+d+s * l.arcs) / l.arcs=s:=by rw [Int.add_mul_ediv_right _ _ (by omega),Int.ediv_eq_zero_of_lt (by omega) (by omega),Int.zero_add]
 have q3:(2 * i+d+s * l.arcs) % 2=d:=by
  have:s * l.arcs=2 * (s * l.lev):=by rw [ha,<-Int.mul_assoc,Int.mul_comm s 2,Int.mul_assoc]
  rw [this]; omega
 have q4:(2 * i+d) / 2=i:=by omega
 rw [e1,q1,q2,q3,q4]
theorem zex {x:Int} (hx:l.nd x):(∃ i v,l.okV i v/\x=l.vertex i v)\/∃ s i d,l.okA s i d/\x=l.arc s i d:=by
 have b:=zct hl
 unfold Lay.nd at hx
 by_cases h:x - 1<l.lev * l.V
 ·left
  have hV:0<(l.V:Int):=by have:=b.v; omega
  have h1:0<=(x - 1) / l.V:=Int.ediv_nonneg (by omega) (by omega)
  have h2:(x - 1) / l.V<l.lev:=Int.ediv_lt_of_lt_mul hV h
  have h3:=Int.emod_nonneg (x - 1) (b:=(l.V:Int)) (by omega)
  have h4:=Int.emod_lt_of_pos (x - 1) hV
  refine ⟨(x - 1) / l.V,(x - 1) % l.V,⟨⟨h1,h2⟩,h3,h4⟩,?_⟩
  rw [(zaf hl ⟨⟨h1,h2⟩,h3,h4⟩).2.2]
  have:=Int.mul_ediv_add_emod (x - 1) l.V
  rw [Int.mul_comm] at this
  omega
 ·right
  have ha:=b.a
  have hA:0<l.arcs:=by have:=b.le; omega
  have hz:x - 1 - l.lev * l.V<l.S * l.arcs:=by have:=b.n; omega
  have h1:0<=(x - 1 - l.lev * l.V) / l.arcs:=Int.ediv_nonneg (by omega) (by omega)
  have h2:(x - 1 - l.lev * l.V) / l.arcs<l.S:=Int.ediv_lt_of_lt_mul hA hz
  have h3:=Int.emod_nonneg (x - 1 - l.lev * l.V) (b:=l.arcs) (by omega)
  have h4:=Int.emod_lt_of_pos (x - 1 - l.lev * l.V) hA
  have hok:l.okA ((x - 1 - l.lev * l.V) / l.arcs) ((x - 1 - l.lev * l.V) % l.arcs / 2) ((x - 1 - l.lev * l.V) % l.arcs % 2):=⟨⟨h1,h2⟩,⟨by omega,by omega⟩,by omega,by omega⟩
  refine ⟨_,_,_,hok,?_⟩
  unfold Lay.arc
  rw [if_pos ⟨hok.1,hok.2.1,hok.2.2⟩]
  have:=Int.mul_ediv_add_emod (x - 1 - l.lev * l.V) l.arcs
  rw [Int.mul_comm] at this
  omega
theorem zcW {i v j w:Int} (h:l.okV i v) (h':l.okV j w):l.vertex i v=l.vertex j w↔i=j/\v=w:=by
 constructor
 ·intro he
  have:=(zaf hl h).2.1
  rw [he,(zaf hl h').2.1] at this
  simp at this; exact ⟨this.1.symm,this.2.symm⟩
 ·rintro ⟨rfl,rfl⟩; rfl
theorem zbH {s i d s' i' d':Int} (h:l.okA s i d) (h':l.okA s' i' d'):l.arc s i d=l.arc s' i' d'↔s=s'/\i=i'/\d=d':=by
 constructor
 ·intro he
  have:=(zay hl h).2
  rw [he,(zay hl h').2] at this
  simp at this; exact ⟨this.2.1.symm,this.1.symm,this.2.2.symm⟩
 ·rintro ⟨rfl,rfl,rfl⟩; rfl
theorem zaN {i v s j d:Int} (h:l.okV i v) (h':l.okA s j d):l.vertex i v≠l.arc s j d:=by
 intro he
 have:=(zaf hl h).2.1
 rw [he,(zay hl h').2] at this
 simp at this
theorem Forest.same (hF:Forest l pr mk σ F) {i u v:Int} (hu:l.okV i u) (hv:l.okV i v) {k:Nat} (hk:560<k):∃ b,Go.Tm.same l k σ i u v=some (b,σ)/\(b=true↔F (l.vertex i u)=F (l.vertex i v)):=by
 have h1:=(zaf hl hu).1
 have h2:=(zaf hl hv).1
 refine ⟨decide ((F (l.vertex i u)).root=(F (l.vertex i v)).root),?_,by rw [decide_eq_true_iff]; exact hF.roots hl h1 h2⟩
 unfold Go.Tm.same
 rw [hF.root hl h1 hk,Option.bind_some,hF.root hl h2 hk,Option.bind_some]
theorem Forest.count (hF:Forest l pr mk σ F) {i u:Int} (hu:l.okV i u) {k:Nat} (hk:560<k):Go.Tm.count l k σ i u=some (vts l (F (l.vertex i u)).list,σ):=by
 have h1:=(zaf hl hu).1
 unfold Go.Tm.count
 have:=hF.rowLen hl h1
 rw [hF.root hl h1 hk,Option.bind_some]
 dsimp only
 rw [(hF.rep _ h1).verts hl hF.mkk (by omega),zbd]
theorem Forest.lfirst (hF:Forest l pr mk σ F) {i v:Int} (hv:l.okV i v) {k:Nat} (hk:560<k) {j:Int} (hj:j=0\/j=1):Go.Tm.lfirst l k σ i v j=some (((F (l.vertex i v)).list.find? fun x=>bitM (mk x) j).getD 0,σ):=by
 have h1:=(zaf hl hv).1
 unfold Go.Tm.lfirst
 have:=hF.rowLen hl h1
 rw [hF.root hl h1 hk,Option.bind_some]
 dsimp only
 exact zqG hl hF.mkk (hF.rep _ h1) (by omega) hj (by omega)
include hp
theorem Forest.begin (hF:Forest l pr mk σ F) {i u:Int} (hu:l.okV i u) {A B:List Int} (he:(F (l.vertex i u)).list=A++l.vertex i u :: B) {k:Nat} (hk:560<k) :
  ∃ t σ' F',ze5 l p k σ i u=some (t.root,σ')/\t.list=(l.vertex i u :: B)++A/\Forest l pr mk σ' F'/\Tree l F' t/\(∀ y,y∉A++l.vertex i u :: B->F' y=F y)/\Fr l σ σ' (fun y=>y∈A++l.vertex i u :: B):=by
 have h1:=(zaf hl hu).1
 unfold ze5
 dsimp only
 rw [hF.root hl h1 hk,Option.bind_some]
 dsimp only
 rw [hF.index hl h1 he hk,Option.bind_some]
 dsimp only
 obtain ⟨a,b,σ1,F1,e1,la,lb,hF1,ta,tb,hn,hfr⟩:=hF.split hl hp (hF.tree hl h1) A.length hk
 rw [e1,Option.bind_some]
 rw [he,List.take_left] at la
 rw [he,List.drop_left] at lb
 have hnd:=hF.nodup _ h1
 rw [he] at hnd
 obtain ⟨t,σ2,F2,e2,lt,hF2,tt,hn2,hfr2⟩:=hF1.merge hl hp tb ta (fun y hy hy'=>by
  rw [la] at hy'; rw [lb] at hy
  exact (List.nodup_append.1 hnd).2.2 y hy' y hy Z) hk
 dsimp only
 rw [he] at hn
 refine ⟨t,σ2,F2,e2,by rw [lt,la,lb],hF2,tt,fun y hy=>?_,(hfr.trans hfr2).mono fun y hy=>?_⟩
 ·rw [List.mem_append] at hy
  rw [hn2 y (by rw [lb]; exact fun h=>hy (.inr h)) (by rw [la]; exact fun h=>hy (.inl h)),hn y (by rw [List.mem_append]; exact hy)]
 ·rw [he,la,lb] at hy
  rw [List.mem_append]
  rcases hy with hy | hy | hy
  ·exact List.mem_append.1 hy
  ·exact .inr hy
  ·exact .inl hy
theorem Forest.link (hF:Forest l pr mk σ F) {i s u v:Int} (hu:l.okV i u) (hv:l.okV i v) (h0:l.okA s i 0) (h1:l.okA s i 1) {A B C D:List Int} (hA:(F (l.vertex i u)).list=A++l.vertex i u :: B) (hC:(F (l.vertex i v)).list=C++l.vertex i v :: D)
  (ht:(F (l.arc s i 0)).list=[l.arc s i 0]) (hb:(F (l.arc s i 1)).list=[l.arc s i 1]) (hne:F (l.vertex i u)≠F (l.vertex i v)) {k:Nat} (hk:560<k) :
  ∃ t σ' F',Go.Tm.link l p k σ i s u v=some (t.root,σ')/\t.list=(l.vertex i u :: B++A)++[l.arc s i 0]++(l.vertex i v :: D++C)++[l.arc s i 1]/\Forest l pr mk σ' F'/\Tree l F' t/\(∀ y,y∉t.list->F' y=F y)/\Fr l σ σ' (fun y=>y∈t.list):=by
 have nu:=(zaf hl hu).1
 have nv:=(zaf hl hv).1
 have n0:=(zay hl h0).1
 have n1:=(zay hl h1).1
 have n01:l.arc s i 0≠l.arc s i 1:=fun h=>by have:=((zbH hl h0 h1).1 h).2.2; omega
 have dUV:∀ y,y∈A++l.vertex i u :: B->y∉C++l.vertex i v :: D:=fun y hy hy'=>by
  rw [<-hA] at hy; rw [<-hC] at hy'
  exact hne (by rw [<-hF.cls _ nu y hy,hF.cls _ nv y hy'])
 have alone:∀ a,l.nd a->(F a).list=[a]->∀ x,l.nd x->a∈(F x).list->x=a:=fun a ha hal x hx hax=>by
  have:=hF.cls x hx a hax
  have hxx:=hF.mem x hx
  rw [<-this,hal] at hxx
  simpa using hxx
 have va:∀ d,l.okA s i d->l.vertex i u≠l.arc s i d/\l.vertex i v≠l.arc s i d:=fun d hd=>⟨zaN hl hu hd,zaN hl hv hd⟩
 have d0U:l.arc s i 0∉A++l.vertex i u :: B:=fun h=>by rw [<-hA] at h; exact (va 0 h0).1 (alone _ n0 ht _ nu h)
 have d1U:l.arc s i 1∉A++l.vertex i u :: B:=fun h=>by rw [<-hA] at h; exact (va 1 h1).1 (alone _ n1 hb _ nu h)
 have d0V:l.arc s i 0∉C++l.vertex i v :: D:=fun h=>by rw [<-hC] at h; exact (va 0 h0).2 (alone _ n0 ht _ nv h)
 have d1V:l.arc s i 1∉C++l.vertex i v :: D:=fun h=>by rw [<-hC] at h; exact (va 1 h1).2 (alone _ n1 hb _ nv h)
 unfold Go.Tm.link
 obtain ⟨t1,σ1,F1,e1,l1,hF1,tt1,hn1,fr1⟩:=hF.begin hl hp hu hA hk
 rw [e1,Option.bind_some]
 dsimp only
 have m1:∀ y,y∈t1.list↔y∈A++l.vertex i u :: B:=fun y=>by rw [l1,List.mem_append,List.mem_append]; exact or_comm
 have tth:Tree l F1 (F (l.arc s i 0)):=fun y hy=>by
  rw [ht] at hy; simp at hy; subst hy
  exact ⟨n0,hn1 _ d0U⟩
 have r0:(F (l.arc s i 0)).root=l.arc s i 0:=by
  have hr:=hF.rep _ n0
  have:(F (l.arc s i 0)).root≠0:=fun h=>by rw [(hr.nil_iff).1 h] at ht; cases ht
  have:=hr.root_mem this
  rw [ht] at this; simpa using this
 have r1:(F (l.arc s i 1)).root=l.arc s i 1:=by
  have hr:=hF.rep _ n1
  have:(F (l.arc s i 1)).root≠0:=fun h=>by rw [(hr.nil_iff).1 h] at hb; cases hb
  have:=hr.root_mem this
  rw [hb] at this; simpa using this
 obtain ⟨t2,σ2,F2,e2,l2,hF2,tt2,hn2,fr2⟩:=hF1.merge hl hp tt1 tth (fun y hy hy'=>by rw [ht] at hy'; simp at hy'; subst hy'; exact d0U ((m1 _).1 hy)) hk
 rw [r0] at e2
 rw [e2,Option.bind_some]
 dsimp only
 have hC2:(F2 (l.vertex i v)).list=C++l.vertex i v :: D:=by
  have hvm:l.vertex i v∈C++l.vertex i v :: D:=by simp
  rw [hn2 _ (fun h=>dUV _ ((m1 _).1 h) hvm) (by rw [ht]; simp; exact (va 0 h0).2),hn1 _ (fun h=>dUV _ h hvm)]
  exact hC
 obtain ⟨t3,σ3,F3,e3,l3,hF3,tt3,hn3,fr3⟩:=hF2.begin hl hp hv hC2 hk
 rw [e3,Option.bind_some]
 dsimp only
 have m3:∀ y,y∈t3.list↔y∈C++l.vertex i v :: D:=fun y=>by rw [l3,List.mem_append,List.mem_append]; exact or_comm
 have m2:∀ y,y∈t2.list->y∉C++l.vertex i v :: D:=fun y hy hy'=>by
  rw [l2,List.mem_append,m1,ht,List.mem_singleton] at hy
  rcases hy with hy | rfl
  ·exact dUV y hy hy'
  ·exact d0V hy'
 have tt2':Tree l F3 t2:=fun y hy=>⟨(tt2 y hy).1,by rw [hn3 y (m2 y hy)]; exact (tt2 y hy).2⟩
 obtain ⟨t4,σ4,F4,e4,l4,hF4,tt4,hn4,fr4⟩:=hF3.merge hl hp tt2' tt3 (fun y hy hy'=>m2 y hy ((m3 y).1 hy')) hk
 rw [e4,Option.bind_some]
 dsimp only
 have d1t2:l.arc s i 1∉t2.list:=by
  rw [l2,List.mem_append,m1,ht,List.mem_singleton]
  rintro (h | h)
  ·exact d1U h
  ·exact n01 h.symm
 have d1t3:l.arc s i 1∉t3.list:=fun h=>d1V ((m3 _).1 h)
 have tb4:Tree l F4 (F (l.arc s i 1)):=fun y hy=>by
  rw [hb] at hy; simp at hy; subst hy
  refine ⟨n1,?_⟩
  rw [hn4 _ d1t2 d1t3,hn3 _ d1V,hn2 _ (fun h=>d1U ((m1 _).1 h)) (by rw [ht]; simp; exact Ne.symm n01),hn1 _ d1U]
 obtain ⟨t5,σ5,F5,e5,l5,hF5,tt5,hn5,fr5⟩:=hF4.merge hl hp tt4 tb4 (fun y hy hy'=>by
  rw [hb] at hy'; simp at hy'; subst hy'
  rw [l4,List.mem_append] at hy
  rcases hy with hy | hy
  ·exact d1t2 hy
  ·exact d1t3 hy) hk
 rw [r1] at e5
 have m5:∀ y,y∈t5.list↔(y∈A++l.vertex i u :: B\/y=l.arc s i 0)\/y∈C++l.vertex i v :: D\/y=l.arc s i 1:=fun y=>by
  rw [l5,l4,l2,List.mem_append,List.mem_append,List.mem_append,m1,m3,ht,hb,List.mem_singleton,List.mem_singleton,or_assoc]
 refine ⟨t5,σ5,F5,e5,by rw [l5,l4,l2,l1,l3,ht,hb],hF5,tt5,fun y hy=>?_,((((fr1.trans fr2).trans fr3).trans fr4).trans fr5).mono fun y hy=>?_⟩
 ·rw [m5] at hy
  have q1:y∉A++l.vertex i u :: B:=fun h=>hy (.inl (.inl h))
  have q2:y≠l.arc s i 0:=fun h=>hy (.inl (.inr h))
  have q3:y∉C++l.vertex i v :: D:=fun h=>hy (.inr (.inl h))
  have q4:y≠l.arc s i 1:=fun h=>hy (.inr (.inr h))
  have q5:y∉t2.list:=by rw [l2,List.mem_append,m1,ht,List.mem_singleton]; rintro (h | h); exact q1 h; exact q2 h
  have q6:y∉t3.list:=fun h=>q3 ((m3 y).1 h)
  rw [hn5 y (by rw [l4,List.mem_append]; rintro (h | h); exact q5 h; exact q6 h) (by rw [hb]; simpa using q4),hn4 y q5 q6,hn3 y q3,hn2 y (fun h=>q1 ((m1 y).1 h)) (by rw [ht]; simpa using q2),hn1 y q1]
 ·show y∈t5.list
  rw [m5]
  rcases hy with (((hy | hy | hy) | hy) | hy | hy) | hy | hy
  ·exact .inl (.inl hy)
  ·exact .inl (.inl ((m1 y).1 hy))
  ·rw [ht] at hy; exact .inl (.inr (by simpa using hy))
  ·exact .inr (.inl hy)
  ·rw [l2,List.mem_append,m1,ht,List.mem_singleton] at hy; exact .inl hy
  ·exact .inr (.inl ((m3 y).1 hy))
  ·rw [l4,l2,List.mem_append,List.mem_append,m1,m3,ht,List.mem_singleton] at hy
   rcases hy with hy | hy
   ·exact .inl hy
   ·exact .inr (.inl hy)
  ·rw [hb] at hy; exact .inr (.inr (by simpa using hy))
end
section
variable {l:Lay} (hl:l.Ok) {p:Pen} (hp:PenOk p) {mk:Int->Int} {pr:Int->Int} {σ:M} {F:Int->T}
theorem Tree.of_list (hF:Forest l pr mk σ F) {t:T} (ht:Tree l F t) {x:Int} {r:List Int} (hx:l.nd x) (he:t.list=r) (hm:x∈r):(F x).list=r:=by
 rw [(ht x (he▸hm)).2,he]
theorem Tree.keep {F':Int->T} {t:T} (ht:Tree l F t) (h:∀ y∈t.list,F' y=F y):Tree l F' t:=fun y hy=>⟨(ht y hy).1,by rw [h y hy]; exact (ht y hy).2⟩
include hl hp
theorem Forest.cut (hF:Forest l pr mk σ F) {i s:Int} (h0:l.okA s i 0) (h1:l.okA s i 1) {e1 e2:Int} (he:(e1=l.arc s i 0/\e2=l.arc s i 1)\/(e1=l.arc s i 1/\e2=l.arc s i 0)) {A B C:List Int}
  (hL:(F (l.arc s i 0)).list=A++e1 :: (B++e2 :: C)) {k:Nat} (hk:560<k) :
  ∃ r σ' F' ti to,Go.Tm.cut l p k σ i s=some (r,σ')/\ti.list=B/\to.list=A++C/\Forest l pr (updM (updM mk (l.arc s i 0) 0) (l.arc s i 1) 0) σ' F'/\Tree l F' ti/\Tree l F' to/\(F' (l.arc s i 0)).list=[l.arc s i 0]/\(F' (l.arc s i 1)).list=[l.arc s i 1] /\
   (∀ y,y∉A++e1 :: (B++e2 :: C)->F' y=F y)/\Fr l σ σ' (fun y=>y∈A++e1 :: (B++e2 :: C)):=by
 have n0:=(zay hl h0).1
 have n1:=(zay hl h1).1
 have n01:l.arc s i 0≠l.arc s i 1:=fun h=>by have:=((zbH hl h0 h1).1 h).2.2; omega
 have hnd:=hF.nodup _ n0
 rw [hL] at hnd
 have hb0:l.arc s i 1∈(F (l.arc s i 0)).list:=by rw [hL]; rcases he with ⟨q1,q2⟩ | ⟨q1,q2⟩<;>simp [q1,q2]
 have hF1:F (l.arc s i 1)=F (l.arc s i 0):=hF.cls _ n0 _ hb0
 have ix1:∀ x,l.nd x->F x=F (l.arc s i 0)->x=e1->Go.Tm.index l k σ x=some ((A.length:Int),σ):=fun x hx hFx hxe=>hF.index hl hx (post:=B++e2 :: C) (by rw [hFx,hL,hxe]) hk
 have ix2:∀ x,l.nd x->F x=F (l.arc s i 0)->x=e2->Go.Tm.index l k σ x=some (((A++e1 :: B).length:Int),σ):=fun x hx hFx hxe=>hF.index hl hx (post:=C) (by rw [hFx,hL,hxe]; simp) hk
 have hlen:(A++e1 :: B).length=A.length+1+B.length:=by simp only [List.length_append,List.length_cons]; omega
 unfold Go.Tm.cut
 dsimp only
 obtain ⟨x0,x1,i0,i1,hmin,hmax⟩:∃ x0 x1:Int,Go.Tm.index l k σ (l.arc s i 0)=some (x0,σ)/\Go.Tm.index l k σ (l.arc s i 1)=some (x1,σ)/\(if x1<x0 then x1 else x0)=((A.length:Nat):Int)/\(if x1<x0 then x0 else x1)=(((A++e1 :: B).length:Nat):Int):=by
  rcases he with ⟨q1,q2⟩ | ⟨q1,q2⟩
  ·exact ⟨_,_,ix1 _ n0 Z q1.symm,ix2 _ n1 hF1 q2.symm,by rw [Zn (by omega)],by rw [Zn (by omega)]⟩
  ·exact ⟨_,_,ix2 _ n0 Z q2.symm,ix1 _ n1 hF1 q1.symm,by rw [Zp (by omega)],by rw [Zp (by omega)]⟩
 rw [i0,Option.bind_some]
 dsimp only
 rw [i1,Option.bind_some]
 dsimp only
 rw [hF.root hl n0 hk,Option.bind_some]
 dsimp only
 rw [hmax,hmin]
 have spl:A++e1 :: (B++e2 :: C)=(A++e1 :: B)++(e2 :: C):=by simp
 obtain ⟨a1,b1,σ1,F1,e1',la1,lb1,hF1',ta1,tb1,hn1,fr1⟩:=hF.split hl hp (hF.tree hl n0) (A++e1 :: B).length hk
 rw [hL,spl,List.take_left] at la1
 rw [hL,spl,List.drop_left] at lb1
 rw [e1',Option.bind_some]
 dsimp only
 obtain ⟨a2,b2,σ2,F2,e2',la2,lb2,hF2,ta2,tb2,hn2,fr2⟩:=hF1'.split hl hp tb1 1 hk
 rw [lb1] at la2 lb2
 rw [show ((1:Nat):Int)=1 from Z] at e2'
 rw [e2',Option.bind_some]
 dsimp only
 have hnd3:((A++e1 :: B)++(e2 :: C)).Nodup:=by rw [<-spl]; exact hnd
 have dis12:∀ y∈A++e1 :: B,y∉e2 :: C:=fun y hy hy'=>(List.nodup_append.1 hnd3).2.2 y hy y hy' Z
 have ta1':Tree l F2 a1:=ta1.keep fun y hy=>hn2 y (by rw [lb1]; rw [la1] at hy; exact dis12 y hy)
 obtain ⟨a3,b3,σ3,F3,e3',la3,lb3,hF3,ta3,tb3,hn3,fr3⟩:=hF2.split hl hp ta1' A.length hk
 rw [la1,List.take_left] at la3
 rw [la1,List.drop_left] at lb3
 rw [e3',Option.bind_some]
 dsimp only
 obtain ⟨a4,b4,σ4,F4,e4',la4,lb4,hF4,ta4,tb4,hn4,fr4⟩:=hF3.split hl hp tb3 1 hk
 rw [lb3] at la4 lb4
 rw [show ((1:Nat):Int)=1 from Z] at e4'
 rw [e4',Option.bind_some]
 dsimp only
 have sa2:a2.list=[e2]:=by rw [la2]; rfl
 have sb2:b2.list=C:=by rw [lb2]; rfl
 have sa4:a4.list=[e1]:=by rw [la4]; rfl
 have sb4:b4.list=B:=by rw [lb4]; rfl
 have d2:∀ y∈e2 :: C,F4 y=F2 y:=fun y hy=>by
  have h1:y∉A++e1 :: B:=fun h=>dis12 y h hy
  rw [hn4 y (by rw [lb3]; exact fun h=>h1 (List.mem_append.2 (.inr h))),hn3 y (by rw [la1]; exact h1)]
 have ta2':Tree l F4 a2:=ta2.keep fun y hy=>d2 y (by rw [sa2] at hy; simp at hy; simp [hy])
 have tb2':Tree l F4 b2:=tb2.keep fun y hy=>d2 y (by rw [sb2] at hy; simp [hy])
 have hndA:=(List.nodup_append.1 hnd3).1
 have disA:∀ y∈A,y∉e1 :: B:=fun y hy hy'=>(List.nodup_append.1 hndA).2.2 y hy y hy' Z
 have ta3':Tree l F4 a3:=ta3.keep fun y hy=>hn4 y (by rw [lb3]; rw [la3] at hy; exact disA y hy)
 have ne1:l.nd e1:=by rcases he with ⟨q,_⟩ | ⟨q,_⟩<;>rw [q]<;>assumption
 have ne2:l.nd e2:=by rcases he with ⟨_,q⟩ | ⟨_,q⟩<;>rw [q]<;>assumption
 have l1:(F4 e1).list=[e1]:=ta4.of_list hF4 ne1 sa4 (by simp)
 have l2:(F4 e2).list=[e2]:=ta2'.of_list hF4 ne2 sa2 (by simp)
 have hl0:(F4 (l.arc s i 0)).list=[l.arc s i 0]:=by rcases he with ⟨q1,q2⟩ | ⟨q1,q2⟩; rw [<-q1]; exact l1; rw [<-q2]; exact l2
 have hl1:(F4 (l.arc s i 1)).list=[l.arc s i 1]:=by rcases he with ⟨q1,q2⟩ | ⟨q1,q2⟩; rw [<-q2]; exact l2; rw [<-q1]; exact l1
 obtain ⟨hF5,fr5⟩:=hF4.alone hl hp n0 hl0
 obtain ⟨hF6,fr6⟩:=hF5.alone hl hp n1 hl1
 have disAC:∀ y∈a3.list,y∉b2.list:=fun y hy hy'=>by
  rw [la3] at hy; rw [sb2] at hy'
  exact dis12 y (List.mem_append.2 (.inl hy)) (List.mem_cons_of_mem _ hy')
 obtain ⟨t,σ7,F7,e7,l7,hF7,t7,hn7,fr7⟩:=hF6.merge hl hp ta3' tb2' disAC hk
 rw [e7,Option.bind_some]
 have e12:e1≠e2:=fun h=>dis12 e1 (by simp) (by simp [h])
 have e1AC:e1∉A/\e1∉C:=⟨fun h=>disA e1 h (by simp),fun h=>dis12 e1 (by simp) (by simp [h])⟩
 have hndC:=(List.nodup_append.1 hnd3).2.1
 have e2AC:e2∉A/\e2∉C:=⟨fun h=>dis12 e2 (by simp [h]) (by simp),fun h=>(List.nodup_cons.1 hndC).1 h⟩
 have k1:F7 e1=F4 e1:=hn7 e1 (by rw [la3]; exact e1AC.1) (by rw [sb2]; exact e1AC.2)
 have k2:F7 e2=F4 e2:=hn7 e2 (by rw [la3]; exact e2AC.1) (by rw [sb2]; exact e2AC.2)
 have k0':F7 (l.arc s i 0)=F4 (l.arc s i 0):=by rcases he with ⟨q1,q2⟩ | ⟨q1,q2⟩; rw [<-q1]; exact k1; rw [<-q2]; exact k2
 have k1':F7 (l.arc s i 1)=F4 (l.arc s i 1):=by rcases he with ⟨q1,q2⟩ | ⟨q1,q2⟩; rw [<-q2]; exact k2; rw [<-q1]; exact k1
 refine ⟨_,σ7,F7,b4,t,Z,sb4,by rw [l7,la3,sb2],hF7,tb4.keep fun y hy=>hn7 y ?_ ?_,t7,by rw [k0']; exact hl0,by rw [k1']; exact hl1,fun y hy=>?_,?_⟩
 ·rw [la3]; rw [sb4] at hy; exact fun h=>disA y h (List.mem_cons_of_mem _ hy)
 ·rw [sb2]; rw [sb4] at hy; exact fun h=>dis12 y (by simp [hy]) (by simp [h])
 ·rw [spl,List.mem_append] at hy
  have q1:y∉A++e1 :: B:=fun h=>hy (.inl h)
  have q2:y∉e2 :: C:=fun h=>hy (.inr h)
  rw [hn7 y (by rw [la3]; exact fun h=>q1 (List.mem_append.2 (.inl h))) (by rw [sb2]; exact fun h=>q2 (List.mem_cons_of_mem _ h)),hn4 y (by rw [lb3]; exact fun h=>q1 (List.mem_append.2 (.inr h))),hn3 y (by rw [la1]; exact q1),hn2 y (by rw [lb1]; exact q2),
   hn1 y (by rw [hL,spl,List.mem_append]; exact hy)]
 ·have a0:∀ y,y=l.arc s i 0\/y=l.arc s i 1->y∈(A++e1 :: B)++(e2 :: C):=fun y hy=>by
   rcases he with ⟨q1,q2⟩ | ⟨q1,q2⟩<;>rcases hy with rfl | rfl<;>simp [<-q1,<-q2]
  refine ((((((fr1.trans fr2).trans fr3).trans fr4).trans fr5).trans fr6).trans fr7).mono fun y hy=>?_
  rw [spl]
  rcases hy with (((((hy | hy) | hy) | hy) | hy) | hy) | hy | hy
  ·rw [hL,spl] at hy; exact hy
  ·rw [lb1] at hy; exact List.mem_append.2 (.inr hy)
  ·rw [la1] at hy; exact List.mem_append.2 (.inl hy)
  ·rw [lb3] at hy; exact List.mem_append.2 (.inl (List.mem_append.2 (.inr hy)))
  ·exact a0 y (.inl hy)
  ·exact a0 y (.inr hy)
  ·rw [la3] at hy; exact List.mem_append.2 (.inl (List.mem_append.2 (.inl hy)))
  ·rw [sb2] at hy; exact List.mem_append.2 (.inr (List.mem_cons_of_mem _ hy))
end
def bf (r:List Int) (a y:Int):Bool:=decide (r.idxOf a<r.idxOf y)
def inn (r:List Int) (a b y:Int):Bool:=Bool.xor (bf r a y) (bf r b y)
theorem zdg (A B:List Int) (a y:Int):bf (A++B) a y=if a∈A then (if y∈A then bf A a y else true) else (if y∈A then false else bf B a y):=by
 unfold bf
 rw [List.idxOf_append,List.idxOf_append]
 by_cases ha:a∈A<;>by_cases hy:y∈A
 ·rw [Zp ha,Zp hy,Zp ha,Zp hy]
 ·rw [Zp ha,Zn hy,Zp ha,Zn hy,decide_eq_true_iff]
  have:=List.idxOf_lt_length_of_mem ha
  omega
 ·rw [Zn ha,Zp hy,Zn ha,Zp hy,decide_eq_false_iff_not]
  have:=List.idxOf_lt_length_of_mem hy
  omega
 ·rw [Zn ha,Zn hy,Zn ha,Zn hy,decide_eq_decide]; omega
theorem zid {A B:List Int} {a b y:Int} (ha:a∈A) (hb:b∈A):inn (A++B) a b y=if y∈A then inn A a b y else false:=by
 unfold inn
 rw [zdg,zdg,Zp ha,Zp hb]
 by_cases hy:y∈A
 ·rw [Zp hy,Zp hy,Zp hy]
 ·rw [Zn hy,Zn hy,Zn hy]; rfl
theorem zfk {A B:List Int} {a b y:Int} (ha:a∉A) (hb:b∉A):inn (A++B) a b y=if y∈A then false else inn B a b y:=by
 unfold inn
 rw [zdg,zdg,Zn ha,Zn hb]
 by_cases hy:y∈A
 ·rw [Zp hy,Zp hy,Zp hy]; rfl
 ·rw [Zn hy,Zn hy,Zn hy]
theorem zeG {A B:List Int} (hd:∀ y∈A,y∉B) {a b y:Int} (ha:a∈A++B) (hb:b∈A++B) (hy:y∈A++B):inn (B++A) a b y=Bool.xor (inn (A++B) a b y) (Bool.xor (decide (a∈A)) (decide (b∈A))):=by
 have hx:∀ z,z∈A++B->(z∈B↔z∉A):=fun z hz=>by
  rcases List.mem_append.1 hz with h | h
  ·exact ⟨fun h'=>absurd h' (hd z h),fun h'=>absurd h h'⟩
  ·exact ⟨fun _ h'=>hd z h' h,fun _=>h⟩
 unfold inn
 rw [zdg B A,zdg B A,zdg A B,zdg A B]
 by_cases h1:a∈A<;>by_cases h2:b∈A<;>by_cases h3:y∈A<;>simp [hx a ha,hx b hb,hx y hy,h1,h2,h3]
theorem zyg {A K C:List Int} {a b y:Int} (ha:a∈K) (hb:b∈K) (hy:y∈K) (hd:∀ z∈K,z∉A):inn (A++(K++C)) a b y=inn K a b y:=by
 rw [zfk (hd a ha) (hd b hb),Zn (hd y hy),zid ha hb,Zp hy]
theorem zyf {A K C:List Int} {a b y:Int} (ha:a∉K) (hb:b∉K) (hy:y∉K):inn (A++(K++C)) a b y=inn (A++C) a b y:=by
 unfold inn
 rw [zdg A,zdg A,zdg A,zdg A,zdg K,zdg K,Zn ha,Zn hb,Zn hy,Zn hy]
theorem zn0 {A B C:List Int} {a b y:Int} (hnd:(A++a :: (B++b :: C)).Nodup) (hy:y≠a/\y≠b):inn (A++a :: (B++b :: C)) a b y=decide (y∈B):=by
 have e:A++a :: (B++b :: C)=A++([a]++(B++([b]++C))):=by simp
 rw [e] at hnd ⊢
 simp only [List.nodup_append,List.mem_append,List.mem_singleton] at hnd
 obtain ⟨nA,⟨_,⟨nB,⟨_,nC,hbC⟩,hBC⟩,haB⟩,hA⟩:=hnd
 have aA:a∉A:=fun h=>hA a h a (.inl Z) Z
 have bA:b∉A:=fun h=>hA b h b (.inr (.inr (.inl Z))) Z
 have ab:b≠a:=fun h=>haB a Z b (.inr (.inl Z)) h.symm
 have bB:b∉B:=fun h=>hBC b h b (.inl Z) Z
 have yA:y∈A->y∉B:=fun h h'=>hA y h y (.inr (.inl h')) Z
 rw [zfk aA bA]
 by_cases h1:y∈A
 ·rw [Zp h1,decide_eq_false (yA h1)]
 ·rw [Zn h1]
  unfold inn
  rw [zdg [a],zdg [a],Zp (by simp),Zn (by simpa using hy.1),Zn (by simpa using ab),Zn (by simpa using hy.1),zdg B,Zn bB]
  by_cases h2:y∈B
  ·rw [Zp h2,decide_eq_true h2]; rfl
  ·rw [Zn h2,zdg [b],Zp (by simp),Zn (by simpa using hy.2),decide_eq_false h2]; rfl
theorem zvJ {r:List Int} {a b y:Int}:inn r a b y=inn r b a y:=Bool.xor_comm _ _
inductive Conn (P:Int->Prop) (eu ev:Int->Int):Int->Int->Prop
 | refl (u:Int):Conn P eu ev u u
 | step {u w x:Int} (h:Conn P eu ev u w) (s:Int) (hs:P s) (he:(eu s=w/\ev s=x)\/(ev s=w/\eu s=x)):Conn P eu ev u x
section
variable {P Q:Int->Prop} {eu ev:Int->Int} {u v w:Int}
theorem Conn.trans (h:Conn P eu ev u v) (h':Conn P eu ev v w):Conn P eu ev u w:=by
 induction h' with
 | refl=>exact h
 | step _ s hs he ih=>exact .step ih s hs he
theorem Conn.symm (h:Conn P eu ev u v):Conn P eu ev v u:=by
 induction h with
 | refl=>exact .refl _
 | step _ s hs he ih=>exact Conn.trans (.step (.refl _) s hs (by rcases he with ⟨a,b⟩ | ⟨a,b⟩; exact .inr ⟨b,a⟩; exact .inl ⟨b,a⟩)) ih
theorem Conn.mono (h:Conn P eu ev u v) (hPQ:∀ s,P s->Q s):Conn Q eu ev u v:=by
 induction h with
 | refl=>exact .refl _
 | step _ s hs he ih=>exact .step ih s (hPQ s hs) he
end
structure Tour (l:Lay) (F:Int->T) (i:Int) (P:Int->Prop) (eu ev:Int->Int):Prop where
 lev:∀ x,l.nd x->(l.node x).1.level=i->∀ y∈(F x).list,(l.node y).1.level=i
 rng:∀ s,P s->(0<=s/\s<l.S)/\l.okV i (eu s)/\l.okV i (ev s)
 single:∀ s d,l.okA s i d->¬P s->(F (l.arc s i d)).list=[l.arc s i d]
 arcs:∀ s,P s->F (l.arc s i 1)=F (l.arc s i 0)/\F (l.vertex i (eu s))=F (l.arc s i 0)/\F (l.vertex i (ev s))=F (l.arc s i 0)
 sep:∀ s t,P s->P t->s≠t->F (l.arc t i 0)=F (l.arc s i 0)->∀ y,(y=l.arc t i 1\/y=l.vertex i (eu t)\/y=l.vertex i (ev t)) ->
  inn (F (l.arc s i 0)).list (l.arc s i 0) (l.arc s i 1) y=inn (F (l.arc s i 0)).list (l.arc s i 0) (l.arc s i 1) (l.arc t i 0)
 cross:∀ s,P s->inn (F (l.arc s i 0)).list (l.arc s i 0) (l.arc s i 1) (l.vertex i (ev s))=!inn (F (l.arc s i 0)).list (l.arc s i 0) (l.arc s i 1) (l.vertex i (eu s))
 conn:∀ u v,l.okV i u->l.okV i v->F (l.vertex i u)=F (l.vertex i v)->Conn P eu ev u v
section
variable {l:Lay} (hl:l.Ok) {p:Pen} (hp:PenOk p) {mk:Int->Int} {pr:Int->Int} {σ:M} {F F':Int->T} {i:Int} {P Q:Int->Prop} {eu ev:Int->Int}
include hl
theorem Tour.lk (h:0<=i/\i<l.lev) (hT:Tour l F i P eu ev) {s:Int} (hs:P s):l.okA s i 0/\l.okA s i 1:=⟨⟨(hT.rng s hs).1,h,by omega⟩,⟨(hT.rng s hs).1,h,by omega⟩⟩
theorem Tour.congr (hi:0<=i/\i<l.lev) (hT:Tour l F i P eu ev) (h:∀ y,l.nd y->(l.node y).1.level=i->F' y=F y):Tour l F' i P eu ev:=by
 have hv:∀ v,l.okV i v->F' (l.vertex i v)=F (l.vertex i v):=fun v hv=>h _ (zaf hl hv).1 (by rw [(zaf hl hv).2.1])
 have ha:∀ s d,l.okA s i d->F' (l.arc s i d)=F (l.arc s i d):=fun s d hd=>h _ (zay hl hd).1 (by rw [(zay hl hd).2])
 refine ⟨fun x hx hxl y hy=>hT.lev x hx hxl y (by rw [<-h x hx hxl]; exact hy),hT.rng,fun s d hd hn=>by rw [ha s d hd]; exact hT.single s d hd hn,fun s hs=>?_,fun s t hs ht hst hF y hy=>?_,fun s hs=>?_,fun u v hu hv' he=>hT.conn u v hu hv' (by rw [<-hv u hu,<-hv v hv']; exact he)⟩
 ·obtain ⟨h0,h1⟩:=hT.lk hl hi hs
  rw [ha s 1 h1,ha s 0 h0,hv _ (hT.rng s hs).2.1,hv _ (hT.rng s hs).2.2]; exact hT.arcs s hs
 ·rw [ha t 0 (hT.lk hl hi ht).1,ha s 0 (hT.lk hl hi hs).1] at hF
  rw [ha s 0 (hT.lk hl hi hs).1]; exact hT.sep s t hs ht hst hF y hy
 ·rw [ha s 0 (hT.lk hl hi hs).1]; exact hT.cross s hs
theorem Tour.iff (hT:Tour l F i P eu ev) (h:∀ s,P s↔Q s):Tour l F i Q eu ev:=by
 have:P=Q:=funext fun s=>propext (h s)
 rw [<-this]; exact hT
theorem Tour.ends {eu' ev':Int->Int} (hT:Tour l F i P eu ev) (h:∀ s,P s->eu' s=eu s/\ev' s=ev s):Tour l F i P eu' ev':=by
 refine ⟨hT.lev,fun s hs=>by rw [(h s hs).1,(h s hs).2]; exact hT.rng s hs,hT.single,fun s hs=>by rw [(h s hs).1,(h s hs).2]; exact hT.arcs s hs,fun s t hs ht=>by rw [(h t ht).1,(h t ht).2]; exact hT.sep s t hs ht,fun s hs=>by rw [(h s hs).1,(h s hs).2]; exact hT.cross s hs,fun u v hu hv he=>?_⟩
 have:=hT.conn u v hu hv he
 induction this with
 | refl=>exact .refl _
 | @step w x hw s hs hex ih =>
  have hwv:l.okV i w:=by rcases hex with ⟨e,_⟩ | ⟨e,_⟩<;>rw [<-e]; exact (hT.rng s hs).2.1; exact (hT.rng s hs).2.2
  have hwF:F (l.vertex i w)=F (l.vertex i x):=by
   obtain ⟨_,a1,a2⟩:=hT.arcs s hs
   rcases hex with ⟨e,e'⟩ | ⟨e,e'⟩<;>rw [<-e,<-e',a1,a2]
  exact .step (ih hwv (he.trans hwF.symm)) s hs (by rw [(h s hs).1,(h s hs).2]; exact hex)
end
theorem emb {N X r Y:List Int} (hN:N=X++(r++Y)) (hd:∀ z∈r,z∉X) {a b y:Int} (ha:a∈r) (hb:b∈r):inn N a b y=if y∈r then inn r a b y else false:=by
 rw [hN,zfk (hd a ha) (hd b hb),zid ha hb]
 by_cases h:y∈r
 ·rw [Zn (hd y h)]
 ·rw [Zn h]; exact ite_self _
theorem zkA {r:List Int} {h a b:Int}:inn (h :: r) a b h=false:=by
 unfold inn bf
 have:(h :: r).idxOf h=0:=by simp
 rw [this]; simp
section
variable {l:Lay} (hl:l.Ok) {p:Pen} (hp:PenOk p) {mk mk':Int->Int} {pr:Int->Int} {σ σ':M} {F F':Int->T} {i:Int} {P Q:Int->Prop} {eu ev:Int->Int}
include hl
theorem Forest.mem_iff (hF:Forest l pr mk σ F) {x y:Int} (hx:l.nd x) (hy:l.nd y):x∈(F y).list↔F x=F y :=
 ⟨fun h=>hF.cls y hy x h,fun h=>by rw [<-h]; exact hF.mem x hx⟩
theorem Tour.node {i:Int} (hi:0<=i/\i<l.lev) (hT:Tour l F i P eu ev) {q:Int} (hq:P q):l.nd (l.arc q i 0)/\l.nd (l.arc q i 1)/\l.nd (l.vertex i (eu q))/\l.nd (l.vertex i (ev q)) :=
 ⟨(zay hl (hT.lk hl hi hq).1).1,(zay hl (hT.lk hl hi hq).2).1,(zaf hl (hT.rng q hq).2.1).1,(zaf hl (hT.rng q hq).2.2).1⟩
theorem Tour.link (hi:0<=i/\i<l.lev) (hF:Forest l pr mk σ F) (hF':Forest l pr mk' σ' F') (hT:Tour l F i P eu ev) {s:Int} (hs:¬P s) (hsr:0<=s/\s<l.S) (hu:l.okV i (eu s)) (hv:l.okV i (ev s)) {A B C D:List Int}
  (hA:(F (l.vertex i (eu s))).list=A++l.vertex i (eu s) :: B) (hC:(F (l.vertex i (ev s))).list=C++l.vertex i (ev s) :: D) (hne:F (l.vertex i (eu s))≠F (l.vertex i (ev s))) {t:T}
  (ht:t.list=(l.vertex i (eu s) :: B++A)++[l.arc s i 0]++(l.vertex i (ev s) :: D++C)++[l.arc s i 1]) (hTt:Tree l F' t) (hn:∀ y,y∉t.list->F' y=F y):Tour l F' i (fun q=>P q\/q=s) eu ev:=by
 have h0:l.okA s i 0:=⟨hsr,hi,by omega⟩
 have h1:l.okA s i 1:=⟨hsr,hi,by omega⟩
 have nu:=(zaf hl hu).1
 have nv:=(zaf hl hv).1
 have n0:=(zay hl h0).1
 have n1:=(zay hl h1).1
 have s0:=hT.single s 0 h0 hs
 have s1:=hT.single s 1 h1 hs
 have lu:(l.node (l.vertex i (eu s))).1.level=i:=by rw [(zaf hl hu).2.1]
 have lv:(l.node (l.vertex i (ev s))).1.level=i:=by rw [(zaf hl hv).2.1]
 have la:∀ d,l.okA s i d->(l.node (l.arc s i d)).1.level=i:=fun d hd=>by rw [(zay hl hd).2]
 generalize hU:l.vertex i (eu s)=U at *
 generalize hW:l.vertex i (ev s)=W at *
 generalize hra:U :: B++A=rA at *
 generalize hrb:W :: D++C=rB at *
 have mA:∀ y,y∈rA↔y∈(F U).list:=fun y=>by rw [hA,<-hra,List.mem_append,List.mem_append]; exact or_comm
 have mB:∀ y,y∈rB↔y∈(F W).list:=fun y=>by rw [hC,<-hrb,List.mem_append,List.mem_append]; exact or_comm
 have mN:∀ y,y∈t.list↔((y∈rA\/y=l.arc s i 0)\/y∈rB)\/y=l.arc s i 1:=fun y=>by rw [ht,List.mem_append,List.mem_append,List.mem_append,List.mem_singleton,List.mem_singleton]
 have nN:t.list.Nodup:=(hTt.facts hl hF').1
 have hUA:U∈rA:=by rw [<-hra]; simp
 have hWB:W∈rB:=by rw [<-hrb]; simp
 have e0:∀ y,l.nd y->F y=F (l.arc s i 0)->y=l.arc s i 0:=fun y hy h=>by have:=hF.mem y hy; rw [h,s0] at this; simpa using this
 have e1:∀ y,l.nd y->F y=F (l.arc s i 1)->y=l.arc s i 1:=fun y hy h=>by have:=hF.mem y hy; rw [h,s1] at this; simpa using this
 have kN:∀ y,l.nd y->(y∈t.list↔((F y=F U\/F y=F (l.arc s i 0))\/F y=F W)\/F y=F (l.arc s i 1)):=fun y hy=>by
  rw [mN,mA,mB,hF.mem_iff hl hy nu,hF.mem_iff hl hy nv]
  constructor
  ·rintro (((h | h) | h) | h)
   ·exact .inl (.inl (.inl h))
   ·exact .inl (.inl (.inr (by rw [h])))
   ·exact .inl (.inr h)
   ·exact .inr (by rw [h])
  ·rintro (((h | h) | h) | h)
   ·exact .inl (.inl (.inl h))
   ·exact .inl (.inl (.inr (e0 y hy h)))
   ·exact .inl (.inr h)
   ·exact .inr (e1 y hy h)
 have tN:∀ y,y∈t.list->F' y=t:=fun y hy=>(hTt y hy).2
 have sameF:∀ x y,l.nd x->l.nd y->F x=F y->F' x=F' y:=fun x y hx hy h=>by
  by_cases hm:x∈t.list
  ·rw [tN x hm,tN y ((kN y hy).2 (by rw [<-h]; exact (kN x hx).1 hm))]
  ·rw [hn x hm,hn y (fun hm'=>hm ((kN x hx).2 (by rw [h]; exact (kN y hy).1 hm'))),h]
 have oldF:∀ x y,l.nd x->l.nd y->x∉t.list->F' y=F' x->F y=F x:=fun x y hx hy hm h=>by
  have hxt:x∉t.list:=hm
  rw [hn x hm] at h
  by_cases hy':y∈t.list
  ·rw [tN y hy'] at h
   exact absurd (by rw [h]; exact hF.mem x hx) hxt
  ·rw [hn y hy'] at h; exact h
 have Pne:∀ q,P q->q≠s:=fun q hq he=>hs (he▸hq)
 have na0:∀ q,P q->F (l.arc q i 0)≠F (l.arc s i 0)/\F (l.arc q i 0)≠F (l.arc s i 1):=fun q hq=>by
  have hk:=hT.lk hl hi hq
  have hn':=hT.node hl hi hq
  refine ⟨fun h=>Pne q hq ((zbH hl hk.1 h0).1 (e0 _ hn'.1 h)).1,fun h=>Pne q hq ((zbH hl hk.1 h1).1 (e1 _ hn'.1 h)).1⟩
 have cases3:∀ q,P q->l.arc q i 0∉t.list\/F (l.arc q i 0)=F U\/F (l.arc q i 0)=F W:=fun q hq=>by
  by_cases hm:l.arc q i 0∈t.list
  ·rcases (kN _ (hT.node hl hi hq).1).1 hm with ((h | h) | h) | h
   ·exact .inr (.inl h)
   ·exact absurd h (na0 q hq).1
   ·exact .inr (.inr h)
   ·exact absurd h (na0 q hq).2
  ·exact .inl hm
 have dAB:∀ z∈rB,z∉rA++[l.arc s i 0]:=fun z hz hz'=>by
  rw [ht] at nN
  exact (List.nodup_append.1 (List.nodup_append.1 nN).1).2.2 z hz' z hz Z
 have dBA:∀ z∈rA,z∉rB:=fun z hz hz'=>dAB z hz' (List.mem_append.2 (.inl hz))
 have eA:∀ {a b y:Int},a∈rA->b∈rA->inn t.list a b y=if y∈rA then inn rA a b y else false:=fun ha hb=>emb (X:=[]) (Y:=[l.arc s i 0]++rB++[l.arc s i 1]) (by rw [ht]; simp) (fun _ _ h=>by cases h) ha hb
 have eB:∀ {a b y:Int},a∈rB->b∈rB->inn t.list a b y=if y∈rB then inn rB a b y else false:=fun ha hb=>emb (X:=rA++[l.arc s i 0]) (Y:=[l.arc s i 1]) (by rw [ht]; simp) dAB ha hb
 have inA:∀ y,l.nd y->F y=F U->y∈rA:=fun y hy h=>(mA y).2 ((hF.mem_iff hl hy nu).2 h)
 have inB:∀ y,l.nd y->F y=F W->y∈rB:=fun y hy h=>(mB y).2 ((hF.mem_iff hl hy nv).2 h)
 have innS:∀ y,y≠l.arc s i 0/\y≠l.arc s i 1->inn t.list (l.arc s i 0) (l.arc s i 1) y=decide (y∈rB):=fun y hy=>by
  have e:t.list=rA++l.arc s i 0 :: (rB++l.arc s i 1 :: []):=by rw [ht]; simp
  rw [e] at nN ⊢
  exact zn0 nN hy
 have vne:∀ w,l.okV i w->l.vertex i w≠l.arc s i 0/\l.vertex i w≠l.arc s i 1:=fun w hw=>⟨zaN hl hw h0,zaN hl hw h1⟩
 have toks:∀ q,P q->∀ y,(y=l.arc q i 1\/y=l.vertex i (eu q)\/y=l.vertex i (ev q))->l.nd y/\F y=F (l.arc q i 0)/\(y≠l.arc s i 0/\y≠l.arc s i 1):=fun q hq y hy=>by
  obtain ⟨a1,a2,a3⟩:=hT.arcs q hq
  obtain ⟨m0,m1,m2,m3⟩:=hT.node hl hi hq
  have hF0:F y=F (l.arc q i 0):=by rcases hy with rfl | rfl | rfl; exact a1; exact a2; exact a3
  have hny:l.nd y:=by rcases hy with rfl | rfl | rfl; exact m1; exact m2; exact m3
  exact ⟨hny,hF0,fun h=>(na0 q hq).1 (by rw [<-hF0,h]),fun h=>(na0 q hq).2 (by rw [<-hF0,h])⟩
 have qne:∀ q,P q->l.arc q i 0≠l.arc s i 0/\l.arc q i 0≠l.arc s i 1:=fun q hq=>⟨fun h=>(na0 q hq).1 (by rw [h]),fun h=>(na0 q hq).2 (by rw [h])⟩
 have toksS:∀ y,(y=l.arc s i 1\/y=U\/y=W)->y=l.arc s i 1\/y=U\/y=W:=fun _ h=>h
 have rotA:∀ q,P q->F (l.arc q i 0)=F U->(∀ y z,y∈rA->z∈rA->inn (F (l.arc q i 0)).list (l.arc q i 0) (l.arc q i 1) y=inn (F (l.arc q i 0)).list (l.arc q i 0) (l.arc q i 1) z->inn rA (l.arc q i 0) (l.arc q i 1) y=inn rA (l.arc q i 0) (l.arc q i 1) z) /\
   (∀ y z,y∈rA->z∈rA->inn (F (l.arc q i 0)).list (l.arc q i 0) (l.arc q i 1) y=(!inn (F (l.arc q i 0)).list (l.arc q i 0) (l.arc q i 1) z)->inn rA (l.arc q i 0) (l.arc q i 1) y=!inn rA (l.arc q i 0) (l.arc q i 1) z):=fun q hq hFq=>by
  have hr:=hA
  rw [<-hFq] at hr
  have hnd:=hF.nodup _ (hT.node hl hi hq).1
  rw [hr] at hnd
  have m0:l.arc q i 0∈A++U :: B:=by rw [<-hr]; exact hF.mem _ (hT.node hl hi hq).1
  have m1:l.arc q i 1∈A++U :: B:=by rw [<-hr,<-(hT.arcs q hq).1]; exact hF.mem _ (hT.node hl hi hq).2.1
  have mm:∀ y,y∈rA->y∈A++U :: B:=fun y hy=>by rw [<-hA]; exact (mA y).1 hy
  have hd:∀ y∈A,y∉U :: B:=fun y hy hy'=>(List.nodup_append.1 hnd).2.2 y hy y hy' Z
  rw [hr,<-hra]
  refine ⟨fun y z hy hz h=>?_,fun y z hy hz h=>?_⟩
  ·rw [zeG hd m0 m1 (mm y (hra▸hy)),zeG hd m0 m1 (mm z (hra▸hz)),h]
  ·rw [zeG hd m0 m1 (mm y (hra▸hy)),zeG hd m0 m1 (mm z (hra▸hz)),h,Bool.not_xor]
 have rotB:∀ q,P q->F (l.arc q i 0)=F W->(∀ y z,y∈rB->z∈rB->inn (F (l.arc q i 0)).list (l.arc q i 0) (l.arc q i 1) y=inn (F (l.arc q i 0)).list (l.arc q i 0) (l.arc q i 1) z->inn rB (l.arc q i 0) (l.arc q i 1) y=inn rB (l.arc q i 0) (l.arc q i 1) z) /\
   (∀ y z,y∈rB->z∈rB->inn (F (l.arc q i 0)).list (l.arc q i 0) (l.arc q i 1) y=(!inn (F (l.arc q i 0)).list (l.arc q i 0) (l.arc q i 1) z)->inn rB (l.arc q i 0) (l.arc q i 1) y=!inn rB (l.arc q i 0) (l.arc q i 1) z):=fun q hq hFq=>by
  have hr:=hC
  rw [<-hFq] at hr
  have hnd:=hF.nodup _ (hT.node hl hi hq).1
  rw [hr] at hnd
  have m0:l.arc q i 0∈C++W :: D:=by rw [<-hr]; exact hF.mem _ (hT.node hl hi hq).1
  have m1:l.arc q i 1∈C++W :: D:=by rw [<-hr,<-(hT.arcs q hq).1]; exact hF.mem _ (hT.node hl hi hq).2.1
  have mm:∀ y,y∈rB->y∈C++W :: D:=fun y hy=>by rw [<-hC]; exact (mB y).1 hy
  have hd:∀ y∈C,y∉W :: D:=fun y hy hy'=>(List.nodup_append.1 hnd).2.2 y hy y hy' Z
  rw [hr,<-hrb]
  refine ⟨fun y z hy hz h=>?_,fun y z hy hz h=>?_⟩
  ·rw [zeG hd m0 m1 (mm y (hrb▸hy)),zeG hd m0 m1 (mm z (hrb▸hz)),h]
  ·rw [zeG hd m0 m1 (mm y (hrb▸hy)),zeG hd m0 m1 (mm z (hrb▸hz)),h,Bool.not_xor]
 have ht0:F' (l.arc s i 0)=t:=tN _ ((mN _).2 (.inl (.inl (.inr Z))))
 have ht1:F' (l.arc s i 1)=t:=tN _ ((mN _).2 (.inr Z))
 have htU:F' U=t:=tN _ ((mN _).2 (.inl (.inl (.inl hUA))))
 have htW:F' W=t:=tN _ ((mN _).2 (.inl (.inr hWB)))
 have hd0:inn rA=inn (U :: (B++A)):=by rw [<-hra]; rfl
 have hd1:inn rB=inn (W :: (D++C)):=by rw [<-hrb]; rfl
 have nWA:W∉rA:=fun h=>dBA W h hWB
 have nUB:U∉rB:=fun h=>dBA U hUA h
 have n0A:l.arc s i 0∉rA:=fun h=>by
  have:=(hF.mem_iff hl n0 nu).1 ((mA _).1 h)
  have hU0:=e0 U nu this.symm
  rw [<-hU] at hU0; exact zaN hl hu h0 hU0
 have n1A:l.arc s i 1∉rA:=fun h=>by
  have:=(hF.mem_iff hl n1 nu).1 ((mA _).1 h)
  have hU0:=e1 U nu this.symm
  rw [<-hU] at hU0; exact zaN hl hu h1 hU0
 have n0B:l.arc s i 0∉rB:=fun h=>dAB _ h (by simp)
 have n1B:l.arc s i 1∉rB:=fun h=>by
  have:=(hF.mem_iff hl n1 nv).1 ((mB _).1 h)
  have hU0:=e1 W nv this.symm
  rw [<-hW] at hU0; exact zaN hl hv h1 hU0
 refine ⟨?_,?_,?_,?_,?_,?_,?_⟩
 ·intro x hx hxl y hy
  by_cases hm:x∈t.list
  ·rw [tN x hm,mN] at hy
   rcases hy with ((hy | rfl) | hy) | rfl
   ·exact hT.lev U nu lu y ((mA y).1 hy)
   ·exact la 0 h0
   ·exact hT.lev W nv lv y ((mB y).1 hy)
   ·exact la 1 h1
  ·rw [hn x hm] at hy; exact hT.lev x hx hxl y hy
 ·rintro q (hq | rfl)
  ·exact hT.rng q hq
  ·exact ⟨hsr,hu,hv⟩
 ·intro q d hd hq
  have hq1:¬P q:=fun h=>hq (.inl h)
  have hq2:q≠s:=fun h=>hq (.inr h)
  have hs':=hT.single q d hd hq1
  have nq:=(zay hl hd).1
  have eq':∀ y,l.nd y->F (l.arc q i d)=F y->y=l.arc q i d:=fun y hy h=>by have:=hF.mem y hy; rw [<-h,hs'] at this; simpa using this
  rw [hn _ ?_]; exact hs'
  rw [kN _ nq]
  rintro (((h | h) | h) | h)
  ·have:=eq' _ nu h; rw [<-hU] at this; exact zaN hl hu hd this
  ·exact hq2 ((zbH hl h0 hd).1 (eq' _ n0 h)).1.symm
  ·have:=eq' _ nv h; rw [<-hW] at this; exact zaN hl hv hd this
  ·exact hq2 ((zbH hl h1 hd).1 (eq' _ n1 h)).1.symm
 ·rintro q (hq | rfl)
  ·obtain ⟨a1,a2,a3⟩:=hT.arcs q hq
   obtain ⟨m0,m1,m2,m3⟩:=hT.node hl hi hq
   exact ⟨sameF _ _ m1 m0 a1,sameF _ _ m2 m0 a2,sameF _ _ m3 m0 a3⟩
  ·rw [ht0,ht1,hU,hW,htU,htW]; exact ⟨Z,Z,Z⟩
 ·intro q q' hq hq' hqq hFq y hy
  rcases hq with hq | rfl
  ·obtain ⟨m0,m1,m2,m3⟩:=hT.node hl hi hq
   have a1:=(hT.arcs q hq).1
   rcases cases3 q hq with hm | hm | hm
   ·
    rw [hn _ hm]
    rcases hq' with hq' | rfl
    ·exact hT.sep q q' hq hq' hqq (oldF _ _ m0 (hT.node hl hi hq').1 hm hFq) y hy
    ·exfalso; rw [ht0] at hFq; exact hm (by rw [hFq]; exact hF'.mem _ m0)
   ·have i0:=inA _ m0 hm
    have i1:=inA _ m1 (a1.trans hm)
    have htq:F' (l.arc q i 0)=t:=tN _ ((mN _).2 (.inl (.inl (.inl i0))))
    rw [htq,eA i0 i1,eA i0 i1]
    rcases hq' with hq' | rfl
    ·obtain ⟨hny,hFy,_⟩:=toks q' hq' y hy
     rw [htq] at hFq
     have hm':l.arc q' i 0∈t.list:=by rw [<-hFq]; exact hF'.mem _ (hT.node hl hi hq').1
     rcases cases3 q' hq' with h | h | h
     ·exact absurd hm' h
     ·have j0:=inA _ (hT.node hl hi hq').1 h
      have jy:=inA _ hny (hFy.trans h)
      rw [Zp j0,Zp jy]
      exact (rotA q hq hm).1 _ _ jy j0 (hT.sep q q' hq hq' hqq (h.trans hm.symm) y hy)
     ·have j0:=inB _ (hT.node hl hi hq').1 h
      have jy:=inB _ hny (hFy.trans h)
      rw [Zn (fun h'=>dBA _ h' j0),Zn (fun h'=>dBA _ h' jy)]
    ·rw [hU,hW] at hy
     rw [Zn n0A]
     rcases hy with rfl | rfl | rfl
     ·rw [Zn n1A]
     ·rw [Zp hUA,hd0,zkA]
     ·rw [Zn nWA]
   ·have i0:=inB _ m0 hm
    have i1:=inB _ m1 (a1.trans hm)
    have htq:F' (l.arc q i 0)=t:=tN _ ((mN _).2 (.inl (.inr i0)))
    rw [htq,eB i0 i1,eB i0 i1]
    rcases hq' with hq' | rfl
    ·obtain ⟨hny,hFy,_⟩:=toks q' hq' y hy
     rw [htq] at hFq
     have hm':l.arc q' i 0∈t.list:=by rw [<-hFq]; exact hF'.mem _ (hT.node hl hi hq').1
     rcases cases3 q' hq' with h | h | h
     ·exact absurd hm' h
     ·have j0:=inA _ (hT.node hl hi hq').1 h
      have jy:=inA _ hny (hFy.trans h)
      rw [Zn (dBA _ j0),Zn (dBA _ jy)]
     ·have j0:=inB _ (hT.node hl hi hq').1 h
      have jy:=inB _ hny (hFy.trans h)
      rw [Zp j0,Zp jy]
      exact (rotB q hq hm).1 _ _ jy j0 (hT.sep q q' hq hq' hqq (h.trans hm.symm) y hy)
    ·rw [hU,hW] at hy
     rw [Zn n0B]
     rcases hy with rfl | rfl | rfl
     ·rw [Zn n1B]
     ·rw [Zn nUB]
     ·rw [Zp hWB,hd1,zkA]
  ·
   have hq'':P q':=hq'.resolve_right fun h=>hqq h.symm
   obtain ⟨hny,hFy,hyn⟩:=toks q' hq'' y hy
   rw [ht0] at hFq ⊢
   have hm':l.arc q' i 0∈t.list:=by rw [<-hFq]; exact hF'.mem _ (hT.node hl hi hq'').1
   rw [innS y hyn,innS _ (qne q' hq'')]
   rcases cases3 q' hq'' with h | h | h
   ·exact absurd hm' h
   ·rw [decide_eq_false (dBA _ (inA _ (hT.node hl hi hq'').1 h)),decide_eq_false (dBA _ (inA _ hny (hFy.trans h)))]
   ·rw [decide_eq_true (inB _ (hT.node hl hi hq'').1 h),decide_eq_true (inB _ hny (hFy.trans h))]
 ·rintro q (hq | rfl)
  ·obtain ⟨m0,m1,m2,m3⟩:=hT.node hl hi hq
   obtain ⟨a1,a2,a3⟩:=hT.arcs q hq
   rcases cases3 q hq with hm | hm | hm
   ·rw [hn _ hm]; exact hT.cross q hq
   ·have i0:=inA _ m0 hm
    have i1:=inA _ m1 (a1.trans hm)
    have htq:F' (l.arc q i 0)=t:=tN _ ((mN _).2 (.inl (.inl (.inl i0))))
    have j2:=inA _ m2 (a2.trans hm)
    have j3:=inA _ m3 (a3.trans hm)
    rw [htq,eA i0 i1,eA i0 i1,Zp j2,Zp j3]
    exact (rotA q hq hm).2 _ _ j3 j2 (hT.cross q hq)
   ·have i0:=inB _ m0 hm
    have i1:=inB _ m1 (a1.trans hm)
    have htq:F' (l.arc q i 0)=t:=tN _ ((mN _).2 (.inl (.inr i0)))
    have j2:=inB _ m2 (a2.trans hm)
    have j3:=inB _ m3 (a3.trans hm)
    rw [htq,eB i0 i1,eB i0 i1,Zp j2,Zp j3]
    exact (rotB q hq hm).2 _ _ j3 j2 (hT.cross q hq)
  ·rw [ht0,hU,hW,innS U (by rw [<-hU]; exact vne _ hu),innS W (by rw [<-hW]; exact vne _ hv),decide_eq_true hWB,decide_eq_false nUB]; rfl
 ·intro x y hx hy hxy
  have nx:=(zaf hl hx).1
  have ny:=(zaf hl hy).1
  have up:∀ {a b},Conn P eu ev a b->Conn (fun q=>P q\/q=s) eu ev a b:=fun h=>h.mono fun q hq=>.inl hq
  have est:Conn (fun q=>P q\/q=s) eu ev (eu s) (ev s):=.step (.refl _) s (.inr Z) (.inl ⟨Z,Z⟩)
  by_cases hm:l.vertex i x∈t.list
  ·have hmy:l.vertex i y∈t.list:=by rw [<-tN _ hm,hxy]; exact hF'.mem _ ny
   have vv:∀ w,l.okV i w->l.vertex i w∈t.list->Conn P eu ev (eu s) w\/Conn P eu ev (ev s) w:=fun w hw hmw=>by
    rcases (mN _).1 hmw with ((h | h) | h) | h
    ·exact .inl (hT.conn _ _ hu hw (by rw [hU]; exact ((hF.mem_iff hl (zaf hl hw).1 nu).1 ((mA _).1 h)).symm))
    ·exact absurd h (vne w hw).1
    ·exact .inr (hT.conn _ _ hv hw (by rw [hW]; exact ((hF.mem_iff hl (zaf hl hw).1 nv).1 ((mB _).1 h)).symm))
    ·exact absurd h (vne w hw).2
   rcases vv x hx hm with h | h<;>rcases vv y hy hmy with h' | h'
   ·exact (up h).symm.trans (up h')
   ·exact ((up h).symm.trans est).trans (up h')
   ·exact ((up h).symm.trans est.symm).trans (up h')
   ·exact (up h).symm.trans (up h')
  ·exact up (hT.conn x y hx hy (oldF _ _ nx ny hm hxy.symm).symm)
end
section
variable {l:Lay} (hl:l.Ok) {p:Pen} (hp:PenOk p) {mk mk':Int->Int} {pr:Int->Int} {σ σ':M} {F F':Int->T} {i:Int} {P Q:Int->Prop} {eu ev:Int->Int}
include hl
theorem Tour.cut (hi:0<=i/\i<l.lev) (hF:Forest l pr mk σ F) (hF':Forest l pr mk' σ' F') (hT:Tour l F i P eu ev) {s:Int} (hs:P s) {e1 e2:Int} (he:(e1=l.arc s i 0/\e2=l.arc s i 1)\/(e1=l.arc s i 1/\e2=l.arc s i 0)) {A B C:List Int}
  (hL:(F (l.arc s i 0)).list=A++e1 :: (B++e2 :: C)) {ti to:T} (hti:ti.list=B) (hto:to.list=A++C) (tti:Tree l F' ti) (tto:Tree l F' to) (hl0:(F' (l.arc s i 0)).list=[l.arc s i 0]) (hl1:(F' (l.arc s i 1)).list=[l.arc s i 1])
  (hn:∀ y,y∉A++e1 :: (B++e2 :: C)->F' y=F y):Tour l F' i (fun q=>P q/\q≠s) eu ev/\F' (l.vertex i (eu s))≠F' (l.vertex i (ev s)):=by
 have h0:=(hT.lk hl hi hs).1
 have h1:=(hT.lk hl hi hs).2
 obtain ⟨n0,n1,nu,nv⟩:=hT.node hl hi hs
 obtain ⟨s1,s2,s3⟩:=hT.arcs s hs
 have hnd:=hF.nodup _ n0
 have lev0:(l.node (l.arc s i 0)).1.level=i:=by rw [(zay hl h0).2]
 have kL:∀ y,l.nd y->(y∈A++e1 :: (B++e2 :: C)↔F y=F (l.arc s i 0)):=fun y hy=>by rw [<-hL]; exact hF.mem_iff hl hy n0
 have sd:∀ y,y≠l.arc s i 0->y≠l.arc s i 1->inn (F (l.arc s i 0)).list (l.arc s i 0) (l.arc s i 1) y=decide (y∈B):=fun y h h'=>by
  rw [hL] at hnd ⊢
  rcases he with ⟨q1,q2⟩ | ⟨q1,q2⟩
  ·rw [<-q1,<-q2]; exact zn0 hnd ⟨by rw [q1]; exact h,by rw [q2]; exact h'⟩
  ·rw [zvJ,<-q1,<-q2]; exact zn0 hnd ⟨by rw [q1]; exact h',by rw [q2]; exact h⟩
 rw [hL] at hnd
 have hmem:∀ y,y∈A++e1 :: (B++e2 :: C)↔y∈B\/y∈A++C\/y=l.arc s i 0\/y=l.arc s i 1:=fun y=>by
  simp only [List.mem_append,List.mem_cons]
  rcases he with ⟨q1,q2⟩ | ⟨q1,q2⟩<;>rw [q1,q2]<;>constructor
  ·rintro (h | h | h | h | h)<;>simp [h]
  ·rintro (h | (h | h) | h | h)<;>simp [h]
  ·rintro (h | h | h | h | h)<;>simp [h]
  ·rintro (h | (h | h) | h | h)<;>simp [h]
 have spl:A++e1 :: (B++e2 :: C)=A++((e1 :: (B++[e2]))++C):=by simp
 have hnd2:=hnd
 rw [spl] at hnd2
 have dAK:=(List.nodup_append.1 hnd2).2.2
 have dKC:=(List.nodup_append.1 (List.nodup_append.1 hnd2).2.1).2.2
 have dB:∀ y∈B,y∉A++C:=fun y hy hy'=>by
  rcases List.mem_append.1 hy' with h | h
  ·exact dAK y h y (by simp [hy]) Z
  ·exact dKC y (by simp [hy]) y h Z
 have eAC:∀ y,y=e1\/y=e2->y∉A++C:=fun y hy hy'=>by
  rcases List.mem_append.1 hy' with h | h
  ·exact dAK y h y (by rcases hy with rfl | rfl<;>simp) rfl
  ·exact dKC y (by rcases hy with rfl | rfl<;>simp) y h rfl
 have hndK:=(List.nodup_append.1 (List.nodup_append.1 hnd2).2.1).1
 have eB:∀ y,y=e1\/y=e2->y∉B:=fun y hy hy'=>by
  rcases hy with rfl | rfl
  ·exact (List.nodup_cons.1 hndK).1 (by simp [hy'])
  ·exact (List.nodup_append.1 (List.nodup_cons.1 hndK).2).2.2 y hy' y (by simp) Z
 have a12:∀ y,y=l.arc s i 0\/y=l.arc s i 1->y=e1\/y=e2:=fun y hy=>by
  rcases he with ⟨q1,q2⟩ | ⟨q1,q2⟩<;>rw [q1,q2]<;>rcases hy with h | h<;>simp [h]
 have aN:∀ y,y=l.arc s i 0\/y=l.arc s i 1->y∉B/\y∉A++C:=fun y hy=>⟨eB y (a12 y hy),eAC y (a12 y hy)⟩
 have fB:∀ y,y∈B->F' y=ti:=fun y hy=>(tti y (hti▸hy)).2
 have fC:∀ y,y∈A++C->F' y=to:=fun y hy=>(tto y (hto▸hy)).2
 have vne:∀ w,l.okV i w->l.vertex i w≠l.arc s i 0/\l.vertex i w≠l.arc s i 1:=fun w hw=>⟨zaN hl hw h0,zaN hl hw h1⟩
 have qne:∀ q,P q->q≠s->∀ d,l.okA q i d->l.arc q i d≠l.arc s i 0/\l.arc q i d≠l.arc s i 1:=fun q hq hqs d hd=>⟨fun h=>hqs ((zbH hl hd h0).1 h).1,fun h=>hqs ((zbH hl hd h1).1 h).1⟩
 have toks:∀ q,P q->q≠s->∀ y,(y=l.arc q i 1\/y=l.vertex i (eu q)\/y=l.vertex i (ev q))->l.nd y/\F y=F (l.arc q i 0)/\(y≠l.arc s i 0/\y≠l.arc s i 1):=fun q hq hqs y hy=>by
  obtain ⟨a1,a2,a3⟩:=hT.arcs q hq
  obtain ⟨m0,m1,m2,m3⟩:=hT.node hl hi hq
  rcases hy with rfl | rfl | rfl
  ·exact ⟨m1,a1,qne q hq hqs 1 (hT.lk hl hi hq).2⟩
  ·exact ⟨m2,a2,vne _ (hT.rng q hq).2.1⟩
  ·exact ⟨m3,a3,vne _ (hT.rng q hq).2.2⟩
 have side:∀ q,P q->q≠s->F (l.arc q i 0)=F (l.arc s i 0)->∀ y,(y=l.arc q i 1\/y=l.vertex i (eu q)\/y=l.vertex i (ev q))->(y∈B↔l.arc q i 0∈B):=fun q hq hqs hFq y hy=>by
  have:=hT.sep s q hs hq (Ne.symm hqs) hFq y hy
  obtain ⟨_,_,t1,t2⟩:=toks q hq hqs y hy
  have z:=qne q hq hqs 0 (hT.lk hl hi hq).1
  rw [sd y t1 t2,sd _ z.1 z.2,decide_eq_decide] at this
  exact this
 have inAC:∀ y,l.nd y->F y=F (l.arc s i 0)->y≠l.arc s i 0->y≠l.arc s i 1->y∉B->y∈A++C:=fun y hy hFy t1 t2 hB=>by
  rcases (hmem y).1 ((kL y hy).2 hFy) with h | h | h | h
  ·exact absurd h hB
  ·exact h
  ·exact absurd h t1
  ·exact absurd h t2
 have other:∀ q,P q->q≠s->(l.arc q i 0∉A++e1 :: (B++e2 :: C))\/(l.arc q i 0∈B/\∀ y,(y=l.arc q i 1\/y=l.vertex i (eu q)\/y=l.vertex i (ev q))->y∈B)\/(l.arc q i 0∈A++C/\∀ y,(y=l.arc q i 1\/y=l.vertex i (eu q)\/y=l.vertex i (ev q))->y∈A++C):=fun q hq hqs=>by
  have m0:=(hT.node hl hi hq).1
  by_cases hm:l.arc q i 0∈A++e1 :: (B++e2 :: C)
  ·have hFq:=(kL _ m0).1 hm
   have z:=qne q hq hqs 0 (hT.lk hl hi hq).1
   by_cases hB:l.arc q i 0∈B
   ·exact .inr (.inl ⟨hB,fun y hy=>(side q hq hqs hFq y hy).2 hB⟩)
   ·refine .inr (.inr ⟨inAC _ m0 hFq z.1 z.2 hB,fun y hy=>?_⟩)
    obtain ⟨ny,hFy,t1,t2⟩:=toks q hq hqs y hy
    exact inAC y ny (hFy.trans hFq) t1 t2 fun h=>hB ((side q hq hqs hFq y hy).1 h)
  ·exact .inl hm
 have off:∀ y,l.nd y->F y≠F (l.arc s i 0)->F' y=F y:=fun y hy h=>hn y fun hm=>h ((kL y hy).1 hm)
 have offq:∀ x y,l.nd x->l.nd y->x∉A++e1 :: (B++e2 :: C)->F' y=F' x->F y=F x:=fun x y hx hy hm h=>by
  rw [hn x hm] at h
  by_cases hy':y∈A++e1 :: (B++e2 :: C)
  ·have hyx:y∈(F x).list:=by rw [<-h]; exact hF'.mem y hy
   have:=hF.cls x hx y hyx
   exact this
  ·rw [hn y hy'] at h; exact h
 have midB:∀ {a b y},a∈B->b∈B->y∈B->inn (F (l.arc s i 0)).list a b y=inn B a b y:=fun ha hb hy=>by
  rw [hL]
  have:A++e1 :: (B++e2 :: C)=(A++[e1])++(B++(e2 :: C)):=by simp
  rw [this]
  exact zyg ha hb hy fun z hz hz'=>by
   rcases List.mem_append.1 hz' with h | h
   ·exact dB z hz (List.mem_append.2 (.inl h))
   ·exact eB e1 (.inl Z) (by simp at h; exact h▸hz)
 have outAC:∀ {a b y},a∈A++C->b∈A++C->y∈A++C->inn (F (l.arc s i 0)).list a b y=inn (A++C) a b y:=fun ha hb hy=>by
  rw [hL,spl]
  have key:∀ z,z∈A++C->z∉e1 :: (B++[e2]):=fun z hz hz'=>by
   rcases List.mem_cons.1 hz' with h | h
   ·exact eAC z (.inl h) hz
   ·rcases List.mem_append.1 h with h | h
    ·exact dB z h hz
    ·exact eAC z (.inr (by simpa using h)) hz
  exact zyf (key _ ha) (key _ hb) (key _ hy)
 have uvB:(l.vertex i (ev s)∈B↔l.vertex i (eu s)∉B):=by
  have:=hT.cross s hs
  rw [sd _ (vne _ (hT.rng s hs).2.2).1 (vne _ (hT.rng s hs).2.2).2,sd _ (vne _ (hT.rng s hs).2.1).1 (vne _ (hT.rng s hs).2.1).2,<-decide_not,decide_eq_decide] at this
  exact this
 have vin:∀ w,l.okV i w->F (l.vertex i w)=F (l.arc s i 0)->l.vertex i w∉B->l.vertex i w∈A++C:=fun w hw hFw hB=>inAC _ (zaf hl hw).1 hFw (vne w hw).1 (vne w hw).2 hB
 have Pq:∀ {a b},Conn P eu ev a b->l.okV i a->F (l.vertex i a)≠F (l.arc s i 0)->Conn (fun q=>P q/\q≠s) eu ev a b/\F (l.vertex i b)=F (l.vertex i a):=by
  intro a b h ha hFa
  induction h with
  | refl=>exact ⟨.refl _,Z⟩
  | @step w x hw q hq hex ih =>
   obtain ⟨_,a2,a3⟩:=hT.arcs q hq
   have hwx:F (l.vertex i x)=F (l.vertex i w):=by rcases hex with ⟨e,e'⟩ | ⟨e,e'⟩<;>rw [<-e,<-e',a2,a3]
   have hqs:q≠s:=fun h=>by
    subst h
    apply hFa
    rw [<-ih.2]
    rcases hex with ⟨e,_⟩ | ⟨e,_⟩<;>rw [<-e]
    ·exact s2
    ·exact s3
   exact ⟨.step ih.1 q ⟨hq,hqs⟩ hex,hwx.trans ih.2⟩
 have Pr:∀ {a b},Conn P eu ev a b->l.okV i a->F (l.vertex i a)=F (l.arc s i 0) ->
   F (l.vertex i b)=F (l.arc s i 0)/\((l.vertex i b∈B↔l.vertex i a∈B)->Conn (fun q=>P q/\q≠s) eu ev a b)/\(¬(l.vertex i b∈B↔l.vertex i a∈B)->∀ e,(e=eu s\/e=ev s)->(l.vertex i e∈B↔l.vertex i a∈B)->Conn (fun q=>P q/\q≠s) eu ev a e):=by
  intro a b h ha hFa
  induction h with
  | refl=>exact ⟨hFa,fun _=>.refl _,fun h=>absurd Iff.rfl h⟩
  | @step w x hw q hq hex ih =>
   obtain ⟨ihF,ih1,ih2⟩:=ih
   obtain ⟨b1,b2,b3⟩:=hT.arcs q hq
   have hFx:F (l.vertex i x)=F (l.arc s i 0):=by
    rw [<-ihF]; rcases hex with ⟨e,e'⟩ | ⟨e,e'⟩<;>rw [<-e,<-e',b2,b3]
   refine ⟨hFx,?_⟩
   by_cases hqs:q=s
   ·subst hqs
    have hopp:l.vertex i x∈B↔l.vertex i w∉B:=by
     rcases hex with ⟨e,e'⟩ | ⟨e,e'⟩<;>rw [<-e,<-e']
     ·exact uvB
     ·constructor
      ·intro h h'; exact uvB.1 h' h
      ·intro h; exact Classical.byContradiction fun h'=>h (uvB.2 h')
    have hwe:w=eu q\/w=ev q:=by rcases hex with ⟨e,_⟩ | ⟨e,_⟩<;>simp [e]
    have hxe:x=eu q\/x=ev q:=by rcases hex with ⟨_,e⟩ | ⟨_,e⟩<;>simp [e]
    by_cases hwa:l.vertex i w∈B↔l.vertex i a∈B
    ·refine ⟨fun h=>?_,fun _ e he2 heB=>?_⟩
     ·exfalso
      by_cases hb:l.vertex i w∈B
      ·exact (hopp.1 (h.2 (hwa.1 hb))) hb
      ·exact hb (hwa.2 (h.1 (hopp.2 hb)))
     ·have hew:e=w:=by
       have hne:¬(l.vertex i (eu q)∈B↔l.vertex i (ev q)∈B):=fun h=>by
        by_cases hb:l.vertex i (eu q)∈B
        ·exact uvB.1 (h.1 hb) hb
        ·exact hb (h.2 (uvB.2 hb))
       have hew2:l.vertex i e∈B↔l.vertex i w∈B:=heB.trans hwa.symm
       rcases he2 with rfl | rfl<;>rcases hwe with rfl | rfl
       ·rfl
       ·exact absurd hew2 hne
       ·exact absurd hew2.symm hne
       ·rfl
      rw [hew]; exact ih1 hwa
    ·refine ⟨fun h=>ih2 hwa x hxe h,fun h=>?_⟩
     exfalso
     apply h
     constructor
     ·intro hx
      have:=hopp.1 hx
      exact Classical.byContradiction fun hna=>hwa ⟨fun h=>absurd h this,fun h=>absurd h hna⟩
     ·intro haB
      exact hopp.2 fun hwB=>hwa ⟨fun _=>haB,fun _=>hwB⟩
   ·have hFq:F (l.arc q i 0)=F (l.arc s i 0):=by rw [<-ihF]; rcases hex with ⟨e,_⟩ | ⟨e,_⟩<;>rw [<-e]; exact b2.symm; exact b3.symm
    have z1:=side q hq hqs hFq _ (.inr (.inl Z))
    have z2:=side q hq hqs hFq _ (.inr (.inr Z))
    have hxw:l.vertex i x∈B↔l.vertex i w∈B:=by
     rcases hex with ⟨e,e'⟩ | ⟨e,e'⟩<;>rw [<-e,<-e']
     ·exact z2.trans z1.symm
     ·exact z1.trans z2.symm
    exact ⟨fun h=>.step (ih1 (hxw.symm.trans h)) q ⟨hq,hqs⟩ hex,fun h=>ih2 fun h'=>h (hxw.trans h')⟩
 refine ⟨⟨?_,?_,?_,?_,?_,?_,?_⟩,?_⟩
 ·intro x hx hxl y hy
  by_cases hm:x∈A++e1 :: (B++e2 :: C)
  ·have hyL:y∈A++e1 :: (B++e2 :: C):=by
    rw [hmem]
    rcases (hmem x).1 hm with h | h | h | h
    ·rw [fB x h,hti] at hy; exact .inl hy
    ·rw [fC x h,hto] at hy; exact .inr (.inl hy)
    ·rw [h,hl0] at hy; exact .inr (.inr (.inl (by simpa using hy)))
    ·rw [h,hl1] at hy; exact .inr (.inr (.inr (by simpa using hy)))
   exact hT.lev _ n0 lev0 y (by rw [hL]; exact hyL)
  ·rw [hn x hm] at hy; exact hT.lev x hx hxl y hy
 ·rintro q ⟨hq,_⟩; exact hT.rng q hq
 ·intro q d hd hq
  by_cases hqs:q=s
  ·subst hqs
   have:d=0\/d=1:=by have:=hd.2.2; omega
   rcases this with rfl | rfl
   ·exact hl0
   ·exact hl1
  ·have hq':¬P q:=fun h=>hq ⟨h,hqs⟩
   have hs':=hT.single q d hd hq'
   have nq:=(zay hl hd).1
   rw [off _ nq fun h=>?_]; exact hs'
   have:=hF.mem _ n0
   rw [<-h,hs'] at this
   exact hqs ((zbH hl h0 hd).1 (by simpa using this)).1.symm
 ·rintro q ⟨hq,hqs⟩
  obtain ⟨m0,m1,m2,m3⟩:=hT.node hl hi hq
  obtain ⟨a1,a2,a3⟩:=hT.arcs q hq
  rcases other q hq hqs with hm | ⟨hm,hy⟩ | ⟨hm,hy⟩
  ·have hne:F (l.arc q i 0)≠F (l.arc s i 0):=fun h=>hm ((kL _ m0).2 h)
   rw [off _ m0 hne,off _ m1 (by rw [a1]; exact hne),off _ m2 (by rw [a2]; exact hne),off _ m3 (by rw [a3]; exact hne)]
   exact ⟨a1,a2,a3⟩
  ·rw [fB _ hm,fB _ (hy _ (.inl Z)),fB _ (hy _ (.inr (.inl Z))),fB _ (hy _ (.inr (.inr Z)))]; exact ⟨Z,Z,Z⟩
  ·rw [fC _ hm,fC _ (hy _ (.inl Z)),fC _ (hy _ (.inr (.inl Z))),fC _ (hy _ (.inr (.inr Z)))]; exact ⟨Z,Z,Z⟩
 ·rintro q q' ⟨hq,hqs⟩ ⟨hq',hqs'⟩ hqq hFq y hy
  obtain ⟨m0,m1,m2,m3⟩:=hT.node hl hi hq
  have m0':=(hT.node hl hi hq').1
  rcases other q hq hqs with hm | ⟨hm,hyq⟩ | ⟨hm,hyq⟩
  ·rw [hn _ hm]; exact hT.sep q q' hq hq' hqq (offq _ _ m0 m0' hm hFq) y hy
  ·rw [fB _ hm] at hFq ⊢
   have hm':l.arc q' i 0∈B:=by rw [<-hti,<-hFq]; exact hF'.mem _ m0'
   have hFqs:F (l.arc q i 0)=F (l.arc s i 0):=(kL _ m0).1 ((hmem _).2 (.inl hm))
   have hFqs':F (l.arc q' i 0)=F (l.arc s i 0):=(kL _ m0').1 ((hmem _).2 (.inl hm'))
   have hyB:=(side q' hq' hqs' hFqs' y hy).2 hm'
   have h1B:=hyq _ (.inl Z)
   rw [hti,<-midB hm h1B hyB,<-midB hm h1B hm']
   have:=hT.sep q q' hq hq' hqq (hFqs'.trans hFqs.symm) y hy
   rw [hFqs] at this; exact this
  ·rw [fC _ hm] at hFq ⊢
   have hm':l.arc q' i 0∈A++C:=by rw [<-hto,<-hFq]; exact hF'.mem _ m0'
   have hFqs:F (l.arc q i 0)=F (l.arc s i 0):=(kL _ m0).1 ((hmem _).2 (.inr (.inl hm)))
   have hFqs':F (l.arc q' i 0)=F (l.arc s i 0):=(kL _ m0').1 ((hmem _).2 (.inr (.inl hm')))
   have hyC:y∈A++C:=by
    rcases other q' hq' hqs' with h | ⟨h,_⟩ | ⟨_,h⟩
    ·exact absurd ((hmem _).2 (.inr (.inl hm'))) h
    ·exact absurd hm' (dB _ h)
    ·exact h y hy
   have h1C:=hyq _ (.inl Z)
   rw [hto,<-outAC hm h1C hyC,<-outAC hm h1C hm']
   have:=hT.sep q q' hq hq' hqq (hFqs'.trans hFqs.symm) y hy
   rw [hFqs] at this; exact this
 ·rintro q ⟨hq,hqs⟩
  obtain ⟨m0,m1,m2,m3⟩:=hT.node hl hi hq
  rcases other q hq hqs with hm | ⟨hm,hyq⟩ | ⟨hm,hyq⟩
  ·rw [hn _ hm]; exact hT.cross q hq
  ·have hFqs:F (l.arc q i 0)=F (l.arc s i 0):=(kL _ m0).1 ((hmem _).2 (.inl hm))
   rw [fB _ hm,hti,<-midB hm (hyq _ (.inl Z)) (hyq _ (.inr (.inr Z))),<-midB hm (hyq _ (.inl Z)) (hyq _ (.inr (.inl Z)))]
   have:=hT.cross q hq
   rw [hFqs] at this; exact this
  ·have hFqs:F (l.arc q i 0)=F (l.arc s i 0):=(kL _ m0).1 ((hmem _).2 (.inr (.inl hm)))
   rw [fC _ hm,hto,<-outAC hm (hyq _ (.inl Z)) (hyq _ (.inr (.inr Z))),<-outAC hm (hyq _ (.inl Z)) (hyq _ (.inr (.inl Z)))]
   have:=hT.cross q hq
   rw [hFqs] at this; exact this
 ·intro x y hx hy hxy
  have nx:=(zaf hl hx).1
  have ny:=(zaf hl hy).1
  by_cases hm:l.vertex i x∈A++e1 :: (B++e2 :: C)
  ·have hFx:=(kL _ nx).1 hm
   have hyL:F (l.vertex i y)=F (l.arc s i 0):=by
    refine Classical.byContradiction fun hne=>?_
    have hoff:=off _ ny hne
    have hxy':l.vertex i x∈(F (l.vertex i y)).list:=by rw [<-hoff,<-hxy]; exact hF'.mem _ nx
    exact hne (by rw [<-hFx]; exact (hF.cls _ ny _ hxy').symm)
   have hc:=hT.conn x y hx hy (hFx.trans hyL.symm)
   refine (Pr hc hx hFx).2.1 ?_
   by_cases hb:l.vertex i x∈B
   ·have:l.vertex i y∈B:=by rw [<-hti,<-fB _ hb,hxy]; exact hF'.mem _ ny
    exact ⟨fun _=>hb,fun _=>this⟩
   ·have hxC:=vin x hx hFx hb
    have:l.vertex i y∈A++C:=by rw [<-hto,<-fC _ hxC,hxy]; exact hF'.mem _ ny
    exact ⟨fun h=>absurd this (dB _ h),fun h=>absurd h hb⟩
  ·have hne:F (l.vertex i x)≠F (l.arc s i 0):=fun h=>hm ((kL _ nx).2 h)
   have hFy:=offq _ _ nx ny hm hxy.symm
   exact (Pq (hT.conn x y hx hy hFy.symm) hx hne).1
 ·intro h
  by_cases hb:l.vertex i (eu s)∈B
  ·have hvC:=vin _ (hT.rng s hs).2.2 s3 fun h'=>uvB.1 h' hb
   have:l.vertex i (ev s)∈B:=by rw [<-hti,<-fB _ hb,h]; exact hF'.mem _ nv
   exact dB _ this hvC
  ·have huC:=vin _ (hT.rng s hs).2.1 s2 hb
   have:l.vertex i (ev s)∈A++C:=by rw [<-hto,<-fC _ huC,h]; exact hF'.mem _ nv
   exact dB _ (uvB.2 hb) this
end
theorem zxY {a b:Nat} (ha:a<9223372036854775808) (hb:b<9223372036854775808):orS a b=((a ||| b:Nat):Int):=by
 show IntKind.i64.wrap ((BitVec.ofInt 64 (a:Int) ||| BitVec.ofInt 64 (b:Int)).toNat:Int)=_
 rw [BitVec.toNat_or,bvn (by omega),bvn (by omega)]
 have h1:a ||| b<2 ^ 63:=Nat.or_lt_two_pow (by omega) (by omega)
 exact zaU ⟨by omega,by omega⟩
theorem zwb {a b:Nat} (ha:a<9223372036854775808) (hb:b<9223372036854775808):andS a b=((a &&& b:Nat):Int):=by
 show IntKind.i64.wrap ((BitVec.ofInt 64 (a:Int) &&& BitVec.ofInt 64 (b:Int)).toNat:Int)=_
 rw [BitVec.toNat_and,bvn (by omega),bvn (by omega)]
 have h1:a &&& b<2 ^ 63:=Nat.and_lt_two_pow _ (by omega)
 exact zaU ⟨by omega,by omega⟩
theorem zAS {a b:Int} (ha:0<=a/\a<256) (hb:0<=b/\b<256):orS (shlS a 8) b=a * 256+b:=by
 have e:shlS a 8=a * 256:=by
  unfold shlS
  have:min (8:Int).toNat IntKind.i64.bits=8:=by decide
  rw [this]; exact zaU (by omega)
 rw [e]
 obtain ⟨x,rfl⟩:=Int.eq_ofNat_of_zero_le ha.1
 obtain ⟨y,rfl⟩:=Int.eq_ofNat_of_zero_le hb.1
 have e2:(x:Int) * 256=((2 ^ 8 * x:Nat):Int):=by omega
 rw [e2,zxY (by omega) (by omega),zpi (k:=8) (by omega)]
 omega
theorem zw9 {a:Int} (ha:0<=a/\a<65536):andS a 255=a % 256:=by
 obtain ⟨x,rfl⟩:=Int.eq_ofNat_of_zero_le ha.1
 have e:(255:Int)=((2 ^ 8 - 1:Nat):Int):=rfl
 rw [e,zwb (by omega) (by omega),Nat.and_two_pow_sub_one_eq_mod]
 omega
theorem shr8 {a:Int}:shrS a 8=a / 256:=by
 unfold shrS
 have:min (8:Int).toNat IntKind.i64.bits=8:=by decide
 rw [this]
 exact Int.fdiv_eq_ediv_of_nonneg _ (by decide)
theorem zpN {s:Int} (hs:0<=s/\s<48) (t:Bool):zvR s t=(s+1) * 2+bit t:=by
 unfold zvR
 rw [zaU (by omega),zdK (by omega)]
 have e:=zd0 (a:=s+1) 1 (by decide) (by omega) (by omega)
 rw [show shlU (s+1) 1=(s+1) * 2 ^ 1 from e]
 have hb:0<=bit t/\bit t<2 ^ 1:=by cases t<;>decide
 rw [(zgI (a:=s+1) (b:=bit t) 1 (by decide) (by omega) (by omega) hb).1]; rfl
structure G where
 has:Int->Bool
 u:Int->Int
 v:Int->Int
 lv:Int->Int
 tr:Int->Bool
structure EdgeOk (l:Lay) (σ:M) (g:G):Prop where
 rng:∀ s,g.has s=true->(0<=s/\s<l.S)/\(0<=g.u s/\g.u s<g.v s/\g.v s<l.V)/\0<=g.lv s/\g.lv s<l.lev
 uniq:∀ s t,g.has s=true->g.has t=true->g.u s=g.u t->g.v s=g.v t->s=t
 ends:∀ s,g.has s=true->get σ (l.ends s)=g.u s * 256+g.v s
 level:∀ s,g.has s=true->get σ (l.level s)=g.lv s
 cell:∀ s,g.has s=true->get σ (l.edge (g.u s) (g.v s))=(s+1) * 2+bit (g.tr s)
 none:∀ a b:Int,0<=a->a<b->b<l.V->(∀ s,g.has s=true->¬(g.u s=a/\g.v s=b))->get σ (l.edge a b)=0
section
variable {l:Lay} (hl:l.Ok) {σ σ':M} {g:G}
def isE (l:Lay) (j:Int):Prop:=(∃ s:Int,(0<=s/\s<l.S)/\(j=l.ends s\/j=l.level s))\/∃ a b:Int,0<=a/\a<b/\b<l.V/\j=l.edge a b
include hl
theorem EdgeOk.congr (h:EdgeOk l σ g) (he:∀ j,isE l j->get σ' j=get σ j):EdgeOk l σ' g:=by
 refine ⟨h.rng,h.uniq,fun s hs=>?_,fun s hs=>?_,fun s hs=>?_,fun a b h1 h2 h3 h4=>?_⟩
 ·rw [he _ (.inl ⟨s,(h.rng s hs).1,.inl Z⟩)]; exact h.ends s hs
 ·rw [he _ (.inl ⟨s,(h.rng s hs).1,.inr Z⟩)]; exact h.level s hs
 ·obtain ⟨_,⟨q1,q2,q3⟩,_⟩:=h.rng s hs
  rw [he _ (.inr ⟨_,_,q1,q2,q3,Z⟩)]; exact h.cell s hs
 ·rw [he _ (.inr ⟨_,_,h1,h2,h3,Z⟩)]; exact h.none a b h1 h2 h3 h4
theorem zir {s:Int} (hs:0<=s/\s<l.S):0<=l.ends s/\l.ends s<l.heads/\0<=l.level s/\l.level s<l.heads:=by
 rw [zdQ hl hs,zc7 hl hs]
 have:=(zct hl).h; have:=(zct hl).t
 omega
theorem zb7:0<=l.heads/\l.heads<=l.edges/\l.edges<=l.base/\l.base<=l.cells:=by
 have b:=zct hl
 obtain ⟨h1,h2,h3,h4,h5,h6,h7,h8,h9,h10,h11,h12,h13,h14⟩:=b
 have:=zaB hl
 omega
theorem zn9 (h:EdgeOk l σ g) {s:Int} (hs:g.has s=true):find l σ (g.u s) (g.v s)=⟨s,g.tr s,true⟩:=by
 unfold find
 dsimp only
 rw [h.cell s hs]
 have hr:=(h.rng s hs).1
 have b:=(zct hl).s
 have hb:bit (g.tr s)=0\/bit (g.tr s)=1:=by unfold bit; split<;>simp
 rw [Zn (by omega)]
 have e1:=ze9 (a:=(s+1) * 2+bit (g.tr s)) 1 (by decide)
 have e2:=zeD (a:=(s+1) * 2+bit (g.tr s)) 1 (by decide) (by omega)
 rw [show shrU ((s+1) * 2+bit (g.tr s)) 1=((s+1) * 2+bit (g.tr s)) / 2 ^ 1 from e1,show andU ((s+1) * 2+bit (g.tr s)) 1=((s+1) * 2+bit (g.tr s)) % 2 ^ 1 from e2]
 have e3:((s+1) * 2+bit (g.tr s)) / 2 ^ 1=s+1:=by omega
 rw [e3,zaU (x:=s+1) (by omega),zaU (by omega)]
 have e4:((s+1) * 2+bit (g.tr s)) % 2 ^ 1=bit (g.tr s):=by omega
 rw [e4]
 have:decide (bit (g.tr s)=1)=g.tr s:=by cases g.tr s<;>rfl
 rw [this]
 congr 1; omega
theorem zl2 (h:EdgeOk l σ g) {s:Int} (hs:g.has s=true):endsU l σ s=g.u s/\endsV l σ s=g.v s:=by
 have b:=(zct hl).v
 obtain ⟨_,⟨q1,q2,q3⟩,_⟩:=h.rng s hs
 unfold endsU endsV
 rw [h.ends s hs,zaU (by omega),shr8,zw9 (by omega)]
 omega
theorem zdR (h:EdgeOk l σ g) {s:Int} (hs:g.has s=true):eget l σ s=⟨g.u s,g.v s,g.lv s,g.tr s⟩/\zeH l σ s=σ:=by
 refine ⟨?_,Z⟩
 unfold eget
 dsimp only
 have e1:(zhr l σ s:M)=σ:=rfl
 have e2:∀ a b,(zm4 l σ a b:M)=σ:=fun _ _=>Z
 rw [e1,e2,(zl2 hl h hs).1,(zl2 hl h hs).2,zn9 hl h hs,h.level s hs]
 have:=(h.rng s hs).2.2
 have:=zbz hl
 rw [zaU (by omega)]
theorem stE {j v:Int} (hs:σ.size=l.cells) (hj:0<=j/\j<l.cells) (hv:0<=v/\v<18446744073709551616) (i:Int):get (st σ j v:M) i=if i=j then v else get σ i:=by
 rw [zcJ hv]
 by_cases h:i=j
 ·rw [Zp h,if_pos ⟨h,by omega,by omega⟩]
 ·rw [Zn h,Zn (by omega)]
def updI (f:Int->Int) (s x:Int):Int->Int:=fun y=>if y=s then x else f y
def updB (f:Int->Bool) (s:Int) (x:Bool):Int->Bool:=fun y=>if y=s then x else f y
def G.put (g:G) (s u v i:Int) (t:Bool):G:=⟨updB g.has s true,updI g.u s u,updI g.v s v,updI g.lv s i,updB g.tr s t⟩
def G.del (g:G) (s:Int):G:={ g with has:=updB g.has s false }
def G.turn (g:G) (s:Int) (t:Bool):G:={ g with tr:=updB g.tr s t }
def G.lift (g:G) (s i:Int):G:={ g with lv:=updI g.lv s i }
theorem ztT (hs:σ.size=l.cells) (h:EdgeOk l σ g) {s a b i:Int} {t:Bool} (hsr:0<=s/\s<l.S) (ha:0<=min a b) (hab:min a b<max a b) (hb:max a b<l.V) (hi:0<=i/\i<l.lev) (hno:g.has s=false) (hfree:∀ s,g.has s=true->¬(g.u s=min a b/\g.v s=max a b)) :
  EdgeOk l (eput l σ s a b i t) (g.put s (min a b) (max a b) i t)/\(eput l σ s a b i t).size=σ.size/\∀ j,¬isE l j->get (eput l σ s a b i t) j=get σ j:=by
 have bv:=(zct hl).v
 have bs:=(zct hl).s
 have lb:=zbz hl
 have ob:=zb7 hl
 have lo:=zir hl hsr
 unfold eput
 rw [zAS (by omega) (by omega),zdK (by omega),zdK (by omega),zpN (by omega)]
 have hbt:bit t=0\/bit t=1:=by unfold bit; split<;>simp
 have hed:l.edge a b=l.edge (min a b) (max a b):=by
  unfold Lay.edge; dsimp only
  have e1:min (min a b) (max a b)=min a b:=by omega
  have e2:max (min a b) (max a b)=max a b:=by omega
  rw [e1,e2]
 rw [hed]
 have eb:=zdf hl (a:=min a b) (b:=max a b) ⟨ha,hab⟩ hb
 generalize min a b=x at *
 generalize max a b=y at *
 have g3:∀ j,get (st (st (st σ (l.ends s) (x * 256+y):M) (l.level s) i:M) (l.edge x y) ((s+1) * 2+bit t):M) j=if j=l.edge x y then (s+1) * 2+bit t else if j=l.level s then i else if j=l.ends s then x * 256+y else get σ j:=fun j=>by
  rw [stE hl (by rw [zaz,zaz]; exact hs) (by omega) (by omega),stE hl (by rw [zaz]; exact hs) (by omega) (by omega),stE hl hs (by omega) (by omega)]
 generalize hσ3:(st (st (st σ (l.ends s) (x * 256+y):M) (l.level s) i:M) (l.edge x y) ((s+1) * 2+bit t):M)=σ3 at *
 have hsz:σ3.size=σ.size:=by rw [<-hσ3,zaz,zaz,zaz]
 have hps:∀ q,(g.put s x y i t).has q=true->q=s\/(q≠s/\g.has q=true):=fun q hq=>by
  unfold G.put updB at hq; dsimp only at hq
  by_cases h:q=s
  ·exact .inl h
  ·rw [Zn h] at hq; exact .inr ⟨h,hq⟩
 have pS:(g.put s x y i t).u s=x/\(g.put s x y i t).v s=y/\(g.put s x y i t).lv s=i/\(g.put s x y i t).tr s=t:=by unfold G.put updI updB; simp
 have pO:∀ q,q≠s->(g.put s x y i t).u q=g.u q/\(g.put s x y i t).v q=g.v q/\(g.put s x y i t).lv q=g.lv q/\(g.put s x y i t).tr q=g.tr q:=fun q hq=>by unfold G.put updI updB; simp [hq]
 have ne1:∀ q:Int,(0<=q/\q<l.S)->q≠s->l.ends q≠l.ends s/\l.ends q≠l.level s/\l.level q≠l.level s/\l.level q≠l.ends s:=fun q hq hne=>by
  rw [zdQ hl hq,zdQ hl hsr,zc7 hl hq,zc7 hl hsr]; omega
 have nes:l.ends s≠l.level s:=by rw [zdQ hl hsr,zc7 hl hsr]; omega
 refine ⟨⟨fun q hq=>?_,fun q r hq hr hu hv=>?_,fun q hq=>?_,fun q hq=>?_,fun q hq=>?_,fun c d hc hcd hd hno'=>?_⟩,hsz,fun j hj=>?_⟩
 ·rcases hps q hq with rfl | ⟨hne,hq'⟩
  ·obtain ⟨p1,p2,p3,p4⟩:=pS
   rw [p1,p2,p3]; exact ⟨hsr,⟨ha,hab,hb⟩,hi⟩
  ·obtain ⟨p1,p2,p3,p4⟩:=pO q hne
   rw [p1,p2,p3]; exact h.rng q hq'
 ·rcases hps q hq with rfl | ⟨hne,hq'⟩<;>rcases hps r hr with rfl | ⟨hne',hr'⟩
  ·rfl
  ·rw [pS.1,(pO r hne').1] at hu; rw [pS.2.1,(pO r hne').2.1] at hv
   exact absurd ⟨hu.symm,hv.symm⟩ (hfree r hr')
  ·rw [pS.1,(pO q hne).1] at hu; rw [pS.2.1,(pO q hne).2.1] at hv
   exact absurd ⟨hu,hv⟩ (hfree q hq')
  ·rw [(pO q hne).1,(pO r hne').1] at hu; rw [(pO q hne).2.1,(pO r hne').2.1] at hv
   exact h.uniq q r hq' hr' hu hv
 ·rcases hps q hq with rfl | ⟨hne,hq'⟩
  ·rw [pS.1,pS.2.1,g3,Zn (by omega),Zn nes,Zp Z]
  ·obtain ⟨r1,_,_⟩:=h.rng q hq'
   have lq:=zir hl r1
   rw [(pO q hne).1,(pO q hne).2.1,g3,Zn (by omega),Zn (ne1 q r1 hne).2.1,Zn (ne1 q r1 hne).1]; exact h.ends q hq'
 ·rcases hps q hq with rfl | ⟨hne,hq'⟩
  ·rw [pS.2.2.1,g3,Zn (by omega),Zp Z]
  ·obtain ⟨r1,_,_⟩:=h.rng q hq'
   have lq:=zir hl r1
   rw [(pO q hne).2.2.1,g3,Zn (by omega),Zn (ne1 q r1 hne).2.2.1,Zn (ne1 q r1 hne).2.2.2]; exact h.level q hq'
 ·rcases hps q hq with rfl | ⟨hne,hq'⟩
  ·rw [pS.1,pS.2.1,pS.2.2.2,g3,Zp Z]
  ·obtain ⟨r1,⟨r2,r3,r4⟩,_⟩:=h.rng q hq'
   have eq':=zdf hl ⟨r2,r3⟩ r4
   rw [(pO q hne).1,(pO q hne).2.1,(pO q hne).2.2.2,g3,Zn (fun he=>hfree q hq' ((zgk hl ⟨r2,r3⟩ r4 ⟨ha,hab⟩ hb).1 he)),Zn (by omega),Zn (by omega)]; exact h.cell q hq'
 ·have ecd:=zdf hl ⟨hc,hcd⟩ hd
  have hxy:¬(x=c/\y=d):=fun he=>hno' s (by unfold G.put updB; simp) (by rw [pS.1,pS.2.1]; exact he)
  rw [g3,Zn (fun he=>hxy (by have:=(zgk hl ⟨hc,hcd⟩ hd ⟨ha,hab⟩ hb).1 he; omega)),Zn (by omega),Zn (by omega)]
  refine h.none c d hc hcd hd fun q hq he=>?_
  by_cases hqs:q=s
  ·rw [hqs,hno] at hq; cases hq
  ·exact hno' q (by unfold G.put updB; dsimp only; rw [Zn hqs]; exact hq) (by rw [(pO q hqs).1,(pO q hqs).2.1]; exact he)
 ·rw [g3,Zn (fun he=>hj (.inr ⟨x,y,ha,hab,hb,he⟩)),Zn (fun he=>hj (.inl ⟨s,hsr,.inr he⟩)),Zn (fun he=>hj (.inl ⟨s,hsr,.inl he⟩))]
theorem zqK (hs:σ.size=l.cells) (h:EdgeOk l σ g) {s:Int} {t:Bool} (hh:g.has s=true):EdgeOk l (zgs l σ s t) (g.turn s t)/\(zgs l σ s t).size=σ.size/\∀ j,¬isE l j->get (zgs l σ s t) j=get σ j:=by
 obtain ⟨r1,⟨r2,r3,r4⟩,r5⟩:=h.rng s hh
 have bs:=(zct hl).s
 have ob:=zb7 hl
 have eb:=zdf hl ⟨r2,r3⟩ r4
 have hbt:bit t=0\/bit t=1:=by unfold bit; split<;>simp
 unfold zgs
 rw [(zl2 hl h hh).1,(zl2 hl h hh).2,zpN (by omega)]
 have g3:∀ j,get (st (zhr l σ s) (l.edge (g.u s) (g.v s)) ((s+1) * 2+bit t):M) j=if j=l.edge (g.u s) (g.v s) then (s+1) * 2+bit t else get σ j:=fun j=>stE hl hs (by omega) (by omega) j
 have hsz:(st (zhr l σ s) (l.edge (g.u s) (g.v s)) ((s+1) * 2+bit t):M).size=σ.size:=zaz
 generalize (st (zhr l σ s) (l.edge (g.u s) (g.v s)) ((s+1) * 2+bit t):M)=σ3 at *
 refine ⟨⟨h.rng,h.uniq,fun q hq=>?_,fun q hq=>?_,fun q hq=>?_,fun c d hc hcd hd hno'=>?_⟩,hsz,fun j hj=>?_⟩
 ·have lq:=zir hl (h.rng q hq).1
  rw [g3,Zn (by omega)]; exact h.ends q hq
 ·have lq:=zir hl (h.rng q hq).1
  rw [g3,Zn (by omega)]; exact h.level q hq
 ·show get σ3 (l.edge (g.u q) (g.v q))=(q+1) * 2+bit (updB g.tr s t q)
  have hq':g.has q=true:=hq
  obtain ⟨_,⟨q2,q3,q4⟩,_⟩:=h.rng q hq'
  rw [g3]
  by_cases hqs:q=s
  ·subst hqs; rw [Zp Z]; unfold updB; rw [Zp Z]
  ·rw [Zn (fun he=>hqs (by have:=(zgk hl ⟨q2,q3⟩ q4 ⟨r2,r3⟩ r4).1 he; exact h.uniq q s hq' hh this.1 this.2))]
   unfold updB; rw [Zn hqs]; exact h.cell q hq'
 ·rw [g3,Zn (fun he=>hno' s hh (by have:=(zgk hl ⟨hc,hcd⟩ hd ⟨r2,r3⟩ r4).1 he; exact ⟨this.1.symm,this.2.symm⟩))]
  exact h.none c d hc hcd hd hno'
 ·rw [g3,Zn (fun he=>hj (.inr ⟨_,_,r2,r3,r4,he⟩))]
theorem zqL (hs:σ.size=l.cells) (h:EdgeOk l σ g) {s i:Int} (hh:g.has s=true) (hi:0<=i/\i<l.lev):EdgeOk l (zgt l σ s i) (g.lift s i)/\(zgt l σ s i).size=σ.size/\∀ j,¬isE l j->get (zgt l σ s i) j=get σ j:=by
 obtain ⟨r1,⟨r2,r3,r4⟩,r5⟩:=h.rng s hh
 have lb:=zbz hl
 have ob:=zb7 hl
 have lo:=zir hl r1
 unfold zgt
 rw [zdK (by omega)]
 have g3:∀ j,get (st σ (l.level s) i:M) j=if j=l.level s then i else get σ j:=fun j=>stE hl hs (by omega) (by omega) j
 have hsz:(st σ (l.level s) i:M).size=σ.size:=zaz
 generalize (st σ (l.level s) i:M)=σ3 at *
 refine ⟨⟨fun q hq=>?_,h.uniq,fun q hq=>?_,fun q hq=>?_,fun q hq=>?_,fun c d hc hcd hd hno'=>?_⟩,hsz,fun j hj=>?_⟩
 ·show (0<=q/\q<l.S)/\(0<=g.u q/\g.u q<g.v q/\g.v q<l.V)/\0<=updI g.lv s i q/\updI g.lv s i q<l.lev
  refine ⟨(h.rng q hq).1,(h.rng q hq).2.1,?_⟩
  unfold updI; split
  ·exact hi
  ·exact (h.rng q hq).2.2
 ·rw [g3,Zn (by rw [zdQ hl (h.rng q hq).1,zc7 hl r1]; omega)]; exact h.ends q hq
 ·show get σ3 (l.level q)=updI g.lv s i q
  rw [g3]
  by_cases hqs:q=s
  ·subst hqs; rw [Zp Z]; unfold updI; rw [Zp Z]
  ·rw [Zn (by rw [zc7 hl (h.rng q hq).1,zc7 hl r1]; omega)]; unfold updI; rw [Zn hqs]; exact h.level q hq
 ·obtain ⟨_,⟨q2,q3,q4⟩,_⟩:=h.rng q hq
  have eb:l.edges<=l.edge ((g.lift s i).u q) ((g.lift s i).v q)/\_:=zdf hl ⟨q2,q3⟩ q4
  rw [g3,Zn (by omega)]; exact h.cell q hq
 ·have eb:=zdf hl ⟨hc,hcd⟩ hd
  rw [g3,Zn (by omega)]; exact h.none c d hc hcd hd hno'
 ·rw [g3,Zn (fun he=>hj (.inl ⟨s,r1,.inr he⟩))]
theorem znb (hs:σ.size=l.cells) (h:EdgeOk l σ g) {s:Int} (hh:g.has s=true):EdgeOk l (zbW l σ (g.u s) (g.v s)) (g.del s)/\(zbW l σ (g.u s) (g.v s)).size=σ.size/\∀ j,¬isE l j->get (zbW l σ (g.u s) (g.v s)) j=get σ j:=by
 obtain ⟨r1,⟨r2,r3,r4⟩,r5⟩:=h.rng s hh
 have ob:=zb7 hl
 have eb:=zdf hl ⟨r2,r3⟩ r4
 unfold zbW
 have g3:∀ j,get (st σ (l.edge (g.u s) (g.v s)) 0:M) j=if j=l.edge (g.u s) (g.v s) then 0 else get σ j:=fun j=>stE hl hs (by omega) (by omega) j
 have hsz:(st σ (l.edge (g.u s) (g.v s)) 0:M).size=σ.size:=zaz
 generalize (st σ (l.edge (g.u s) (g.v s)) 0:M)=σ3 at *
 have hd:∀ q,(g.del s).has q=true->q≠s/\g.has q=true:=fun q hq=>by
  unfold G.del updB at hq; dsimp only at hq
  split at hq
  ·cases hq
  ·exact ⟨by assumption,hq⟩
 refine ⟨⟨fun q hq=>h.rng q (hd q hq).2,fun q r hq hr=>h.uniq q r (hd q hq).2 (hd r hr).2,fun q hq=>?_,fun q hq=>?_,fun q hq=>?_,fun c d hc hcd hdd hno'=>?_⟩,hsz,fun j hj=>?_⟩
 ·have lq:=zir hl (h.rng q (hd q hq).2).1
  rw [g3,Zn (by omega)]; exact h.ends q (hd q hq).2
 ·have lq:=zir hl (h.rng q (hd q hq).2).1
  rw [g3,Zn (by omega)]; exact h.level q (hd q hq).2
 ·obtain ⟨hqs,hq'⟩:=hd q hq
  obtain ⟨_,⟨q2,q3,q4⟩,_⟩:=h.rng q hq'
  show get σ3 (l.edge (g.u q) (g.v q))=_
  rw [g3,Zn (fun he=>hqs (by have:=(zgk hl ⟨q2,q3⟩ q4 ⟨r2,r3⟩ r4).1 he; exact h.uniq q s hq' hh this.1 this.2))]
  exact h.cell q hq'
 ·rw [g3]
  by_cases he:l.edge c d=l.edge (g.u s) (g.v s)
  ·rw [Zp he]
  ·rw [Zn he]
   refine h.none c d hc hcd hdd fun q hq hqq=>?_
   by_cases hqs:q=s
   ·subst hqs; rw [hqq.1,hqq.2] at he; exact he Z
   ·exact hno' q (by unfold G.del updB; dsimp only; rw [Zn hqs]; exact hq) hqq
 ·rw [g3,Zn (fun he=>hj (.inr ⟨_,_,r2,r3,r4,he⟩))]
end
def fst:List Int->Int->Int
 | [],b=>b
 | y :: _,_=>y
def lst:Int->List Int->Int
 | a,[]=>a
 | _,y :: r=>lst y r
def seg (nx pv:Int->Int):Int->List Int->Int->Prop
 | _,[],_=>True
 | a,y :: r,b=>pv y=a/\nx y=fst r b/\seg nx pv y r b
section
variable {nx pv nx' pv':Int->Int} {a b a' b':Int} {r q:List Int}
theorem zfJ:∀ {r:List Int} {a b:Int},(∀ y∈r,nx' y=nx y/\pv' y=pv y)->seg nx pv a r b->seg nx' pv' a r b
 | [],_,_,_,_=>trivial
 | y :: r,a,b,h,⟨h1,h2,h3⟩=>⟨by rw [(h y (by simp)).2]; exact h1,by rw [(h y (by simp)).1]; exact h2,zfJ (fun z hz=>h z (by simp [hz])) h3⟩
theorem znE:∀ {r q:List Int} {a b:Int},seg nx pv a (r++q) b↔seg nx pv a r (fst q b)/\seg nx pv (lst a r) q b
 | [],q,a,b=>by simp [seg,lst]
 | [y],q,a,b=>by simp only [List.cons_append,List.nil_append,seg,lst,fst]; constructor<;>(rintro h; simp_all)
 | y :: z :: r,q,a,b=>by
  have ih:=znE (r:=z :: r) (q:=q) (a:=y) (b:=b)
  have e:y :: z :: r++q=y :: (z :: r++q):=rfl
  rw [e]
  show (pv y=a/\nx y=fst (z :: r++q) b/\seg nx pv y (z :: r++q) b)↔(pv y=a/\nx y=fst (z :: r) (fst q b)/\seg nx pv y (z :: r) (fst q b))/\seg nx pv (lst y (z :: r)) q b
  rw [ih]
  simp only [fst,List.cons_append,and_assoc]
theorem zmv (h:seg nx pv a r b) (hnd:r.Nodup) (hn:∀ y∈r,nx' y=nx y) (hp:∀ y∈r,pv' y=if y=fst r 0 then a' else pv y):seg nx' pv' a' r b:=by
 cases r with
 | nil=>trivial
 | cons y r =>
  obtain ⟨h1,h2,h3⟩:=h
  refine ⟨by rw [hp y (by simp)]; exact if_pos Z,by rw [hn y (by simp)]; exact h2,zfJ (fun z hz=>⟨hn z (by simp [hz]),?_⟩) h3⟩
  rw [hp z (by simp [hz]),Zn (fun he=>(List.nodup_cons.1 hnd).1 (by simp only [fst] at he; exact he▸hz))]
theorem zlw:∀ {r:List Int} {a:Int},r≠[]->lst a r∈r
 | [y],a,_=>by simp [lst]
 | y :: z :: r,a,_=>by
  have:=zlw (r:=z :: r) (a:=y) (by simp)
  show lst y (z :: r)∈_
  exact List.mem_cons_of_mem _ this
theorem zn7:r≠[]->fst r b∈r:=by cases r<;>simp [fst]
theorem zo4:∀ {r:List Int} {a:Int},seg nx pv a r b->r.Nodup->(∀ y∈r,pv' y=pv y)->(∀ y∈r,nx' y=if y=lst a r then b' else nx y)->seg nx' pv' a r b'
 | [],_,_,_,_,_=>trivial
 | [y],a,⟨h1,h2,_⟩,_,hp,hn=>⟨by rw [hp y (by simp)]; exact h1,by rw [hn y (by simp)]; simp [lst,fst],Zt⟩
 | y :: z :: r,a,⟨h1,h2,h3⟩,hnd,hp,hn=>by
  refine ⟨by rw [hp y (by simp)]; exact h1,?_,zo4 h3 (List.nodup_cons.1 hnd).2 (fun w hw=>hp w (by simp only [List.mem_cons] at hw ⊢; exact .inr hw)) fun w hw=>?_⟩
  ·rw [hn y (by simp),if_neg]
   ·exact h2
   ·intro he
    have:lst y (z :: r)∈z :: r:=zlw (by simp)
    have hl:lst a (y :: z :: r)=lst y (z :: r):=rfl
    rw [hl] at he
    exact (List.nodup_cons.1 hnd).1 (he▸this)
  ·exact hn w (by simp only [List.mem_cons] at hw ⊢; exact .inr hw)
end
section
variable {l:Lay} (hl:l.Ok) {σ σ':M} {L:Int->Int->List Int}
def Lay.sd (l:Lay) (y:Int):Prop:=1<=y/\y<=2 * l.S
include hl
theorem zeC {y:Int} (h:l.sd y):za7 l y=l.T+1+(y - 1) / 2 * 7+(3+(y - 1) % 2)/\zaR l y=l.T+1+(y - 1) / 2 * 7+(5+(y - 1) % 2):=by
 have b:=(zct hl).s
 unfold Lay.sd at h
 unfold za7 zaR
 rw [zaU (by omega),Int.tdiv_eq_ediv_of_nonneg (by omega),Int.tmod_eq_emod_of_nonneg (by omega)]
 exact ⟨zhK hl (by omega) (by omega),zhG hl (by omega) (by omega)⟩
theorem zbZ {y z:Int} (h:l.sd y) (h':l.sd z):(za7 l y=za7 l z↔y=z)/\(zaR l y=zaR l z↔y=z)/\za7 l y≠zaR l z/\zaR l y≠za7 l z:=by
 rw [(zeC hl h).1,(zeC hl h).2,(zeC hl h').1,(zeC hl h').2]
 omega
theorem zdw {y:Int} (h:l.sd y):(0<=za7 l y/\za7 l y<l.heads)/\0<=zaR l y/\zaR l y<l.heads:=by
 rw [(zeC hl h).1,(zeC hl h).2]
 have:=(zct hl).h; have:=(zct hl).t
 unfold Lay.sd at h
 omega
def isL (l:Lay) (j:Int):Prop:=(∃ y:Int,l.sd y/\(j=za7 l y\/j=zaR l y))\/∃ v i:Int,l.okV i v/\j=l.head v i
theorem znZ {j:Int} (h:isL l j):¬isE l j:=by
 have ob:=zb7 hl
 rintro (⟨s,hs,he⟩ | ⟨a,b,ha,hab,hb,he⟩)
 ·rcases h with ⟨y,hy,hj⟩ | ⟨v,i,hv,hj⟩
  ·rw [(zeC hl hy).1,(zeC hl hy).2] at hj
   rw [zdQ hl hs,zc7 hl hs] at he
   omega
  ·have:=zez hl hv.2 hv.1
   have:=zir hl hs
   omega
 ·have eb:=zdf hl ⟨ha,hab⟩ hb
  rcases h with ⟨y,hy,hj⟩ | ⟨v,i,hv,hj⟩
  ·have:=zdw hl hy; omega
  ·have:=zez hl hv.2 hv.1; omega
theorem zhO {j:Int} (h:isL l j):0<=j/\j<l.base:=by
 have ob:=zb7 hl
 rcases h with ⟨y,hy,hj⟩ | ⟨v,i,hv,hj⟩
 ·have:=zdw hl hy; omega
 ·have:=zez hl hv.2 hv.1; omega
theorem zhP {j:Int} (h:isE l j):0<=j/\j<l.base:=by
 have ob:=zb7 hl
 rcases h with ⟨s,hs,he⟩ | ⟨a,b,ha,hab,hb,he⟩
 ·have:=zir hl hs; omega
 ·have eb:=zdf hl ⟨ha,hab⟩ hb; omega
abbrev nxF (l:Lay) (σ:M) (y:Int):Int:=get σ (za7 l y)
abbrev pvF (l:Lay) (σ:M) (y:Int):Int:=get σ (zaR l y)
structure ListOk (l:Lay) (σ:M) (L:Int->Int->List Int):Prop where
 head:∀ i v,l.okV i v->get σ (l.head v i)=fst (L v i) 0
 seg:∀ i v,l.okV i v->Go.Tm.seg (nxF l σ) (pvF l σ) 0 (L v i) 0
 side:∀ i v,l.okV i v->∀ y∈L v i,l.sd y
 nodup:∀ i v,l.okV i v->(L v i).Nodup
 disj:∀ i v j w,l.okV i v->l.okV j w->∀ y,y∈L v i->y∈L w j->v=w/\i=j
theorem ListOk.congr (h:ListOk l σ L) (he:∀ j,isL l j->get σ' j=get σ j):ListOk l σ' L :=
 ⟨fun i v hv=>by rw [he _ (.inr ⟨v,i,hv,Z⟩)]; exact h.head i v hv,fun i v hv=>zfJ (fun y hy=>⟨he _ (.inl ⟨y,h.side i v hv y hy,.inl Z⟩),he _ (.inl ⟨y,h.side i v hv y hy,.inr Z⟩)⟩) (h.seg i v hv),h.side,h.nodup,h.disj⟩
def updL (L:Int->Int->List Int) (v i:Int) (r:List Int):Int->Int->List Int:=fun w j=>if w=v/\j=i then r else L w j
def zrR (l:Lay) (σ:M) (x v i:Int):M :=
 let h:=l.head v i
 let f:=aget σ h
 let σ1:=st (st (ld σ h) (za7 l x) (IntKind.u64.wrap f)) (zaR l x) 0
 let σ2:=if f≠0 then st σ1 (zaR l f) (IntKind.u64.wrap x) else σ1
 st σ2 h (IntKind.u64.wrap x)
def zrV (l:Lay) (σ:M) (x v i:Int):M :=
 let a:=aget σ (zaR l x)
 let b:=aget σ (za7 l x)
 let σ3:=if a=0 then st σ (l.head v i) (IntKind.u64.wrap b) else st σ (za7 l a) (IntKind.u64.wrap b)
 if b≠0 then st σ3 (zaR l b) (IntKind.u64.wrap a) else σ3
omit hl in
theorem zxM {k:Nat} {x v i:Int}:push l k σ x v i=ze7 l k (zrR l σ x v i) v i:=rfl
omit hl in
theorem zxN {k:Nat} {x v i:Int}:pull l k σ x v i=ze7 l k (zrV l σ x v i) v i:=rfl
theorem zrO (hs:σ.size=l.cells) (h:ListOk l σ L) {x v i:Int} (hv:l.okV i v) (hx:l.sd x) (hno:∀ j w,l.okV j w->x∉L w j) :
  ListOk l (zrR l σ x v i) (updL L v i (x :: L v i))/\(zrR l σ x v i).size=σ.size/\∀ j,¬isL l j->get (zrR l σ x v i) j=get σ j:=by
 have ob:=zb7 hl
 have cb:=zf0 hl
 have bs:=(zct hl).s
 have hh:=zez hl hv.2 hv.1
 have hd0:=h.head i v hv
 have xb:=zdw hl hx
 have xr:1<=x/\x<=96:=by unfold Lay.sd at hx; omega
 have fr:0<=fst (L v i) 0/\fst (L v i) 0<=96/\(fst (L v i) 0≠0->l.sd (fst (L v i) 0)/\fst (L v i) 0∈L v i):=by
  cases hL:L v i with
  | nil=>simp [fst]
  | cons y r =>
   have:=h.side i v hv y (by rw [hL]; simp)
   refine ⟨?_,?_,fun _=>⟨this,by simp [fst]⟩⟩<;>unfold Lay.sd at this<;>simp only [fst]<;>omega
 obtain ⟨f0,f1,f2⟩:=fr
 unfold zrR aget
 dsimp only
 rw [hd0,zaU (x:=fst (L v i) 0) (by omega),zdK (x:=fst (L v i) 0) (by omega),zdK (x:=x) (by omega),zye]
 generalize hf:fst (L v i) 0=f at *
 have g2:∀ j,get ((if f≠0 then st (st (st σ (za7 l x) f:M) (zaR l x) 0:M) (zaR l f) x else (st (st σ (za7 l x) f:M) (zaR l x) 0:M)):M) j=if f≠0/\j=zaR l f then x else if j=zaR l x then 0 else if j=za7 l x then f else get σ j:=fun j=>by
  by_cases h0:f≠0
  ·have fb:=zdw hl (f2 h0).1
   rw [Zp h0,stE hl (by rw [zaz,zaz]; exact hs) (by omega) (by omega),stE hl (by rw [zaz]; exact hs) (by omega) (by omega),stE hl hs (by omega) (by omega)]
   by_cases h1:j=zaR l f
   ·rw [Zp h1,if_pos ⟨h0,h1⟩]
   ·rw [Zn h1,Zn (show ¬(f≠0/\j=zaR l f) from fun h=>h1 h.2)]
  ·rw [Zn h0,Zn (fun h=>h0 h.1),stE hl (by rw [zaz]; exact hs) (by omega) (by omega),stE hl hs (by omega) (by omega)]
 have z2:((if f≠0 then st (st (st σ (za7 l x) f:M) (zaR l x) 0:M) (zaR l f) x else (st (st σ (za7 l x) f:M) (zaR l x) 0:M)):M).size=σ.size:=by
  split
  ·rw [zaz,zaz,zaz]
  ·rw [zaz,zaz]
 generalize ((if f≠0 then st (st (st σ (za7 l x) f:M) (zaR l x) 0:M) (zaR l f) x else (st (st σ (za7 l x) f:M) (zaR l x) 0:M)):M)=σ2 at *
 have g3:∀ j,get (st σ2 (l.head v i) x:M) j=if j=l.head v i then x else if f≠0/\j=zaR l f then x else if j=zaR l x then 0 else if j=za7 l x then f else get σ j:=fun j=>by
  rw [stE hl (by rw [z2]; exact hs) (by omega) (by omega),g2]
 have z3:(st σ2 (l.head v i) x:M).size=σ.size:=by rw [zaz,z2]
 generalize (st σ2 (l.head v i) x:M)=σ3 at *
 have uS:updL L v i (x :: L v i) v i=x :: L v i:=by unfold updL; simp
 have uO:∀ w j,¬(w=v/\j=i)->updL L v i (x :: L v i) w j=L w j:=fun w j hne=>by unfold updL; rw [Zn hne]
 have nh:∀ y,l.sd y->za7 l y≠l.head v i/\zaR l y≠l.head v i:=fun y hy=>by have:=zdw hl hy; omega
 have gn:∀ y,l.sd y->y≠x->get σ3 (za7 l y)=get σ (za7 l y):=fun y hy hyx=>by
  rw [g3,Zn (nh y hy).1,Zn (fun hc=>(zbZ hl hy (f2 hc.1).1).2.2.1 hc.2),Zn (zbZ hl hy hx).2.2.1,Zn (fun he=>hyx ((zbZ hl hy hx).1.1 he))]
 have gp:∀ y,l.sd y->y≠x->get σ3 (zaR l y)=if f≠0/\y=f then x else get σ (zaR l y):=fun y hy hyx=>by
  rw [g3,Zn (nh y hy).2]
  by_cases hc:f≠0/\y=f
  ·rw [if_pos ⟨hc.1,by rw [hc.2]⟩,Zp hc]
  ·rw [Zn (fun hc'=>hc ⟨hc'.1,(zbZ hl hy (f2 hc'.1).1).2.1.1 hc'.2⟩),Zn hc,Zn (fun he=>hyx ((zbZ hl hy hx).2.1.1 he)),Zn (zbZ hl hy hx).2.2.2]
 refine ⟨⟨fun j w hw=>?_,fun j w hw=>?_,fun j w hw y hy=>?_,fun j w hw=>?_,fun j w j' w' hw hw' y hy hy'=>?_⟩,z3,fun j hj=>?_⟩
 ·by_cases hvw:w=v/\j=i
  ·obtain ⟨rfl,rfl⟩:=hvw
   rw [uS,g3,Zp Z]; rfl
  ·have hb:=zez hl hw.2 hw.1
   rw [uO w j hvw,g3,Zn (fun he=>hvw ((zlK hl hw.2 hw.1 hv.2 hv.1).1 he)),Zn (fun hc=>by have:=zdw hl (f2 hc.1).1; omega),Zn (by omega),Zn (by omega)]
   exact h.head j w hw
 ·by_cases hvw:w=v/\j=i
  ·obtain ⟨rfl,rfl⟩:=hvw
   rw [uS]
   refine ⟨?_,?_,?_⟩
   ·show get σ3 (zaR l x)=0
    rw [g3,Zn (nh x hx).2,Zn (fun hc=>hno j w hw (by have:=(zbZ hl hx (f2 hc.1).1).2.1.1 hc.2; rw [this]; exact (f2 hc.1).2)),Zp Z]
   ·show get σ3 (za7 l x)=fst (L w j) 0
    rw [hf,g3,Zn (nh x hx).1,Zn (fun hc=>(zbZ hl hx (f2 hc.1).1).2.2.1 hc.2),Zn (zbZ hl hx hx).2.2.1,Zp Z]
   ·refine zmv (h.seg j w hw) (h.nodup j w hw) (fun y hy=>gn y (h.side j w hw y hy) fun he=>hno j w hw (he▸hy)) fun y hy=>?_
    show get σ3 (zaR l y)=_
    rw [gp y (h.side j w hw y hy) (fun he=>hno j w hw (he▸hy)),hf]
    by_cases hyf:y=f
    ·have:f≠0:=by have:=h.side j w hw y hy; unfold Lay.sd at this; omega
     rw [if_pos ⟨this,hyf⟩,Zp hyf]
    ·rw [Zn (fun hc=>hyf hc.2),Zn hyf]
  ·rw [uO w j hvw]
   refine zfJ (fun y hy=>?_) (h.seg j w hw)
   have hyx:y≠x:=fun he=>hno j w hw (he▸hy)
   refine ⟨gn y (h.side j w hw y hy) hyx,?_⟩
   show get σ3 (zaR l y)=get σ (zaR l y)
   rw [gp y (h.side j w hw y hy) hyx,Zn (fun hc=>hvw (h.disj j w i v hw hv y hy (by rw [hc.2]; exact (f2 hc.1).2)))]
 ·by_cases hvw:w=v/\j=i
  ·obtain ⟨rfl,rfl⟩:=hvw
   rw [uS] at hy
   rcases List.mem_cons.1 hy with rfl | hy
   ·exact hx
   ·exact h.side j w hw y hy
  ·rw [uO w j hvw] at hy; exact h.side j w hw y hy
 ·by_cases hvw:w=v/\j=i
  ·obtain ⟨rfl,rfl⟩:=hvw
   rw [uS]; exact List.nodup_cons.2 ⟨hno j w hw,h.nodup j w hw⟩
  ·rw [uO w j hvw]; exact h.nodup j w hw
 ·have key:∀ w j,l.okV j w->y∈updL L v i (x :: L v i) w j->(y=x/\w=v/\j=i)\/y∈L w j:=fun w j hw hy=>by
   by_cases hvw:w=v/\j=i
   ·obtain ⟨rfl,rfl⟩:=hvw
    rw [uS] at hy
    rcases List.mem_cons.1 hy with rfl | hy
    ·exact .inl ⟨Z,Z,Z⟩
    ·exact .inr hy
   ·rw [uO w j hvw] at hy; exact .inr hy
  rcases key w j hw hy with ⟨rfl,rfl,rfl⟩ | hy1<;>rcases key w' j' hw' hy' with ⟨hyx,rfl,rfl⟩ | hy1'
  ·exact ⟨Z,Z⟩
  ·exact absurd hy1' (hno j' w' hw')
  ·exact absurd (hyx▸hy1) (hno j w hw)
  ·exact h.disj j w j' w' hw hw' y hy1 hy1'
 ·rw [g3,Zn (fun he=>hj (.inr ⟨v,i,hv,he⟩)),Zn (fun hc=>hj (.inl ⟨f,(f2 hc.1).1,.inr hc.2⟩)),Zn (fun he=>hj (.inl ⟨x,hx,.inr he⟩)),Zn (fun he=>hj (.inl ⟨x,hx,.inl he⟩))]
theorem zrS (hs:σ.size=l.cells) (h:ListOk l σ L) {x v i:Int} (hv:l.okV i v) {A B:List Int} (hAB:L v i=A++x :: B) :
  ListOk l (zrV l σ x v i) (updL L v i (A++B))/\(zrV l σ x v i).size=σ.size/\∀ j,¬isL l j->get (zrV l σ x v i) j=get σ j:=by
 have ob:=zb7 hl
 have cb:=zf0 hl
 have bs:=(zct hl).s
 have hh:=zez hl hv.2 hv.1
 have hsg:=h.seg i v hv
 have hnd:=h.nodup i v hv
 have hsd:=h.side i v hv
 have hhd:=h.head i v hv
 rw [hAB] at hsg hnd hsd hhd
 obtain ⟨sA,s1,s2,sB⟩:=znE.1 hsg
 have hx:l.sd x:=hsd x (by simp)
 have ha:lst 0 A=0/\A=[]\/(lst 0 A∈A/\l.sd (lst 0 A)):=by
  by_cases hA:A=[]
  ·subst hA; exact .inl ⟨Z,Z⟩
  ·exact .inr ⟨zlw hA,hsd _ (by simp [zlw hA])⟩
 have hb:fst B 0=0/\B=[]\/(fst B 0∈B/\l.sd (fst B 0)):=by
  by_cases hB:B=[]
  ·subst hB; exact .inl ⟨Z,Z⟩
  ·exact .inr ⟨zn7 hB,hsd _ (by simp [zn7 hB])⟩
 obtain ⟨ndA,ndxB,dAB⟩:=List.nodup_append.1 hnd
 obtain ⟨nxB,ndB⟩:=List.nodup_cons.1 ndxB
 have nxA:x∉A:=fun hm=>dAB x hm x (by simp) Z
 have dAB':∀ y∈A,y∉B:=fun y hy hy'=>dAB y hy y (by simp [hy']) Z
 have hndAB:(A++B).Nodup:=List.nodup_append.2 ⟨ndA,ndB,fun y hy z hz he=>dAB' y hy (he▸hz)⟩
 have bnd:∀ y,l.sd y->1<=y/\y<=96:=fun y hy=>by unfold Lay.sd at hy; omega
 have ar:0<=lst 0 A/\lst 0 A<=96:=by rcases ha with ⟨q,_⟩ | ⟨_,q⟩; omega; have:=bnd _ q; omega
 have br:0<=fst B 0/\fst B 0<=96:=by rcases hb with ⟨q,_⟩ | ⟨_,q⟩; omega; have:=bnd _ q; omega
 unfold zrV aget
 dsimp only
 have e1:get σ (zaR l x)=lst 0 A:=s1
 have e2:get σ (za7 l x)=fst B 0:=s2
 rw [e1,e2,zaU (x:=lst 0 A) (by omega),zaU (x:=fst B 0) (by omega),zdK (x:=lst 0 A) (by omega),zdK (x:=fst B 0) (by omega)]
 have aS:lst 0 A≠0->l.sd (lst 0 A)/\lst 0 A∈A:=fun h0=>by rcases ha with ⟨q,_⟩ | ⟨q1,q2⟩; exact absurd q h0; exact ⟨q2,q1⟩
 have bS:fst B 0≠0->l.sd (fst B 0)/\fst B 0∈B:=fun h0=>by rcases hb with ⟨q,_⟩ | ⟨q1,q2⟩; exact absurd q h0; exact ⟨q2,q1⟩
 have aN:lst 0 A=0->A=[]:=fun h0=>by rcases ha with ⟨_,q⟩ | ⟨_,q⟩; exact q; have:=bnd _ q; omega
 have bN:fst B 0=0->B=[]:=fun h0=>by rcases hb with ⟨_,q⟩ | ⟨_,q⟩; exact q; have:=bnd _ q; omega
 have g2:∀ j,get ((if lst 0 A=0 then st σ (l.head v i) (fst B 0) else st σ (za7 l (lst 0 A)) (fst B 0)):M) j=if lst 0 A=0/\j=l.head v i then fst B 0 else if lst 0 A≠0/\j=za7 l (lst 0 A) then fst B 0 else get σ j:=fun j=>by
  by_cases h0:lst 0 A=0
  ·rw [Zp h0,stE hl hs (by omega) (by omega)]
   by_cases h1:j=l.head v i
   ·rw [Zp h1,if_pos ⟨h0,h1⟩]
   ·rw [Zn h1,Zn (fun hc=>h1 hc.2),Zn (fun hc=>hc.1 h0)]
  ·have fb:=zdw hl (aS h0).1
   rw [Zn h0,stE hl hs (by omega) (by omega)]
   by_cases h1:j=za7 l (lst 0 A)
   ·rw [Zp h1,Zn (fun hc=>h0 hc.1),if_pos ⟨h0,h1⟩]
   ·rw [Zn h1,Zn (fun hc=>h0 hc.1),Zn (fun hc=>h1 hc.2)]
 have z2:((if lst 0 A=0 then st σ (l.head v i) (fst B 0) else st σ (za7 l (lst 0 A)) (fst B 0)):M).size=σ.size:=by split<;>rw [zaz]
 generalize ((if lst 0 A=0 then st σ (l.head v i) (fst B 0) else st σ (za7 l (lst 0 A)) (fst B 0)):M)=σ2 at *
 have g3:∀ j,get ((if fst B 0≠0 then st σ2 (zaR l (fst B 0)) (lst 0 A) else σ2):M) j=if fst B 0≠0/\j=zaR l (fst B 0) then lst 0 A else if lst 0 A=0/\j=l.head v i then fst B 0 else if lst 0 A≠0/\j=za7 l (lst 0 A) then fst B 0 else get σ j:=fun j=>by
  by_cases h0:fst B 0≠0
  ·have fb:=zdw hl (bS h0).1
   rw [Zp h0,stE hl (by rw [z2]; exact hs) (by omega) (by omega),g2]
   by_cases h1:j=zaR l (fst B 0)
   ·rw [Zp h1,if_pos ⟨h0,h1⟩]
   ·rw [Zn h1,Zn (show ¬(fst B 0≠0/\j=zaR l (fst B 0)) from fun hc=>h1 hc.2)]
  ·rw [Zn h0,Zn (fun hc=>h0 hc.1),g2]
 have z3:((if fst B 0≠0 then st σ2 (zaR l (fst B 0)) (lst 0 A) else σ2):M).size=σ.size:=by split<;>(try rw [zaz])<;>exact z2
 generalize ((if fst B 0≠0 then st σ2 (zaR l (fst B 0)) (lst 0 A) else σ2):M)=σ3 at *
 have nh:∀ y,l.sd y->za7 l y≠l.head v i/\zaR l y≠l.head v i:=fun y hy=>by have:=zdw hl hy; omega
 have gn:∀ y,l.sd y->get σ3 (za7 l y)=if lst 0 A≠0/\y=lst 0 A then fst B 0 else get σ (za7 l y):=fun y hy=>by
  rw [g3,Zn (fun hc=>(zbZ hl hy (bS hc.1).1).2.2.1 hc.2),Zn (fun hc=>(nh y hy).1 hc.2)]
  by_cases hc:lst 0 A≠0/\y=lst 0 A
  ·rw [if_pos ⟨hc.1,by rw [<-hc.2]⟩,Zp hc]
  ·rw [Zn (fun hc'=>hc ⟨hc'.1,(zbZ hl hy (aS hc'.1).1).1.1 hc'.2⟩),Zn hc]
 have gp:∀ y,l.sd y->get σ3 (zaR l y)=if fst B 0≠0/\y=fst B 0 then lst 0 A else get σ (zaR l y):=fun y hy=>by
  rw [g3]
  by_cases hc:fst B 0≠0/\y=fst B 0
  ·rw [if_pos ⟨hc.1,by rw [<-hc.2]⟩,Zp hc]
  ·rw [Zn (fun hc'=>hc ⟨hc'.1,(zbZ hl hy (bS hc'.1).1).2.1.1 hc'.2⟩),Zn hc,Zn (fun hc'=>(nh y hy).2 hc'.2),Zn (fun hc'=>(zbZ hl hy (aS hc'.1).1).2.2.2 hc'.2)]
 have uS:updL L v i (A++B) v i=A++B:=by unfold updL; simp
 have uO:∀ w j,¬(w=v/\j=i)->updL L v i (A++B) w j=L w j:=fun w j hne=>by unfold updL; rw [Zn hne]
 have sub:∀ y,y∈A++B->y∈L v i:=fun y hy=>by rw [hAB]; rcases List.mem_append.1 hy with h | h<;>simp [h]
 refine ⟨⟨fun j w hw=>?_,fun j w hw=>?_,fun j w hw y hy=>?_,fun j w hw=>?_,fun j w j' w' hw hw' y hy hy'=>?_⟩,z3,fun j hj=>?_⟩
 ·by_cases hvw:w=v/\j=i
  ·obtain ⟨rfl,rfl⟩:=hvw
   rw [uS,g3,Zn (fun hc=>by have:=zdw hl (bS hc.1).1; omega)]
   by_cases h0:lst 0 A=0
   ·rw [if_pos ⟨h0,Z⟩,aN h0]; rfl
   ·rw [Zn (fun hc=>h0 hc.1),Zn (fun hc=>by have:=zdw hl (aS h0).1; omega)]
    have hA:A≠[]:=fun hc=>h0 (by rw [hc]; rfl)
    cases hAc:A with
    | nil=>exact absurd hAc hA
    | cons z r=>rw [hAc] at hhd; exact hhd
  ·have hb':=zez hl hw.2 hw.1
   rw [uO w j hvw,g3,Zn (fun hc=>by have:=zdw hl (bS hc.1).1; omega),Zn (fun hc=>hvw ((zlK hl hw.2 hw.1 hv.2 hv.1).1 hc.2)),Zn (fun hc=>by have:=zdw hl (aS hc.1).1; omega)]
   exact h.head j w hw
 ·by_cases hvw:w=v/\j=i
  ·obtain ⟨rfl,rfl⟩:=hvw
   rw [uS,znE]
   refine ⟨zo4 sA ndA (fun y hy=>?_) (fun y hy=>?_),zmv sB ndB (fun y hy=>?_) (fun y hy=>?_)⟩
   ·show get σ3 (zaR l y)=get σ (zaR l y)
    rw [gp y (hsd y (by simp [hy])),Zn (fun hc=>dAB' y hy (by rw [hc.2]; exact (bS hc.1).2))]
   ·show get σ3 (za7 l y)=if y=lst 0 A then fst B 0 else get σ (za7 l y)
    rw [gn y (hsd y (by simp [hy]))]
    have h0:lst 0 A≠0:=fun h0=>by rw [aN h0] at hy; cases hy
    by_cases hy':y=lst 0 A
    ·rw [if_pos ⟨h0,hy'⟩,Zp hy']
    ·rw [Zn (fun hc=>hy' hc.2),Zn hy']
   ·show get σ3 (za7 l y)=get σ (za7 l y)
    rw [gn y (hsd y (by simp [hy])),Zn (fun hc=>dAB' _ (aS hc.1).2 (by rw [<-hc.2]; exact hy))]
   ·show get σ3 (zaR l y)=if y=fst B 0 then lst 0 A else get σ (zaR l y)
    rw [gp y (hsd y (by simp [hy]))]
    have h0:fst B 0≠0:=fun h0=>by rw [bN h0] at hy; cases hy
    by_cases hy':y=fst B 0
    ·rw [if_pos ⟨h0,hy'⟩,Zp hy']
    ·rw [Zn (fun hc=>hy' hc.2),Zn hy']
  ·rw [uO w j hvw]
   refine zfJ (fun y hy=>?_) (h.seg j w hw)
   have hyd:=h.side j w hw y hy
   have hny:y∉L v i:=fun hy'=>hvw (h.disj j w i v hw hv y hy hy')
   refine ⟨?_,?_⟩
   ·show get σ3 (za7 l y)=get σ (za7 l y)
    rw [gn y hyd,Zn (fun hc=>hny (sub y (by rw [hc.2]; simp [(aS hc.1).2])))]
   ·show get σ3 (zaR l y)=get σ (zaR l y)
    rw [gp y hyd,Zn (fun hc=>hny (sub y (by rw [hc.2]; simp [(bS hc.1).2])))]
 ·by_cases hvw:w=v/\j=i
  ·obtain ⟨rfl,rfl⟩:=hvw
   rw [uS] at hy; exact h.side j w hw y (sub y hy)
  ·rw [uO w j hvw] at hy; exact h.side j w hw y hy
 ·by_cases hvw:w=v/\j=i
  ·obtain ⟨rfl,rfl⟩:=hvw
   rw [uS]; exact hndAB
  ·rw [uO w j hvw]; exact h.nodup j w hw
 ·have key:∀ w j,y∈updL L v i (A++B) w j->y∈L w j:=fun w j hy=>by
   by_cases hvw:w=v/\j=i
   ·obtain ⟨rfl,rfl⟩:=hvw
    rw [uS] at hy; exact sub y hy
   ·rw [uO w j hvw] at hy; exact hy
  exact h.disj j w j' w' hw hw' y (key w j hy) (key w' j' hy')
 ·rw [g3,Zn (fun hc=>hj (.inl ⟨_,(bS hc.1).1,.inr hc.2⟩)),Zn (fun hc=>hj (.inr ⟨v,i,hv,hc.2⟩)),Zn (fun hc=>hj (.inl ⟨_,(aS hc.1).1,.inl hc.2⟩))]
end
theorem zwI {x:Int} {A C:List Int} (h:(A++x :: C).Nodup):x∉A++C:=by
 obtain ⟨_,h2,h3⟩:=List.nodup_append.1 h
 rw [List.mem_append]
 rintro (hx | hx)
 ·exact h3 x hx x (by simp) Z
 ·exact (List.nodup_cons.1 h2).1 hx
section
variable {l:Lay} (hl:l.Ok) {p:Pen} (hp:PenOk p) {mk:Int->Int} {pr:Int->Int} {σ σ':M} {F:Int->T} {L:Int->Int->List Int} {g:G} {P:Int->Int->Prop} {B:Int->Prop} {K:Int->Int->Prop}
include hl
theorem Forest.low (hF:Forest l pr mk σ F) (hz:σ'.size=σ.size) (h:∀ j,l.base<=j->get σ' j=get σ j):Forest l pr mk σ' F:=by
 have hg:∀ x f,l.nd x->0<=f/\f<7->gf l σ' x f=gf l σ x f:=fun x f hx hf=>h _ (zaL hl hx hf).1
 have hp':∀ x,l.nd x->parent l σ' x=parent l σ x:=fun x hx=>by
  have:=hg x 2 hx (by decide)
  unfold parent pnew tget
  unfold gf at this
  rw [this]
 have hw:∀ x,l.nd x->(wOk l σ' x↔wOk l σ x):=fun x hx=>by unfold wOk; rw [hg x 2 hx (by decide)]
 have hr:∀ t:T,repU l mk σ t->repU l mk σ' t:=by
  intro t
  induction t with
  | nil=>exact fun _=>Zt
  | node a x b iha ihb =>
   rintro ⟨h1,h2,h3,h4,h5,h6,h7,h8,h9⟩
   refine ⟨h1,by rw [hg x 3 h1 (by decide)]; exact h2,by rw [hg x 4 h1 (by decide)]; exact h3,(hw x h1).2 h4,by rw [hg x 6 h1 (by decide)]; exact h5,iha h6,ihb h7,fun h0=>?_,fun h0=>?_⟩
   ·rw [hp' _ (h6.nd _ (h6.root_mem h0))]; exact h8 h0
   ·rw [hp' _ (h7.nd _ (h7.root_mem h0))]; exact h9 h0
 refine ⟨by rw [hz]; exact hF.size,fun x hx=>by rw [hg x 5 hx (by decide)]; exact hF.pri x hx,hF.mkk,hF.mem,hF.cls,hF.nodup,hF.heap,fun x hx=>hr _ (hF.rep x hx),fun x hx=>?_⟩
 have hr:=hF.rep x hx
 have h0:(F x).root≠0:=fun h0=>by have:=hr.nil_iff.1 h0; have:=hF.mem x hx; simp_all [T.list]
 rw [hp' _ (hr.nd _ (hr.root_mem h0))]; exact hF.top x hx
structure LM (l:Lay) (pr:Int->Int) (σ:M) (F:Int->T) (mk:Int->Int) (L:Int->Int->List Int) (K:Int->Int->Prop):Prop where
 forest:Forest l pr mk σ F
 lists:ListOk l σ L
 mv:∀ i v,l.okV i v->bitM (mk (l.vertex i v)) 0=decide (L v i≠[])/\bitM (mk (l.vertex i v)) 1=false
 ma:∀ s i,l.okA s i 0->bitM (mk (l.arc s i 0)) 0=false/\(bitM (mk (l.arc s i 0)) 1=true↔K s i)
 mb:∀ s i,l.okA s i 1->bitM (mk (l.arc s i 1)) 0=false/\bitM (mk (l.arc s i 1)) 1=false
theorem zqW (hF:Forest l pr mk σ F) {v i:Int} (hv:l.okV i v) (hh:get σ (l.head v i)<100) {k:Nat} (hk:560<k) :
  ∃ σ' mk',ze7 l k σ v i=some σ'/\Forest l pr mk' σ' F/\(∀ y,y≠l.vertex i v->mk' y=mk y)/\bitM (mk' (l.vertex i v)) 0=decide (get σ (l.head v i)≠0)/\bitM (mk' (l.vertex i v)) 1=bitM (mk (l.vertex i v)) 1/\(∀ j,j<l.base->get σ' j=get σ j):=by
 have hx:=(zaf hl hv).1
 have hlen:=hF.rowLen hl hx
 have hg:=zlM σ (l.head v i)
 unfold ze7 aget
 dsimp only
 rw [zaU (by omega),zye,zbd,zmL hl hF.mkk (hF.rep _ hx) (by omega) (hF.mem _ hx)]
 by_cases hc:decide (get σ (l.head v i)≠0)=bitM (mk (l.vertex i v)) 0
 ·rw [Zn (fun h=>h hc)]
  exact ⟨σ,mk,Z,hF,fun _ _=>Z,hc.symm,Z,fun _ _=>Z⟩
 ·rw [Zp hc]
  obtain ⟨σ',e,hF',hfr⟩:=hF.mark hl hx hk (.inl rfl) (decide (get σ (l.head v i)≠0))
  exact ⟨σ',_,e,hF',fun y hy=>zdM hy,by rw [zgB,zhu (hF.mkk _) (.inl Z) (.inl Z),Zp Z],by rw [zgB,zhu (hF.mkk _) (.inl Z) (.inr Z),Zn (by decide)],fun j hj=>hfr.low hl hj⟩
theorem LM.mark (h:LM l pr σ F mk L K) {L':Int->Int->List Int} (hz:σ'.size=σ.size) (hh:∀ j,l.base<=j->get σ' j=get σ j) {v i:Int} (hv:l.okV i v) (hL:ListOk l σ' L') (hO:∀ w j,¬(w=v/\j=i)->L' w j=L w j) {k:Nat} (hk:560<k) :
  ∃ σ'' mk',ze7 l k σ' v i=some σ''/\LM l pr σ'' F mk' L' K/\(∀ j,j<l.base->get σ'' j=get σ' j):=by
 have hF1:=h.forest.low hl hz hh
 have hhd:=hL.head i v hv
 have hsm:get σ' (l.head v i)<100/\(get σ' (l.head v i)≠0↔L' v i≠[]):=by
  rw [hhd]
  cases hLv:L' v i with
  | nil=>simp [fst]
  | cons y r =>
   have:=hL.side i v hv y (by rw [hLv]; simp)
   have bs:=(zct hl).s
   unfold Lay.sd at this
   simp only [fst]
   refine ⟨by omega,fun _=>by simp,fun _=>by omega⟩
 obtain ⟨σ'',mk',e,hF2,hO2,b0,b1,hlow⟩:=zqW hl hF1 hv hsm.1 hk
 refine ⟨σ'',mk',e,⟨hF2,hL.congr hl fun j hj=>hlow j (zhO hl hj).2,fun j w hw=>?_,fun s j hs=>?_,fun s j hs=>?_⟩,hlow⟩
 ·by_cases hvw:w=v/\j=i
  ·obtain ⟨rfl,rfl⟩:=hvw
   exact ⟨by rw [b0,decide_eq_decide]; exact hsm.2,by rw [b1]; exact (h.mv j w hv).2⟩
  ·rw [hO2 _ (fun he=>hvw (by have:=(zcW hl hw hv).1 he; exact ⟨this.2,this.1⟩)),hO w j hvw]; exact h.mv j w hw
 ·rw [hO2 _ (fun he=>zaN hl hv hs he.symm)]; exact h.ma s j hs
 ·rw [hO2 _ (fun he=>zaN hl hv hs he.symm)]; exact h.mb s j hs
theorem LM.push (h:LM l pr σ F mk L K) {x v i:Int} (hv:l.okV i v) (hx:l.sd x) (hno:∀ j w,l.okV j w->x∉L w j) {k:Nat} (hk:560<k) :
  ∃ σ' mk',Go.Tm.push l k σ x v i=some σ'/\LM l pr σ' F mk' (updL L v i (x :: L v i)) K/\∀ j,isE l j->get σ' j=get σ j:=by
 obtain ⟨hL,hz,hn⟩:=zrO hl h.forest.size h.lists hv hx hno
 obtain ⟨σ'',mk',e,h2,hlow⟩:=h.mark hl hz (fun j hj=>hn j fun hL=>by have:=zhO hl hL; omega) hv hL (fun w j hne=>by unfold updL; rw [Zn hne]) hk
 exact ⟨σ'',mk',by rw [zxM]; exact e,h2,fun j hj=>by rw [hlow j (zhP hl hj).2,hn j fun hL=>znZ hl hL hj]⟩
theorem LM.pull (h:LM l pr σ F mk L K) {x v i:Int} (hv:l.okV i v) {A C:List Int} (hAC:L v i=A++x :: C) {k:Nat} (hk:560<k) :
  ∃ σ' mk',Go.Tm.pull l k σ x v i=some σ'/\LM l pr σ' F mk' (updL L v i (A++C)) K/\∀ j,isE l j->get σ' j=get σ j:=by
 obtain ⟨hL,hz,hn⟩:=zrS hl h.forest.size h.lists hv hAC
 obtain ⟨σ'',mk',e,h2,hlow⟩:=h.mark hl hz (fun j hj=>hn j fun hL=>by have:=zhO hl hL; omega) hv hL (fun w j hne=>by unfold updL; rw [Zn hne]) hk
 exact ⟨σ'',mk',by rw [zxN]; exact e,h2,fun j hj=>by rw [hlow j (zhP hl hj).2,hn j fun hL=>znZ hl hL hj]⟩
structure Inv (l:Lay) (pr:Int->Int) (σ:M) (F:Int->T) (mk:Int->Int) (g:G) (L:Int->Int->List Int) (P:Int->Int->Prop) (B:Int->Prop) (K:Int->Int->Prop):Prop where
 lm:LM l pr σ F mk L K
 edges:EdgeOk l σ g
 mem:∀ i v,l.okV i v->∀ y,y∈L v i↔∃ s d:Int,y=2 * s+d+1/\(d=0\/d=1)/\B s/\g.lv s=i/\(if d=0 then g.u s else g.v s)=v
 bh:∀ s,B s->g.has s=true
 ph:∀ i s,P i s->g.has s=true
 tours:∀ i,0<=i/\i<l.lev->Tour l F i (P i) g.u g.v
theorem Inv.eop (h:Inv l pr σ F mk g L P B K) {g':G} (hE:EdgeOk l σ' g') (hz:σ'.size=σ.size) (hn:∀ j,¬isE l j->get σ' j=get σ j) (hB:∀ s,B s->g'.has s=true/\g'.u s=g.u s/\g'.v s=g.v s/\g'.lv s=g.lv s)
  (hP:∀ i s,P i s->g'.has s=true/\g'.u s=g.u s/\g'.v s=g.v s):Inv l pr σ' F mk g' L P B K:=by
 refine ⟨⟨h.lm.forest.low hl hz fun j hj=>hn j fun hE=>by have:=zhP hl hE; omega,h.lm.lists.congr hl fun j hj=>hn j (znZ hl hj),h.lm.mv,h.lm.ma,h.lm.mb⟩,hE,fun i v hv y=>?_,fun s hs=>(hB s hs).1,fun i s hs=>(hP i s hs).1,fun i hi=>(h.tours i hi).ends hl fun s hs=>(hP i s hs).2⟩
 rw [h.mem i v hv y]
 constructor
 ·rintro ⟨s,d,h1,h2,h3,h4,h5⟩
  obtain ⟨q1,q2,q3,q4⟩:=hB s h3
  exact ⟨s,d,h1,h2,h3,by rw [q4]; exact h4,by rw [q2,q3]; exact h5⟩
 ·rintro ⟨s,d,h1,h2,h3,h4,h5⟩
  obtain ⟨q1,q2,q3,q4⟩:=hB s h3
  exact ⟨s,d,h1,h2,h3,by rw [<-q4]; exact h4,by rw [<-q2,<-q3]; exact h5⟩
theorem Inv.put (h:Inv l pr σ F mk g L P B K) {s a b i:Int} {t:Bool} (hsr:0<=s/\s<l.S) (ha:0<=min a b) (hab:min a b<max a b) (hb:max a b<l.V) (hi:0<=i/\i<l.lev) (hno:g.has s=false) (hfree:∀ s,g.has s=true->¬(g.u s=min a b/\g.v s=max a b)) :
  Inv l pr (eput l σ s a b i t) F mk (g.put s (min a b) (max a b) i t) L P B K:=by
 obtain ⟨e1,e2,e3⟩:=ztT hl h.lm.forest.size h.edges (t:=t) hsr ha hab hb hi hno hfree
 have ne:∀ q,g.has q=true->q≠s:=fun q hq he=>by rw [he,hno] at hq; cases hq
 have key:∀ q,g.has q=true->(g.put s (min a b) (max a b) i t).has q=true/\(g.put s (min a b) (max a b) i t).u q=g.u q/\(g.put s (min a b) (max a b) i t).v q=g.v q/\(g.put s (min a b) (max a b) i t).lv q=g.lv q:=fun q hq=>by
  unfold G.put updB updI; simp [ne q hq,hq]
 exact h.eop hl e1 e2 e3 (fun q hq=>key q (h.bh q hq)) fun j q hq=>⟨(key q (h.ph j q hq)).1,(key q (h.ph j q hq)).2.1,(key q (h.ph j q hq)).2.2.1⟩
theorem Inv.turn (h:Inv l pr σ F mk g L P B K) {s:Int} {t:Bool} (hh:g.has s=true):Inv l pr (zgs l σ s t) F mk (g.turn s t) L P B K:=by
 obtain ⟨e1,e2,e3⟩:=zqK hl h.lm.forest.size h.edges (t:=t) hh
 exact h.eop hl e1 e2 e3 (fun q hq=>⟨h.bh q hq,Z,Z,Z⟩) fun j q hq=>⟨h.ph j q hq,Z,Z⟩
theorem Inv.lift (h:Inv l pr σ F mk g L P B K) {s i:Int} (hh:g.has s=true) (hB:¬B s) (hi:0<=i/\i<l.lev):Inv l pr (zgt l σ s i) F mk (g.lift s i) L P B K:=by
 obtain ⟨e1,e2,e3⟩:=zqL hl h.lm.forest.size h.edges hh hi
 exact h.eop hl e1 e2 e3 (fun q hq=>⟨h.bh q hq,Z,Z,by unfold G.lift updI; dsimp only; rw [Zn (fun he:q=s=>hB (he▸hq))]⟩) fun j q hq=>⟨h.ph j q hq,Z,Z⟩
theorem Inv.del (h:Inv l pr σ F mk g L P B K) {s:Int} (hh:g.has s=true) (hB:¬B s) (hP:∀ i,¬P i s):Inv l pr (zbW l σ (g.u s) (g.v s)) F mk (g.del s) L P B K:=by
 obtain ⟨e1,e2,e3⟩:=znb hl h.lm.forest.size h.edges hh
 have key:∀ q,g.has q=true->q≠s->(g.del s).has q=true:=fun q hq hne=>by unfold G.del updB; dsimp only; rw [Zn hne]; exact hq
 exact h.eop hl e1 e2 e3 (fun q hq=>⟨key q (h.bh q hq) fun he=>hB (he▸hq),Z,Z,Z⟩) fun j q hq=>⟨key q (h.ph j q hq) fun he=>hP j (he▸hq),Z,Z⟩
theorem Inv.okuv (h:Inv l pr σ F mk g L P B K) {s:Int} (hh:g.has s=true) {i:Int} (hi:0<=i/\i<l.lev):l.okV i (g.u s)/\l.okV i (g.v s)/\l.okA s i 0/\l.okA s i 1:=by
 obtain ⟨r1,⟨r2,r3,r4⟩,r5⟩:=h.edges.rng s hh
 exact ⟨⟨hi,by omega⟩,⟨hi,by omega⟩,⟨r1,hi,by omega⟩,⟨r1,hi,by omega⟩⟩
theorem Inv.lmark (h:Inv l pr σ F mk g L P B K) {s i:Int} (hA:l.okA s i 0) (on:Bool) {k:Nat} (hk:560<k) :
  ∃ σ' mk',Go.Tm.lmark l k σ s i on=some σ'/\Inv l pr σ' F mk' g L P B (fun q j=>if q=s/\j=i then on=true else K q j):=by
 have hx:=(zay hl hA).1
 obtain ⟨σ',e,hF',hfr⟩:=h.lm.forest.mark hl hx hk (.inr rfl) on
 refine ⟨σ',_,e,⟨⟨hF',h.lm.lists.congr hl fun j hj=>hfr.low hl (zhO hl hj).2,fun j w hw=>?_,fun q j hq=>?_,fun q j hq=>?_⟩,h.edges.congr hl fun j hj=>hfr.low hl (zhP hl hj).2,h.mem,h.bh,h.ph,h.tours⟩⟩
 ·rw [zdM (zaN hl hw hA)]; exact h.lm.mv j w hw
 ·by_cases hc:q=s/\j=i
  ·obtain ⟨rfl,rfl⟩:=hc
   rw [zgB,zhu (h.lm.forest.mkk _) (.inr Z) (.inl Z),Zn (by decide),zhu (h.lm.forest.mkk _) (.inr Z) (.inr Z),Zp Z,if_pos ⟨Z,Z⟩]
   exact ⟨(h.lm.ma q j hq).1,.rfl⟩
  ·rw [zdM (fun he=>hc (by have:=(zbH hl hq hA).1 he; exact ⟨this.1,this.2.1⟩)),Zn hc]; exact h.lm.ma q j hq
 ·rw [zdM (fun he=>by have:=((zbH hl hq hA).1 he).2.2; omega)]; exact h.lm.mb q j hq
theorem zi9 {s d:Int} (hs:0<=s/\s<l.S) (hd:d=0\/d=1):side s d=2 * s+d+1/\l.sd (2 * s+d+1):=by
 have:=(zct hl).s
 unfold side Lay.sd
 rw [zaU (x:=2 * s) (by omega),zaU (x:=2 * s+d) (by omega),zaU (by omega)]
 exact ⟨Z,by omega⟩
theorem Inv.add (h:Inv l pr σ F mk g L P B K) {s:Int} (hh:g.has s=true) (hB:¬B s) {k:Nat} (hk:560<k) :
  ∃ σ' mk' L',Go.Tm.add l k σ s=some σ'/\Inv l pr σ' F mk' g L' P (fun q=>B q\/q=s) K:=by
 have hr:=h.edges.rng s hh
 obtain ⟨hu,hv,_,_⟩:=h.okuv hl hh hr.2.2
 obtain ⟨e1,e2⟩:=zdR hl h.edges hh
 obtain ⟨s0,d0⟩:=zi9 hl hr.1 (.inl rfl:(0:Int)=0\/(0:Int)=1)
 obtain ⟨s1,d1⟩:=zi9 hl hr.1 (.inr rfl:(1:Int)=0\/(1:Int)=1)
 have no:∀ d:Int,(d=0\/d=1)->∀ j w,l.okV j w->2 * s+d+1∉L w j:=fun d hd j w hw hm=>by
  obtain ⟨q,d',h1,h2,h3,_⟩:=(h.mem j w hw _).1 hm
  have:q=s:=by omega
  exact hB (this▸h3)
 unfold Go.Tm.add
 dsimp only
 rw [e1,e2,s0,s1]
 obtain ⟨σ1,mk1,p1,h1,c1⟩:=h.lm.push hl hu d0 (no 0 (.inl rfl)) hk
 dsimp only
 rw [p1,Option.bind_some]
 have no2:∀ j w,l.okV j w->2 * s+1+1∉updL L (g.u s) (g.lv s) ((2 * s+0+1) :: L (g.u s) (g.lv s)) w j:=fun j w hw hm=>by
  unfold updL at hm
  split at hm
  ·rename_i hc
   rcases List.mem_cons.1 hm with hm | hm
   ·omega
   ·exact no 1 (.inr Z) _ _ hu hm
  ·exact no 1 (.inr Z) j w hw hm
 obtain ⟨σ2,mk2,p2,h2,c2⟩:=h1.push hl hv d1 no2 hk
 refine ⟨σ2,mk2,_,p2,⟨h2,h.edges.congr hl fun j hj=>by rw [c2 j hj,c1 j hj],fun j w hw y=>?_,fun q hq=>?_,h.ph,h.tours⟩⟩
 ·have base:=h.mem j w hw y
  have huv:g.u s≠g.v s:=by have:=hr.2.1; omega
  have L1:∀ y,y∈updL (updL L (g.u s) (g.lv s) ((2 * s+0+1) :: L (g.u s) (g.lv s))) (g.v s) (g.lv s) ((2 * s+1+1) :: updL L (g.u s) (g.lv s) ((2 * s+0+1) :: L (g.u s) (g.lv s)) (g.v s) (g.lv s)) w j↔y∈L w j\/(y=2 * s+0+1/\w=g.u s/\j=g.lv s)\/(y=2 * s+1+1/\w=g.v s/\j=g.lv s):=fun y=>by
   unfold updL
   by_cases c1:w=g.v s/\j=g.lv s
   ·rw [Zp c1,Zn (fun hc=>huv hc.1.symm)]
    obtain ⟨rfl,rfl⟩:=c1
    simp only [List.mem_cons,and_true]
    constructor
    ·rintro (hq | hq)
     ·exact .inr (.inr hq)
     ·exact .inl hq
    ·rintro (hq | hq | hq)
     ·exact .inr hq
     ·exact absurd hq.2.symm huv
     ·exact .inl hq
   ·rw [Zn c1]
    by_cases c2:w=g.u s/\j=g.lv s
    ·rw [Zp c2]
     obtain ⟨rfl,rfl⟩:=c2
     simp only [List.mem_cons,and_true]
     constructor
     ·rintro (hq | hq)
      ·exact .inr (.inl hq)
      ·exact .inl hq
     ·rintro (hq | hq | hq)
      ·exact .inr hq
      ·exact .inl hq
      ·exact absurd hq.2 huv
    ·rw [Zn c2]
     constructor
     ·exact fun hq=>.inl hq
     ·rintro (hq | hq | hq)
      ·exact hq
      ·exact absurd hq.2 c2
      ·exact absurd hq.2 c1
  rw [L1,base]
  constructor
  ·rintro (⟨q,d,q1,q2,q3,q4,q5⟩ | ⟨q1,q2,q3⟩ | ⟨q1,q2,q3⟩)
   ·exact ⟨q,d,q1,q2,.inl q3,q4,q5⟩
   ·exact ⟨s,0,q1,.inl Z,.inr Z,q3.symm,by rw [Zp Z]; exact q2.symm⟩
   ·exact ⟨s,1,q1,.inr Z,.inr Z,q3.symm,by rw [Zn (by decide)]; exact q2.symm⟩
  ·rintro ⟨q,d,q1,q2,q3,q4,q5⟩
   rcases q3 with q3 | rfl
   ·exact .inl ⟨q,d,q1,q2,q3,q4,q5⟩
   ·rcases q2 with rfl | rfl
    ·rw [Zp Z] at q5; exact .inr (.inl ⟨q1,q5.symm,q4.symm⟩)
    ·rw [Zn (by decide)] at q5; exact .inr (.inr ⟨q1,q5.symm,q4.symm⟩)
 ·rcases hq with hq | rfl
  ·exact h.bh q hq
  ·exact hh
theorem Inv.remove (h:Inv l pr σ F mk g L P B K) {s:Int} (hB:B s) {k:Nat} (hk:560<k) :
  ∃ σ' mk' L',Go.Tm.remove l k σ s=some σ'/\Inv l pr σ' F mk' g L' P (fun q=>B q/\q≠s) K:=by
 have hh:=h.bh s hB
 have hr:=h.edges.rng s hh
 obtain ⟨hu,hv,_,_⟩:=h.okuv hl hh hr.2.2
 obtain ⟨e1,e2⟩:=zdR hl h.edges hh
 obtain ⟨s0,d0⟩:=zi9 hl hr.1 (.inl rfl:(0:Int)=0\/(0:Int)=1)
 obtain ⟨s1,d1⟩:=zi9 hl hr.1 (.inr rfl:(1:Int)=0\/(1:Int)=1)
 have huv:g.u s≠g.v s:=by have:=hr.2.1; omega
 have in0:2 * s+0+1∈L (g.u s) (g.lv s):=(h.mem _ _ hu _).2 ⟨s,0,Z,.inl Z,hB,Z,by rw [Zp Z]⟩
 have in1:2 * s+1+1∈L (g.v s) (g.lv s):=(h.mem _ _ hv _).2 ⟨s,1,Z,.inr Z,hB,Z,by rw [Zn (by decide)]⟩
 obtain ⟨A,C,hAC⟩:=List.append_of_mem in0
 obtain ⟨A',C',hAC'⟩:=List.append_of_mem in1
 unfold Go.Tm.remove
 dsimp only
 rw [e1,e2,s0,s1]
 obtain ⟨σ1,mk1,p1,h1,c1⟩:=h.lm.pull hl hu hAC hk
 dsimp only
 rw [p1,Option.bind_some]
 have hL1:updL L (g.u s) (g.lv s) (A++C) (g.v s) (g.lv s)=A'++(2 * s+1+1) :: C':=by unfold updL; rw [Zn (fun hc=>huv hc.1.symm)]; exact hAC'
 obtain ⟨σ2,mk2,p2,h2,c2⟩:=h1.pull hl hv hL1 hk
 refine ⟨σ2,mk2,_,p2,⟨h2,h.edges.congr hl fun j hj=>by rw [c2 j hj,c1 j hj],fun j w hw y=>?_,fun q hq=>h.bh q hq.1,h.ph,h.tours⟩⟩
 ·have base:=h.mem j w hw y
  have nd0:=h.lm.lists.nodup _ _ hu
  have nd1:=h.lm.lists.nodup _ _ hv
  rw [hAC] at nd0
  rw [hAC'] at nd1
  have m0:∀ y,y∈A++C↔y∈L (g.u s) (g.lv s)/\y≠2 * s+0+1:=fun y=>by
   rw [hAC]
   have hn:2 * s+0+1∉A++C:=zwI nd0
   simp only [List.mem_append,List.mem_cons] at hn ⊢
   constructor
   ·intro hy; exact ⟨by rcases hy with hy | hy<;>simp [hy],fun he=>hn (he▸hy)⟩
   ·rintro ⟨hy | hy | hy,hne⟩
    ·exact .inl hy
    ·exact absurd hy hne
    ·exact .inr hy
  have m1:∀ y,y∈A'++C'↔y∈L (g.v s) (g.lv s)/\y≠2 * s+1+1:=fun y=>by
   rw [hAC']
   have hn:2 * s+1+1∉A'++C':=zwI nd1
   simp only [List.mem_append,List.mem_cons] at hn ⊢
   constructor
   ·intro hy; exact ⟨by rcases hy with hy | hy<;>simp [hy],fun he=>hn (he▸hy)⟩
   ·rintro ⟨hy | hy | hy,hne⟩
    ·exact .inl hy
    ·exact absurd hy hne
    ·exact .inr hy
  have L1:y∈updL (updL L (g.u s) (g.lv s) (A++C)) (g.v s) (g.lv s) (A'++C') w j↔y∈L w j/\(w=g.u s->j=g.lv s->y≠2 * s+0+1)/\(w=g.v s->j=g.lv s->y≠2 * s+1+1):=by
   unfold updL
   by_cases c1:w=g.v s/\j=g.lv s
   ·rw [Zp c1]
    obtain ⟨rfl,rfl⟩:=c1
    rw [m1]
    exact ⟨fun hq=>⟨hq.1,fun he=>absurd he.symm huv,fun _ _=>hq.2⟩,fun hq=>⟨hq.1,hq.2.2 Z Z⟩⟩
   ·rw [Zn c1]
    by_cases c2:w=g.u s/\j=g.lv s
    ·rw [Zp c2]
     obtain ⟨rfl,rfl⟩:=c2
     rw [m0]
     exact ⟨fun hq=>⟨hq.1,fun _ _=>hq.2,fun he=>absurd he huv⟩,fun hq=>⟨hq.1,hq.2.1 Z Z⟩⟩
    ·rw [Zn c2]
     exact ⟨fun hq=>⟨hq,fun q1 q2=>absurd ⟨q1,q2⟩ c2,fun q1 q2=>absurd ⟨q1,q2⟩ c1⟩,fun hq=>hq.1⟩
  rw [L1,base]
  constructor
  ·rintro ⟨⟨q,d,q1,q2,q3,q4,q5⟩,n0,n1⟩
   refine ⟨q,d,q1,q2,⟨q3,fun he=>?_⟩,q4,q5⟩
   subst he
   rcases q2 with rfl | rfl
   ·rw [Zp Z] at q5; exact n0 q5.symm q4.symm q1
   ·rw [Zn (by decide)] at q5; exact n1 q5.symm q4.symm q1
  ·rintro ⟨q,d,q1,q2,⟨q3,q6⟩,q4,q5⟩
   exact ⟨⟨q,d,q1,q2,q3,q4,q5⟩,fun _ _ he=>q6 (by omega),fun _ _ he=>q6 (by omega)⟩
theorem Tour.row_iff {i:Int} {Pi:Int->Prop} {eu ev:Int->Int} (hi:0<=i/\i<l.lev) (hT:Tour l F i Pi eu ev) {u v:Int} (hu:l.okV i u) (hv:l.okV i v):F (l.vertex i u)=F (l.vertex i v)↔Conn Pi eu ev u v:=by
 refine ⟨hT.conn u v hu hv,fun h=>?_⟩
 clear hv
 induction h with
 | refl=>rfl
 | step _ s hs he ih =>
  obtain ⟨_,a2,a3⟩:=hT.arcs s hs
  rw [ih]
  rcases he with ⟨q1,q2⟩ | ⟨q1,q2⟩<;>rw [<-q1,<-q2,a2,a3]
include hp
theorem Inv.link (h:Inv l pr σ F mk g L P B K) {s i:Int} (hi:0<=i/\i<l.lev) (hh:g.has s=true) (hP:¬P i s) (hc:¬Conn (P i) g.u g.v (g.u s) (g.v s)) {k:Nat} (hk:560<k) :
  ∃ r σ' F',Go.Tm.link l p k σ i s (g.u s) (g.v s)=some (r,σ')/\Inv l pr σ' F' mk g L (fun j q=>P j q\/(j=i/\q=s)) B K:=by
 obtain ⟨hu,hv,h0,h1⟩:=h.okuv hl hh hi
 have nu:=(zaf hl hu).1
 have nv:=(zaf hl hv).1
 have hT:=h.tours i hi
 have hF:=h.lm.forest
 have hne:F (l.vertex i (g.u s))≠F (l.vertex i (g.v s)):=fun he=>hc ((hT.row_iff hl hi hu hv).1 he)
 obtain ⟨A,C,hA⟩:=List.append_of_mem (hF.mem _ nu)
 obtain ⟨A',C',hA'⟩:=List.append_of_mem (hF.mem _ nv)
 obtain ⟨t,σ',F',e,lt,hF',hTt,hn,hfr⟩:=hF.link hl hp hu hv h0 h1 hA hA' (hT.single s 0 h0 hP) (hT.single s 1 h1 hP) hne hk
 refine ⟨t.root,σ',F',e,⟨⟨hF',h.lm.lists.congr hl fun j hj=>hfr.low hl (zhO hl hj).2,h.lm.mv,h.lm.ma,h.lm.mb⟩,h.edges.congr hl fun j hj=>hfr.low hl (zhP hl hj).2,h.mem,h.bh,fun j q hq=>?_,fun j hj=>?_⟩⟩
 ·rcases hq with hq | ⟨_,rfl⟩
  ·exact h.ph j q hq
  ·exact hh
 ·by_cases hji:j=i
  ·subst hji
   exact (hT.link hl hi hF hF' hP h0.1 hu hv hA hA' hne lt hTt hn).iff hl fun q=>by simp
  ·refine ((h.tours j hj).congr hl hj fun y hy hyl=>hn y fun hm=>hji ?_).iff hl fun q=>by simp [hji]
   rw [<-hyl]
   have lu:(l.node (l.vertex i (g.u s))).1.level=i:=by rw [(zaf hl hu).2.1]
   have lv:(l.node (l.vertex i (g.v s))).1.level=i:=by rw [(zaf hl hv).2.1]
   rw [lt] at hm
   simp only [List.mem_append,List.mem_cons,List.mem_singleton] at hm
   have mA:∀ y,(y=l.vertex i (g.u s)\/y∈C)\/y∈A->(l.node y).1.level=i:=fun y hy=>hT.lev _ nu lu y (by rw [hA]; rcases hy with (hy | hy) | hy<;>simp [hy])
   have mA':∀ y,(y=l.vertex i (g.v s)\/y∈C')\/y∈A'->(l.node y).1.level=i:=fun y hy=>hT.lev _ nv lv y (by rw [hA']; rcases hy with (hy | hy) | hy<;>simp [hy])
   rcases hm with ((hm | hm) | hm) | hm
   ·exact mA y hm
   ·rw [show y=l.arc s i 0 by simpa using hm,(zay hl h0).2]
   ·exact mA' y hm
   ·rw [show y=l.arc s i 1 by simpa using hm,(zay hl h1).2]
theorem Inv.cut (h:Inv l pr σ F mk g L P B K) {s i:Int} (hi:0<=i/\i<l.lev) (hP:P i s) {k:Nat} (hk:560<k) :
  ∃ r σ' F' mk',Go.Tm.cut l p k σ i s=some (r,σ')/\Inv l pr σ' F' mk' g L (fun j q=>P j q/\¬(j=i/\q=s)) B (fun q j=>if q=s/\j=i then False else K q j)/\¬Conn (fun q=>P i q/\q≠s) g.u g.v (g.u s) (g.v s):=by
 have hh:=h.ph i s hP
 obtain ⟨hu,hv,h0,h1⟩:=h.okuv hl hh hi
 have hT:=h.tours i hi
 have hF:=h.lm.forest
 have n0:=(zay hl h0).1
 have n1:=(zay hl h1).1
 have n01:l.arc s i 0≠l.arc s i 1:=fun he=>by have:=((zbH hl h0 h1).1 he).2.2; omega
 have m0:=hF.mem _ n0
 have m1:l.arc s i 1∈(F (l.arc s i 0)).list:=by rw [<-(hT.arcs s hP).1]; exact hF.mem _ n1
 obtain ⟨e1,e2,A,Bm,C,he,hL⟩:∃ e1 e2 A Bm C,((e1=l.arc s i 0/\e2=l.arc s i 1)\/(e1=l.arc s i 1/\e2=l.arc s i 0))/\(F (l.arc s i 0)).list=A++e1 :: (Bm++e2 :: C):=by
  obtain ⟨X,Y,hXY⟩:=List.append_of_mem m0
  rw [hXY] at m1
  rcases List.mem_append.1 m1 with hm | hm
  ·obtain ⟨X1,X2,hX⟩:=List.append_of_mem hm
   exact ⟨_,_,X1,X2,Y,.inr ⟨Z,Z⟩,by rw [hXY,hX]; simp⟩
  ·rcases List.mem_cons.1 hm with hm | hm
   ·exact absurd hm.symm n01
   ·obtain ⟨Y1,Y2,hY⟩:=List.append_of_mem hm
    exact ⟨_,_,X,Y1,Y2,.inl ⟨Z,Z⟩,by rw [hXY,hY]⟩
 obtain ⟨r,σ',F',ti,to,e,li,lo,hF',tti,tto,l0,l1,hn,hfr⟩:=hF.cut hl hp h0 h1 he hL hk
 obtain ⟨hT',hne⟩:=hT.cut hl hi hF hF' hP he hL li lo tti tto l0 l1 hn
 have mkv:∀ y,y≠l.arc s i 0->y≠l.arc s i 1->updM (updM mk (l.arc s i 0) 0) (l.arc s i 1) 0 y=mk y:=fun y h h'=>by rw [zdM h',zdM h]
 have z0:bitM 0 0=false/\bitM 0 1=false:=⟨zj2 (.inl Z),zj2 (.inr Z)⟩
 refine ⟨r,σ',F',_,e,⟨⟨hF',h.lm.lists.congr hl fun j hj=>hfr.low hl (zhO hl hj).2,fun j w hw=>?_,fun q j hq=>?_,fun q j hq=>?_⟩,h.edges.congr hl fun j hj=>hfr.low hl (zhP hl hj).2,h.mem,h.bh,fun j q hq=>h.ph j q hq.1,fun j hj=>?_⟩,fun hc=>hne ((hT'.row_iff hl hi hu hv).2 hc)⟩
 ·rw [mkv _ (zaN hl hw h0) (zaN hl hw h1)]; exact h.lm.mv j w hw
 ·by_cases hc:q=s/\j=i
  ·obtain ⟨rfl,rfl⟩:=hc
   rw [zdM n01,zgB,if_pos ⟨Z,Z⟩,z0.1,z0.2]
   exact ⟨Z,by simp⟩
  ·rw [Zn hc,mkv _ (fun hx=>hc (by have:=(zbH hl hq h0).1 hx; exact ⟨this.1,this.2.1⟩)) (fun hx=>by have:=((zbH hl hq h1).1 hx).2.2; omega)]; exact h.lm.ma q j hq
 ·by_cases hc:q=s/\j=i
  ·obtain ⟨rfl,rfl⟩:=hc
   rw [zgB]; exact z0
  ·rw [mkv _ (fun hx=>by have:=((zbH hl hq h0).1 hx).2.2; omega) (fun hx=>hc (by have:=(zbH hl hq h1).1 hx; exact ⟨this.1,this.2.1⟩))]; exact h.lm.mb q j hq
 ·by_cases hji:j=i
  ·subst hji
   exact hT'.iff hl fun q=>by simp
  ·refine ((h.tours j hj).congr hl hj fun y hy hyl=>hn y fun hm=>hji ?_).iff hl fun q=>by simp [hji]
   rw [<-hyl]
   exact hT.lev _ n0 (by rw [(zay hl h0).2]) y (by rw [hL]; exact hm)
end
theorem Conn.ends {P:Int->Prop} {eu ev eu' ev':Int->Int} {u v:Int} (c:Conn P eu' ev' u v) (h:∀ q,P q->eu' q=eu q/\ev' q=ev q):Conn P eu ev u v:=by
 induction c with
 | refl=>exact .refl _
 | step _ q hq he ih=>rw [(h q hq).1,(h q hq).2] at he; exact .step ih q hq he
section
variable {l:Lay} (hl:l.Ok) {p:Pen} (hp:PenOk p) {mk:Int->Int} {pr:Int->Int} {σ σ':M} {F:Int->T} {L:Int->Int->List Int} {g g':G} {P P':Int->Int->Prop} {B B':Int->Prop} {K K':Int->Int->Prop}
include hl
theorem Inv.iff (h:Inv l pr σ F mk g L P B K) (hP:∀ i s,0<=i/\i<l.lev->(P i s↔P' i s)) (hph:∀ i s,P' i s->g.has s=true) (hB:∀ s,B s↔B' s) (hK:∀ s i,l.okA s i 0->(K s i↔K' s i)):Inv l pr σ F mk g L P' B' K' :=
 ⟨⟨h.lm.forest,h.lm.lists,h.lm.mv,fun s i hs=>⟨(h.lm.ma s i hs).1,(h.lm.ma s i hs).2.trans (hK s i hs)⟩,h.lm.mb⟩,h.edges,fun i v hv y=>by
  rw [h.mem i v hv y]
  constructor
  ·rintro ⟨s,d,h1,h2,h3,h4⟩; exact ⟨s,d,h1,h2,(hB s).1 h3,h4⟩
  ·rintro ⟨s,d,h1,h2,h3,h4⟩; exact ⟨s,d,h1,h2,(hB s).2 h3,h4⟩,fun s hs=>h.bh s ((hB s).2 hs),hph,fun i hi=>(h.tours i hi).iff hl fun s=>hP i s hi⟩
theorem Conn.iff {P Q:Int->Prop} {eu ev:Int->Int} {u v:Int} (h:∀ s,P s↔Q s):Conn P eu ev u v↔Conn Q eu ev u v:=⟨fun c=>c.mono fun s hs=>(h s).1 hs,fun c=>c.mono fun s hs=>(h s).2 hs⟩
theorem Tour.bridge {i:Int} {Pi:Int->Prop} {eu ev:Int->Int} (hi:0<=i/\i<l.lev) (hF:Forest l pr mk σ F) (hT:Tour l F i Pi eu ev) {s:Int} (hs:Pi s):¬Conn (fun q=>Pi q/\q≠s) eu ev (eu s) (ev s):=by
 have key:∀ {a b},Conn (fun q=>Pi q/\q≠s) eu ev a b->F (l.vertex i a)=F (l.arc s i 0)->F (l.vertex i b)=F (l.arc s i 0)/\inn (F (l.arc s i 0)).list (l.arc s i 0) (l.arc s i 1) (l.vertex i b)=inn (F (l.arc s i 0)).list (l.arc s i 0) (l.arc s i 1) (l.vertex i a):=by
  intro a b h ha
  induction h with
  | refl=>exact ⟨ha,Z⟩
  | @step w x hw q hq hex ih =>
   obtain ⟨ih1,ih2⟩:=ih
   obtain ⟨_,a2,a3⟩:=hT.arcs q hq.1
   have hFq:F (l.arc q i 0)=F (l.arc s i 0):=by rcases hex with ⟨e,_⟩ | ⟨e,_⟩<;>rw [<-e] at ih1; exact a2.symm.trans ih1; exact a3.symm.trans ih1
   have z1:=hT.sep s q hs hq.1 (Ne.symm hq.2) hFq _ (.inr (.inl Z))
   have z2:=hT.sep s q hs hq.1 (Ne.symm hq.2) hFq _ (.inr (.inr Z))
   rw [<-ih2]
   rcases hex with ⟨e,e'⟩ | ⟨e,e'⟩<;>rw [<-e,<-e']
   ·exact ⟨a3.trans hFq,z2.trans z1.symm⟩
   ·exact ⟨a2.trans hFq,z1.trans z2.symm⟩
 intro h
 have:=(key h (hT.arcs s hs).2.1).2
 rw [hT.cross s hs] at this
 cases hx:inn (F (l.arc s i 0)).list (l.arc s i 0) (l.arc s i 1) (l.vertex i (eu s))<;>rw [hx] at this<;>cases this
include hp
theorem zji {s:Int} (hh:g.has s=true) {m:Nat} (hm:560<m) {n:Int} (hn:n<=l.lev):∀ (j k:Nat) (i:Int) {σ:M} {F:Int->T},i+j=n->0<=i->j<k->Inv l pr σ F mk g L (fun a q=>P a q\/(q=s/\0<=a/\a<i)) B K->(∀ a,i<=a->a<n->¬P a s/\¬Conn (P a) g.u g.v (g.u s) (g.v s)) ->
  ∃ σ' F',zco l p s (g.u s) (g.v s) k m σ i n=some σ'/\Inv l pr σ' F' mk g L (fun a q=>P a q\/(q=s/\0<=a/\a<n)) B K:=by
 intro j
 induction j with
 | zero =>
  intro k i σ F hij h0 hk h hc
  obtain ⟨k,rfl⟩:∃ q,k=q+1:=⟨k - 1,by omega⟩
  have:i=n:=by omega
  subst this
  exact ⟨σ,F,by rw [zco,Zn (by omega)],h⟩
 | succ j ih =>
  intro k i σ F hij h0 hk h hc
  obtain ⟨k,rfl⟩:∃ q,k=q+1:=⟨k - 1,by omega⟩
  have hin:i<n:=by omega
  have lb:=zbz hl
  obtain ⟨c1,c2⟩:=hc i (Int.le_refl _) hin
  obtain ⟨r,σ1,F1,e,h1⟩:=h.link hl hp (s:=s) (i:=i) ⟨h0,by omega⟩ hh (fun hq=>by rcases hq with hq | hq; exact c1 hq; omega) (fun hq=>c2 (hq.mono fun q hq=>by rcases hq with hq | hq; exact hq; omega)) hm
  obtain ⟨σ2,F2,e2,h2⟩:=ih k (i+1) (by omega) (by omega) (by omega) (h1.iff hl (P':=fun a q=>P a q\/(q=s/\0<=a/\a<i+1)) (fun a q ha=>by
    constructor
    ·rintro ((hq | hq) | hq)
     ·exact .inl hq
     ·exact .inr ⟨hq.1,hq.2.1,by omega⟩
     ·exact .inr ⟨hq.2,by omega,by omega⟩
    ·rintro (hq | hq)
     ·exact .inl (.inl hq)
     ·by_cases hai:a<i
      ·exact .inl (.inr ⟨hq.1,hq.2.1,hai⟩)
      ·exact .inr ⟨by omega,hq.1⟩) (fun a q hq=>by rcases hq with hq | hq; exact h1.ph a q (.inl (.inl hq)); rw [hq.1]; exact hh) (fun _=>.rfl) (fun _ _ _=>.rfl)) (fun a ha ha'=>hc a (by omega) ha')
  refine ⟨σ2,F2,?_,h2⟩
  rw [zco,Zp hin,e,Option.bind_some]
  dsimp only
  rw [zaU (by omega)]
  exact e2
theorem Inv.plant (h:Inv l pr σ F mk g L P B K) {s:Int} (hh:g.has s=true) (hc:∀ a,0<=a->a<=g.lv s->¬P a s/\¬Conn (P a) g.u g.v (g.u s) (g.v s)) {k:Nat} (hk:560<k) :
  ∃ σ' F' mk',Go.Tm.plant l p k σ s=some σ'/\Inv l pr σ' F' mk' (g.turn s true) L (fun a q=>P a q\/(q=s/\0<=a/\a<=g.lv s)) B (fun q j=>if q=s/\j=g.lv s then True else K q j):=by
 obtain ⟨r1,r2,r3⟩:=h.edges.rng s hh
 have lb:=zbz hl
 obtain ⟨e1,e2⟩:=zdR hl h.edges hh
 have ht:=h.turn hl (s:=s) (t:=true) hh
 unfold Go.Tm.plant
 dsimp only
 rw [e1,e2]
 dsimp only
 rw [zaU (by omega)]
 have ht':Inv l pr (zgs l σ s true) F mk (g.turn s true) L (fun a q=>P a q\/(q=s/\0<=a/\a<0)) B K:=ht.iff hl (fun a q _=>by constructor; exact .inl; rintro (hq | hq); exact hq; omega) (fun a q hq=>by rcases hq with hq | hq; exact ht.ph a q hq; omega) (fun _=>.rfl) (fun _ _ _=>.rfl)
 obtain ⟨σ1,F1,e3,h1⟩:=zji hl hp (g:=g.turn s true) (s:=s) hh hk (n:=g.lv s+1) (by omega) (g.lv s+1).toNat k 0 (by omega) (by omega) (by omega) ht' (fun a ha ha'=>hc a ha (by omega))
 rw [show zco l p s (g.u s) (g.v s) k k (zgs l σ s true) 0 (g.lv s+1)=some σ1 from e3,Option.bind_some]
 obtain ⟨σ2,mk2,e4,h2⟩:=h1.lmark hl (s:=s) (i:=g.lv s) ⟨r1,r3,by omega⟩ true hk
 refine ⟨σ2,F1,mk2,e4,h2.iff hl (fun a q _=>by
  constructor
  ·rintro (hq | hq); exact .inl hq; exact .inr ⟨hq.1,hq.2.1,by omega⟩
  ·rintro (hq | hq); exact .inl hq; exact .inr ⟨hq.1,hq.2.1,by omega⟩) (fun a q hq=>by rcases hq with hq | hq; exact h.ph a q hq; rw [hq.1]; exact hh) (fun _=>.rfl) (fun q j _=>by split<;>simp)⟩
theorem zqH {s:Int} {m:Nat} (hm:560<m) {n:Int} (hn:n<=l.lev):∀ (j k:Nat) (i:Int) {σ:M} {F:Int->T} {mk:Int->Int} {K:Int->Int->Prop},i+j=n->0<=i->j<k->Inv l pr σ F mk g L (fun a q=>P a q/\¬(q=s/\0<=a/\a<i)) B K->(∀ a,0<=a->a<n->P a s) ->
  ∃ σ' F' mk',zeq l p s k m σ i n=some σ'/\Inv l pr σ' F' mk' g L (fun a q=>P a q/\¬(q=s/\0<=a/\a<n)) B (fun q a=>if q=s/\i<=a/\a<n then False else K q a):=by
 intro j
 induction j with
 | zero =>
  intro k i σ F mk K hij h0 hk h hc
  obtain ⟨k,rfl⟩:∃ q,k=q+1:=⟨k - 1,by omega⟩
  have:i=n:=by omega
  subst this
  exact ⟨σ,F,mk,by rw [zeq,Zn (by omega)],h.iff hl (fun _ _ _=>.rfl) h.ph (fun _=>.rfl) (fun q a _=>by rw [Zn (by omega)])⟩
 | succ j ih =>
  intro k i σ F mk K hij h0 hk h hc
  obtain ⟨k,rfl⟩:∃ q,k=q+1:=⟨k - 1,by omega⟩
  have hin:i<n:=by omega
  have lb:=zbz hl
  obtain ⟨r,σ1,F1,mk1,e,h1,_⟩:=h.cut hl hp (s:=s) (i:=i) ⟨h0,by omega⟩ ⟨hc i h0 hin,by omega⟩ hm
  obtain ⟨σ2,F2,mk2,e2,h2⟩:=ih k (i+1) (by omega) (by omega) (by omega) (h1.iff hl (P':=fun a q=>P a q/\¬(q=s/\0<=a/\a<i+1)) (fun a q ha=>by
    constructor
    ·rintro ⟨⟨q1,q2⟩,q3⟩
     exact ⟨q1,fun hq=>by
      by_cases hai:a=i
      ·exact q3 ⟨hai,hq.1⟩
      ·exact q2 ⟨hq.1,hq.2.1,by omega⟩⟩
    ·rintro ⟨q1,q2⟩
     exact ⟨⟨q1,fun hq=>q2 ⟨hq.1,hq.2.1,by omega⟩⟩,fun hq=>q2 ⟨hq.2,by omega,by omega⟩⟩) (fun a q hq=>h.ph a q ⟨hq.1,fun hq'=>hq.2 ⟨hq'.1,hq'.2.1,by omega⟩⟩) (fun _=>.rfl) (fun _ _ _=>.rfl)) (fun a ha ha'=>hc a ha ha')
  refine ⟨σ2,F2,mk2,?_,h2.iff hl (fun _ _ _=>.rfl) h2.ph (fun _=>.rfl) (fun q a _=>?_)⟩
  ·rw [zeq,Zp hin,e,Option.bind_some]
   dsimp only
   rw [zaU (by omega)]
   exact e2
  ·by_cases c1:q=s/\i<=a/\a<n
   ·rw [Zp c1]
    by_cases c2:q=s/\i+1<=a/\a<n
    ·rw [Zp c2]
    ·rw [Zn c2,if_pos ⟨c1.1,by omega⟩]
   ·rw [Zn c1,Zn (fun hc=>c1 ⟨hc.1,by omega,hc.2.2⟩),Zn (fun hc=>c1 ⟨hc.1,by omega,by omega⟩)]
theorem Inv.fell (h:Inv l pr σ F mk g L P B K) {s:Int} (hh:g.has s=true) (hc:∀ a,0<=a->a<=g.lv s->P a s) {k:Nat} (hk:560<k) :
  ∃ σ' F' mk',Go.Tm.fell l p k σ s=some σ'/\Inv l pr σ' F' mk' g L (fun a q=>P a q/\¬(q=s/\0<=a/\a<=g.lv s)) B (fun q a=>if q=s/\0<=a/\a<=g.lv s then False else K q a):=by
 obtain ⟨r1,r2,r3⟩:=h.edges.rng s hh
 have lb:=zbz hl
 obtain ⟨e1,e2⟩:=zdR hl h.edges hh
 unfold Go.Tm.fell
 rw [e1,e2]
 dsimp only
 rw [zaU (by omega)]
 obtain ⟨σ1,F1,mk1,e3,h1⟩:=zqH hl hp (s:=s) hk (n:=g.lv s+1) (by omega) (g.lv s+1).toNat k 0 (by omega) (by omega) (by omega) (h.iff hl (P':=fun a q=>P a q/\¬(q=s/\0<=a/\a<0)) (fun a q _=>⟨fun hq=>⟨hq,by omega⟩,fun hq=>hq.1⟩) (fun a q hq=>h.ph a q hq.1) (fun _=>.rfl) (fun _ _ _=>.rfl)) (fun a ha ha'=>hc a ha (by omega))
 exact ⟨σ1,F1,mk1,e3,h1.iff hl (fun a q _=>⟨fun hq=>⟨hq.1,fun hq'=>hq.2 ⟨hq'.1,hq'.2.1,by omega⟩⟩,fun hq=>⟨hq.1,fun hq'=>hq.2 ⟨hq'.1,hq'.2.1,by omega⟩⟩⟩) (fun a q hq=>h.ph a q hq.1) (fun _=>.rfl)
  (fun q a _=>by
   by_cases c:q=s/\0<=a/\a<g.lv s+1
   ·rw [Zp c,if_pos ⟨c.1,c.2.1,by omega⟩]
   ·rw [Zn c,Zn (fun hc=>c ⟨hc.1,hc.2.1,by omega⟩)])⟩
def Pg (g:G) (i s:Int):Prop:=g.has s=true/\g.tr s=true/\i<=g.lv s
def Bg (g:G) (s:Int):Prop:=g.has s=true/\g.tr s=false
def Kg (g:G) (s i:Int):Prop:=g.has s=true/\g.tr s=true/\g.lv s=i
def zau (l:Lay) (pr:Int->Int) (σ:M) (g:G):Prop:=∃ F mk L,Inv l pr σ F mk g L (Pg g) (Bg g) (Kg g)
def Jn (g:G) (i u v:Int):Prop:=Conn (Pg g i) g.u g.v u v
theorem zau.fell_del (h:zau l pr σ g) {s:Int} (hh:g.has s=true) (ht:g.tr s=true) {k:Nat} (hk:560<k):∃ σ',Go.Tm.fell l p k σ s=some σ'/\zau l pr (zbW l σ' (g.u s) (g.v s)) (g.del s):=by
 obtain ⟨F,mk,L,h⟩:=h
 obtain ⟨σ',F',mk',e,h1⟩:=h.fell hl hp hh (fun a _ ha=>⟨hh,ht,ha⟩) hk
 have hr:=h.edges.rng s hh
 have h2:=(h1.iff hl (P':=Pg (g.del s)) (B':=Bg (g.del s)) (K':=Kg (g.del s)) (fun a q ha=>?_) (fun a q hq=>?_) (fun q=>?_) (fun q a hq=>?_)).del hl hh ?_ ?_
 ·exact ⟨σ',e,F',mk',L,h2⟩
 ·unfold Pg G.del updB
  dsimp only
  by_cases hq:q=s
  ·subst hq; rw [Zp Z]
   constructor
   ·rintro ⟨⟨_,_,q1⟩,q2⟩; exact absurd ⟨rfl,ha.1,q1⟩ q2
   ·rintro ⟨q1,_⟩; cases q1
  ·rw [Zn hq]; exact ⟨fun q1=>q1.1,fun q1=>⟨q1,fun q2=>hq q2.1⟩⟩
 ·unfold Pg G.del updB at hq
  dsimp only at hq
  split at hq
  ·cases hq.1
  ·exact hq.1
 ·unfold Bg G.del updB
  dsimp only
  by_cases hq:q=s
  ·subst hq; rw [Zp Z,ht]; simp
  ·rw [Zn hq]
 ·unfold Kg G.del updB
  dsimp only
  by_cases hq':q=s
  ·subst hq'; rw [Zp Z]
   constructor
   ·intro hx
    split at hx
    ·cases hx
    ·rename_i hc; exact absurd ⟨rfl,hq.2.1.1,by rw [hx.2.2]; exact Int.le_refl _⟩ hc
   ·rintro ⟨q1,_⟩; cases q1
  ·rw [Zn hq',Zn (fun hc=>hq' hc.1)]
 ·unfold Bg G.del updB; dsimp only; rw [Zp Z]; simp
 ·intro i; unfold Pg G.del updB; dsimp only; rw [Zp rfl]; simp
omit hp in
theorem zau.remove_del (h:zau l pr σ g) {s:Int} (hh:g.has s=true) (ht:g.tr s=false) {k:Nat} (hk:560<k):∃ σ',Go.Tm.remove l k σ s=some σ'/\zau l pr (zbW l σ' (g.u s) (g.v s)) (g.del s):=by
 obtain ⟨F,mk,L,h⟩:=h
 obtain ⟨σ',mk',L',e,h1⟩:=h.remove hl ⟨hh,ht⟩ hk
 have h2:=(h1.iff hl (P':=Pg (g.del s)) (B':=Bg (g.del s)) (K':=Kg (g.del s)) (fun a q ha=>?_) (fun a q hq=>?_) (fun q=>?_) (fun q a hq=>?_)).del hl hh ?_ ?_
 ·exact ⟨σ',e,F,mk',L',h2⟩
 ·unfold Pg G.del updB
  dsimp only
  by_cases hq:q=s
  ·subst hq; rw [Zp Z,ht]; simp
  ·rw [Zn hq]
 ·unfold Pg G.del updB at hq
  dsimp only at hq
  split at hq
  ·cases hq.1
  ·exact hq.1
 ·unfold Bg G.del updB
  dsimp only
  by_cases hq:q=s
  ·subst hq; rw [Zp Z]; simp
  ·rw [Zn hq]; exact ⟨fun q1=>q1.1,fun q1=>⟨q1,hq⟩⟩
 ·unfold Kg G.del updB
  dsimp only
  by_cases hq':q=s
  ·subst hq'; rw [Zp Z,ht]; simp
  ·rw [Zn hq']
 ·unfold Bg G.del updB; dsimp only; rw [Zp Z]; simp
 ·intro i; unfold Pg G.del updB; dsimp only; rw [Zp rfl]; simp
theorem zau.put_add (h:zau l pr σ g) {s a b:Int} (hsr:0<=s/\s<l.S) (ha:0<=min a b) (hab:min a b<max a b) (hb:max a b<l.V) (hno:g.has s=false) (hfree:∀ s,g.has s=true->¬(g.u s=min a b/\g.v s=max a b)) {k:Nat} (hk:560<k) :
  ∃ σ',Go.Tm.add l k (eput l σ s a b 0 false) s=some σ'/\zau l pr σ' (g.put s (min a b) (max a b) 0 false):=by
 obtain ⟨F,mk,L,h⟩:=h
 have lb:=zbz hl
 have h1:=h.put hl (t:=false) hsr ha hab hb (i:=0) (by omega) hno hfree
 have hh:(g.put s (min a b) (max a b) 0 false).has s=true:=by unfold G.put updB; simp
 obtain ⟨σ',mk',L',e,h2⟩:=h1.add hl hh (fun hB=>by rw [hB.1] at hno; cases hno) hk
 refine ⟨σ',e,F,mk',L',h2.iff hl (fun i q hi=>?_) (fun i q hq=>hq.1) (fun q=>?_) (fun q i hq=>?_)⟩
 ·unfold Pg G.put updB updI; dsimp only
  by_cases hq:q=s
  ·subst hq; simp [hno]
  ·simp [hq]
 ·unfold Bg G.put updB updI; dsimp only
  by_cases hq:q=s
  ·subst hq; simp
  ·simp [hq]
 ·unfold Kg G.put updB updI; dsimp only
  by_cases hq':q=s
  ·subst hq'; simp [hno]
  ·simp [hq']
theorem zau.put_plant (h:zau l pr σ g) {s a b:Int} (hsr:0<=s/\s<l.S) (ha:0<=min a b) (hab:min a b<max a b) (hb:max a b<l.V) (hno:g.has s=false) (hfree:∀ s,g.has s=true->¬(g.u s=min a b/\g.v s=max a b)) (hj:¬Jn g 0 (min a b) (max a b)) {k:Nat} (hk:560<k) :
  ∃ σ',Go.Tm.plant l p k (eput l σ s a b 0 false) s=some σ'/\zau l pr σ' (g.put s (min a b) (max a b) 0 true):=by
 obtain ⟨F,mk,L,h⟩:=h
 have lb:=zbz hl
 have h1:=h.put hl (t:=false) hsr ha hab hb (i:=0) (by omega) hno hfree
 have hh:(g.put s (min a b) (max a b) 0 false).has s=true:=by unfold G.put updB; simp
 have eu:(g.put s (min a b) (max a b) 0 false).u s=min a b:=by unfold G.put updI; simp
 have ev:(g.put s (min a b) (max a b) 0 false).v s=max a b:=by unfold G.put updI; simp
 have el:(g.put s (min a b) (max a b) 0 false).lv s=0:=by unfold G.put updI; simp
 obtain ⟨σ',F',mk',e,h2⟩:=h1.plant hl hp hh (fun i hi hi'=>by
  rw [el] at hi'
  have:i=0:=by omega
  subst this
  refine ⟨fun hP=>(by rw [hP.1] at hno; cases hno),fun hc=>hj ?_⟩
  rw [eu,ev] at hc
  exact hc.ends fun q hq=>by
   have hqs:q≠s:=fun hqs=>by rw [hqs] at hq; rw [hq.1] at hno; cases hno
   unfold G.put updI; simp [hqs]) hk
 have hg:(g.put s (min a b) (max a b) 0 false).turn s true=g.put s (min a b) (max a b) 0 true:=by
  unfold G.put G.turn updB updI
  simp only [G.mk.injEq,true_and]
  funext q
  by_cases hq:q=s<;>simp [hq]
 rw [hg,el] at h2
 refine ⟨σ',e,F',mk',L,h2.iff hl (fun i q hi=>?_) (fun i q hq=>hq.1) (fun q=>?_) (fun q i hq=>?_)⟩
 ·unfold Pg G.put updB updI; dsimp only
  by_cases hq:q=s
  ·subst hq; simp [hno]; omega
  ·simp [hq]
 ·unfold Bg G.put updB updI; dsimp only
  by_cases hq:q=s
  ·subst hq; simp [hno]
  ·simp [hq]
 ·unfold Kg G.put updB updI; dsimp only
  by_cases hq':q=s
  ·subst hq'
   by_cases hi:i=0
   ·simp [hi]
   ·simp [hi,hno]; omega
  ·simp [hq']
end
theorem znd {α:Type} {p q:α->Bool}:∀ {r:List α} {s:α},(∀ x∈r,q x=true->p x=true)->s∈r->p s=true->q s=false->r.countP q<r.countP p
 | x :: r,s,h,hs,hp,hq=>by
  have hle:r.countP q<=r.countP p:=List.countP_mono_left fun y hy=>h y (by simp [hy])
  rw [List.countP_cons,List.countP_cons]
  rcases List.mem_cons.1 hs with rfl | hs
  ·rw [hp,hq]; simp; omega
  ·have:=znd (fun y hy=>h y (by simp [hy])) hs hp hq
   have hx:=h x (by simp)
   cases h1:q x
   ·simp; omega
   ·rw [hx h1]; simp; omega
theorem ze3 {α:Type} {p q:α->Bool}:∀ {r:List α} {s:α},(∀ x∈r,x≠s->q x=p x)->s∈r->p s=false->q s=true->r.Nodup->r.countP q=r.countP p+1
 | x :: r,s,h,hs,hp,hq,hnd=>by
  obtain ⟨n1,n2⟩:=List.nodup_cons.1 hnd
  rw [List.countP_cons,List.countP_cons]
  rcases List.mem_cons.1 hs with rfl | hs
  ·have:r.countP q=r.countP p:=List.countP_congr fun y hy=>by rw [h y (by simp [hy]) fun he=>n1 (he▸hy)]
   rw [hp,hq,this]; simp
  ·have:=ze3 (fun y hy=>h y (by simp [hy])) hs hp hq n2
   rw [h x (by simp) fun he=>n1 (he▸hs),this]; omega
section
variable {l:Lay} (hl:l.Ok) {p:Pen} (hp:PenOk p) {mk:Int->Int} {pr:Int->Int} {σ σ':M} {F:Int->T} {L:Int->Int->List Int} {g g':G}
include hl
theorem zau.rng (h:zau l pr σ g) {s:Int} (hh:g.has s=true):(0<=s/\s<l.S)/\(0<=g.u s/\g.u s<g.v s/\g.v s<l.V)/\0<=g.lv s/\g.lv s<l.lev:=by
 obtain ⟨F,mk,L,h⟩:=h; exact h.edges.rng s hh
theorem zau.eget (h:zau l pr σ g) {s:Int} (hh:g.has s=true):Go.Tm.eget l σ s=⟨g.u s,g.v s,g.lv s,g.tr s⟩:=by
 obtain ⟨F,mk,L,h⟩:=h; exact (zdR hl h.edges hh).1
omit hl in
theorem Jn.symm {i u v:Int} (h:Jn g i u v):Jn g i v u:=Conn.symm h
theorem zau.same (h:zau l pr σ g) {i u v:Int} (hu:l.okV i u) (hv:l.okV i v) {k:Nat} (hk:560<k):∃ b,Go.Tm.same l k σ i u v=some (b,σ)/\(b=true↔Jn g i u v):=by
 obtain ⟨F,mk,L,h⟩:=h
 obtain ⟨b,e,hb⟩:=h.lm.forest.same hl hu hv hk
 exact ⟨b,e,hb.trans ((h.tours i hu.1).row_iff hl hu.1 hu hv)⟩
theorem zau.first1 (h:zau l pr σ g) {i v:Int} (hv:l.okV i v) {k:Nat} (hk:560<k):∃ x,lfirst l k σ i v 1=some (x,σ) /\
  ((x=0/\∀ s,g.has s=true->g.tr s=true->g.lv s=i->¬Jn g i v (g.u s))\/(x≠0/\∃ s,(l.node x).1.slot=s/\g.has s=true/\g.tr s=true/\g.lv s=i/\Jn g i v (g.u s))):=by
 obtain ⟨F,mk,L,h⟩:=h
 have hF:=h.lm.forest
 have hT:=h.tours i hv.1
 have nv:=(zaf hl hv).1
 have lv:(l.node (l.vertex i v)).1.level=i:=by rw [(zaf hl hv).2.1]
 refine ⟨_,hF.lfirst hl hv hk (.inr Z),?_⟩
 cases hf:(F (l.vertex i v)).list.find? (fun x=>bitM (mk x) 1) with
 | none =>
  refine .inl ⟨Z,fun s hs ht hls hj=>?_⟩
  rw [List.find?_eq_none] at hf
  obtain ⟨hu,hw,h0,h1⟩:=h.okuv hl hs hv.1
  have hP:Pg g i s:=⟨hs,ht,by omega⟩
  have hFF:=(hT.row_iff hl hv.1 hv hu).2 hj
  have hm:l.arc s i 0∈(F (l.vertex i v)).list:=by
   rw [hFF,(hT.arcs s hP).2.1]; exact hF.mem _ (zay hl h0).1
  exact hf _ hm ((h.lm.ma s i h0).2.2 ⟨hs,ht,hls⟩)
 | some x =>
  have hx:=List.mem_of_find?_eq_some hf
  have hb:=List.find?_some (p:=fun x=>bitM (mk x) 1) hf
  have nx:=(hF.rep _ nv).nd x hx
  have lx:=hT.lev _ nv lv x hx
  right
  simp only [Option.getD_some]
  refine ⟨by unfold Lay.nd at nx; omega,?_⟩
  rcases zex hl nx with ⟨j,w,hw,rfl⟩ | ⟨s,j,d,hs,rfl⟩
  ·have:=(h.lm.mv j w hw).2; rw [hb] at this; cases this
  ·rw [(zay hl hs).2] at lx
   have hji:j=i:=lx
   subst hji
   have hd:d=0\/d=1:=by have:=hs.2.2; omega
   rcases hd with rfl | rfl
   ·obtain ⟨k1,k2,k3⟩:=(h.lm.ma s j hs).2.1 hb
    refine ⟨s,by rw [(zay hl hs).2],k1,k2,k3,?_⟩
    have hP:Pg g j s:=⟨k1,k2,by omega⟩
    refine (hT.row_iff hl hv.1 hv (h.okuv hl k1 hv.1).1).1 ?_
    rw [(hT.arcs s hP).2.1]
    exact (hF.cls _ nv _ hx).symm
   ·have:=(h.lm.mb s j hs).2; rw [hb] at this; cases this
theorem zau.first0 (h : zau l pr σ g) {i v : Int} (hv : l.okV i v) {k : Nat} (hk : 560 < k) : ∃ x, lfirst l k σ i v 0 = some (x, σ) /\
    ((x = 0/\∀ s, g.has s = true -> g.tr s = false -> g.lv s = i -> ¬ Jn g i v (g.u s)/\¬ Jn g i v (g.v s)) \/
     (x ≠ 0/\∃ w s, (l.node x).1.vertex = w/\afirst l σ w i = (s, true)/\g.has s = true/\g.tr s = false/\g.lv s = i/\(g.u s = w\/g.v s = w)/\Jn g i v w)) := by
  obtain ⟨F, mk, L, h⟩ := h
  have hF := h.lm.forest
  have hT := h.tours i hv.1
  have nv := (zaf hl hv).1
  have lv : (l.node (l.vertex i v)).1.level = i := by rw [(zaf hl hv).2.1]
  refine ⟨_, hF.lfirst hl hv hk (.inl Z), ?_⟩
  cases hf : (F (l.vertex i v)).list.find? (fun x => bitM (mk x) 0) with
  | none =>
    refine .inl ⟨Z, fun s hs ht hls => ?_⟩
    rw [List.find?_eq_none] at hf
    obtain ⟨hu, hw, h0, h1⟩ := h.okuv hl hs hv.1
    have key : ∀ w, l.okV i w -> (∃ d : Int, (d = 0\/d = 1)/\(if d = 0 then g.u s else g.v s) = w) -> ¬ Jn g i v w := fun w hw ⟨d, hd, he⟩ hj => by
      have hFF := (hT.row_iff hl hv.1 hv hw).2 hj
      have hm : l.vertex i w ∈ (F (l.vertex i v)).list := by rw [hFF]; exact hF.mem _ (zaf hl hw).1
      have hL : 2 * s + d + 1 ∈ L w i := (h.mem i w hw _).2 ⟨s, d, Z, hd, ⟨hs, ht⟩, hls, he⟩
      exact hf _ hm (by rw [(h.lm.mv i w hw).1, decide_eq_true]; intro hn; rw [hn] at hL; cases hL)
    exact ⟨key _ hu ⟨0, .inl Z, if_pos Z⟩, key _ hw ⟨1, .inr Z, if_neg (by decide)⟩⟩
  | some x =>
    have hx := List.mem_of_find?_eq_some hf
    have hb := List.find?_some (p := fun x => bitM (mk x) 0) hf
    have nx := (hF.rep _ nv).nd x hx
    have lx := hT.lev _ nv lv x hx
    right
    simp only [Option.getD_some]
    refine ⟨by unfold Lay.nd at nx; omega, ?_⟩
    rcases zex hl nx with ⟨j, w, hw, rfl⟩ | ⟨s, j, d, hs, rfl⟩
    · rw [(zaf hl hw).2.1] at lx
      have hji : j = i := lx
      subst hji
      have hne : L w j ≠ [] := of_decide_eq_true ((h.lm.mv j w hw).1.symm.trans hb)
      cases hLw : L w j with
      | nil => exact absurd hLw hne
      | cons y r =>
        obtain ⟨s, d, e1, e2, ⟨e3, e3'⟩, e4, e5⟩ := (h.mem j w hw y).1 (by rw [hLw]; simp)
        have hr := h.edges.rng s e3
        have bs := (zct hl).s
        refine ⟨w, s, by rw [(zaf hl hw).2.1], ?_, e3, e3', e4, ?_, ?_⟩
        · have ehd : get σ (l.head w j) = y := by rw [h.lm.lists.head j w hw, hLw]; rfl
          unfold afirst aget
          dsimp only
          rw [ehd, zaU (x := y) (by omega), if_neg (by omega), zaU (by omega), Int.tdiv_eq_ediv_of_nonneg (by omega)]
          have : (y - 1) / 2 = s := by omega
          rw [this]
        · rcases e2 with rfl | rfl
          · rw [Zp Z] at e5; exact .inl e5
          · rw [Zn (by decide)] at e5; exact .inr e5
        · exact (hT.row_iff hl hv.1 hv hw).1 (hF.cls _ nv _ hx).symm
    · have hd : d = 0\/d = 1 := by have := hs.2.2; omega
      rcases hd with rfl | rfl
      · have := (h.lm.ma s j hs).1; rw [hb] at this; cases this
      · have := (h.lm.mb s j hs).1; rw [hb] at this; cases this
theorem zau.plain (h:zau l pr σ g) {s:Int} (hh:g.has s=true) (ht:g.tr s=false) (hv:g.lv s+1<l.lev) {k:Nat} (hk:560<k):∃ σ',Go.Tm.plain l k σ s=some σ'/\zau l pr σ' (g.lift s (g.lv s+1)):=by
 obtain ⟨F,mk,L,h⟩:=h
 have hr:=h.edges.rng s hh
 have lb:=zbz hl
 obtain ⟨e1,e2⟩:=zdR hl h.edges hh
 obtain ⟨σ1,mk1,L1,p1,h1⟩:=h.remove hl ⟨hh,ht⟩ hk
 have h2:=h1.lift hl (s:=s) (i:=g.lv s+1) hh (fun hB=>hB.2 Z) ⟨by omega,hv⟩
 obtain ⟨σ2,mk2,L2,p2,h3⟩:=h2.add hl (s:=s) hh (fun hB=>hB.2 rfl) hk
 refine ⟨σ2,?_,F,mk2,L2,h3.iff hl (fun i q hi=>?_) (fun i q hq=>hq.1) (fun q=>?_) (fun q i hq=>?_)⟩
 ·unfold Go.Tm.plain
  dsimp only
  rw [e1,e2,p1,Option.bind_some]
  dsimp only
  rw [zaU (by omega)]
  exact p2
 ·unfold Pg G.lift updI; dsimp only
  by_cases hq:q=s
  ·subst hq; simp [ht]
  ·simp [hq]
 ·unfold Bg G.lift; dsimp only
  by_cases hq:q=s
  ·subst hq; simp [hh,ht]
  ·simp [hq]
 ·unfold Kg G.lift updI; dsimp only
  by_cases hq':q=s
  ·subst hq'; simp [ht]
  ·simp [hq']
include hp
theorem zau.treeUp (h:zau l pr σ g) {s:Int} (hh:g.has s=true) (ht:g.tr s=true) (hv:g.lv s+1<l.lev) {k:Nat} (hk:560<k):∃ σ',Go.Tm.treeUp l p k σ s=some σ'/\zau l pr σ' (g.lift s (g.lv s+1)):=by
 obtain ⟨F,mk,L,h⟩:=h
 have hr:=h.edges.rng s hh
 have lb:=zbz hl
 obtain ⟨e1,e2⟩:=zdR hl h.edges hh
 have hT:=h.tours (g.lv s) hr.2.2
 have hno:¬Conn (Pg g (g.lv s+1)) g.u g.v (g.u s) (g.v s):=fun hc=>hT.bridge hl hr.2.2 h.lm.forest (s:=s) ⟨hh,ht,Int.le_refl _⟩ (hc.mono fun q hq=>by
  refine ⟨⟨hq.1,hq.2.1,?_⟩,fun he=>?_⟩
  ·have:=hq.2.2; omega
  ·subst he; have:=hq.2.2; omega)
 obtain ⟨σ1,mk1,p1,h1⟩:=h.lmark hl (s:=s) (i:=g.lv s) ⟨hr.1,hr.2.2,by omega⟩ false hk
 have h2:=h1.lift hl (s:=s) (i:=g.lv s+1) hh (fun hB=>by rw [hB.2] at ht; cases ht) ⟨by omega,hv⟩
 obtain ⟨r,σ3,F3,p3,h3⟩:=h2.link hl hp (s:=s) (i:=g.lv s+1) ⟨by omega,hv⟩ hh (fun hP=>by have:=hP.2.2; omega) hno hk
 obtain ⟨σ4,mk4,p4,h4⟩:=h3.lmark hl (s:=s) (i:=g.lv s+1) ⟨hr.1,⟨by omega,hv⟩,by omega⟩ true hk
 refine ⟨σ4,?_,F3,mk4,L,h4.iff hl (fun i q hi=>?_) (fun i q hq=>hq.1) (fun q=>?_) (fun q i hq=>?_)⟩
 ·unfold Go.Tm.treeUp
  dsimp only
  rw [e1,e2]
  dsimp only
  rw [p1,Option.bind_some,zaU (by omega)]
  have p3':Go.Tm.link l p k (zgt l σ1 s (g.lv s+1)) (g.lv s+1) s (g.u s) (g.v s)=some (r,σ3):=p3
  rw [p3',Option.bind_some]
  exact p4
 ·unfold Pg G.lift updI; dsimp only
  by_cases hq:q=s
  ·subst hq; simp [hh,ht]; omega
  ·simp [hq]
 ·unfold Bg G.lift; dsimp only; exact .rfl
 ·unfold Kg G.lift updI; dsimp only
  by_cases hq':q=s
  ·subst hq'
   by_cases c1:i=g.lv q+1
   ·simp [c1,hh,ht]
   ·have c1':¬g.lv q+1=i:=fun h=>c1 h.symm
    by_cases c2:i=g.lv q
    ·have d1:¬g.lv q+1=g.lv q:=by omega
     have d2:¬g.lv q=g.lv q+1:=by omega
     simp [c2,d1,d2]
    ·have c2':¬g.lv q=i:=fun h=>c2 h.symm
     simp [c1,c1',c2,c2']
  ·simp [hq']
omit hp
structure Raised (g g':G) (i:Int) (C:Int->Prop):Prop where
 has:g'.has=g.has
 u:g'.u=g.u
 v:g'.v=g.v
 tr:g'.tr=g.tr
 up:∀ s,C s->g.has s=true/\g.lv s=i/\g'.lv s=i+1
 st:∀ s,¬C s->g'.lv s=g.lv s
theorem Raised.jn {i:Int} {C:Int->Prop} (h:Raised g g' i C) {j u v:Int} (hj:j<=i):Jn g' j u v↔Jn g j u v:=by
 unfold Jn
 rw [h.u,h.v]
 refine Conn.iff hl fun s=>?_
 unfold Pg
 rw [h.has,h.tr]
 by_cases hc:C s
 ·obtain ⟨_,h1,h2⟩:=h.up s hc
  rw [h1,h2]
  constructor
  ·rintro ⟨q1,q2,q3⟩; exact ⟨q1,q2,hj⟩
  ·rintro ⟨q1,q2,q3⟩; exact ⟨q1,q2,by omega⟩
 ·rw [h.st s hc]
omit hl in
theorem Raised.step {i s:Int} (hh:g.has s=true) (hi:g.lv s=i) {C:Int->Prop} (h:Raised (g.lift s (i+1)) g' i C) (hC:¬C s):Raised g g' i (fun q=>C q\/q=s):=by
 refine ⟨h.has,h.u,h.v,h.tr,fun q hq=>?_,fun q hq=>?_⟩
 ·rcases hq with hq | rfl
  ·obtain ⟨h1,h2,h3⟩:=h.up q hq
   have hqs:q≠s:=fun he=>hC (he▸hq)
   refine ⟨h1,?_,h3⟩
   unfold G.lift updI at h2; dsimp only at h2; rw [Zn hqs] at h2; exact h2
  ·refine ⟨hh,hi,?_⟩
   rw [h.st q hC]; unfold G.lift updI; dsimp only; rw [Zp Z]
 ·have hqs:q≠s:=fun he=>hq (.inr he)
  rw [h.st q fun hc=>hq (.inl hc)]; unfold G.lift updI; dsimp only; rw [Zn hqs]
theorem Raised.lift {i s:Int} (hh:g.has s=true) (hi:g.lv s=i):Raised g (g.lift s (i+1)) i (fun q=>q=s):=by
 refine ⟨Z,Z,Z,Z,fun q hq=>?_,fun q hq=>?_⟩
 ·subst hq; exact ⟨hh,hi,by unfold G.lift updI; simp⟩
 ·unfold G.lift updI; dsimp only; rw [Zn hq]
theorem Raised.iff {i:Int} {C C':Int->Prop} (h:Raised g g' i C) (hC:∀ s,C s↔C' s):Raised g g' i C':=⟨h.has,h.u,h.v,h.tr,fun s hs=>h.up s ((hC s).2 hs),fun s hs=>h.st s fun hc=>hs ((hC s).1 hc)⟩
def cntE (l:Lay) (g:G) (i:Int) (t:Bool):Nat:=(List.range l.S).countP fun s:Nat=>g.has s && (g.tr s == t) && decide (g.lv s=i)
theorem zfZ {i s:Int} {t:Bool} (hsr:0<=s/\s<l.S) (hh:g.has s=true) (ht:g.tr s=t) (hi:g.lv s=i):cntE l (g.lift s (i+1)) i t<cntE l g i t:=by
 unfold cntE
 refine znd (s:=s.toNat) (fun x _ hx=>?_) (List.mem_range.2 (by omega)) ?_ ?_
 ·unfold G.lift updI at hx
  simp only [Bool.and_eq_true,decide_eq_true_eq] at hx ⊢
  refine ⟨hx.1,?_⟩
  have:=hx.2
  split at this
  ·omega
  ·exact this
 ·have:((s.toNat:Nat):Int)=s:=by omega
  rw [this,hh,ht,hi]; simp
 ·have:((s.toNat:Nat):Int)=s:=by omega
  unfold G.lift updI
  rw [this]; simp; omega
theorem zpW {i:Int} {t:Bool}:cntE l g i t<=48:=by
 unfold cntE
 have:=List.countP_le_length (p:=fun s:Nat=>g.has s && (g.tr s == t) && decide (g.lv s=i)) (l:=List.range l.S)
 rw [List.length_range] at this
 have:=(zct hl).s
 omega
include hp
theorem zny {i v:Int} (hv:l.okV i v) (hi:i+1<l.lev) {m:Nat} (hm:560<m):∀ (n k:Nat) {σ:M} {g:G} {x:Int},cntE l g i true<=n->n<k->zau l pr σ g->lfirst l m σ i v 1=some (x,σ) ->
  ∃ σ' g',zcn l p i v k m σ x=some σ'/\zau l pr σ' g'/\Raised g g' i (fun s=>g.has s=true/\g.tr s=true/\g.lv s=i/\Jn g i v (g.u s)):=by
 intro n
 induction n with
 | zero =>
  intro k σ g x hc hk h hx
  obtain ⟨k,rfl⟩:∃ q,k=q+1:=⟨k - 1,by omega⟩
  obtain ⟨y,hy,hcase⟩:=h.first1 hl hv hm
  rw [hx] at hy
  have hxy:x=y:=by simp at hy; exact hy
  subst hxy
  rcases hcase with ⟨h0,hn⟩ | ⟨h0,s,hs,hh,ht,hls,hj⟩
  ·exact ⟨σ,g,by rw [zcn,Zn (by simp [h0])],h,⟨Z,Z,Z,Z,fun s hs=>absurd hs.2.2.2 (hn s hs.1 hs.2.1 hs.2.2.1),fun _ _=>Z⟩⟩
  ·have:=zfZ hl (h.rng hl hh).1 hh ht hls; omega
 | succ n ih =>
  intro k σ g x hc hk h hx
  obtain ⟨k,rfl⟩:∃ q,k=q+1:=⟨k - 1,by omega⟩
  obtain ⟨y,hy,hcase⟩:=h.first1 hl hv hm
  rw [hx] at hy
  have hxy:x=y:=by simp at hy; exact hy
  subst hxy
  rcases hcase with ⟨h0,hn⟩ | ⟨h0,s,hs,hh,ht,hls,hj⟩
  ·exact ⟨σ,g,by rw [zcn,Zn (by simp [h0])],h,⟨Z,Z,Z,Z,fun s hs=>absurd hs.2.2.2 (hn s hs.1 hs.2.1 hs.2.2.1),fun _ _=>Z⟩⟩
  ·obtain ⟨σ1,e1,h1⟩:=h.treeUp hl hp hh ht (by omega) hm
   rw [hls] at h1
   obtain ⟨x1,hx1,_⟩:=h1.first1 hl hv hm
   have hlt:=zfZ hl (h.rng hl hh).1 hh ht hls
   obtain ⟨σ2,g2,e2,h2,hR⟩:=ih k (by omega) (by omega) h1 hx1
   refine ⟨σ2,g2,?_,h2,(hR.step hh hls ?_).iff hl fun q=>?_⟩
   ·rw [zcn,Zp h0,hs,e1,Option.bind_some,hx1,Option.bind_some]; exact e2
   ·intro hq; have:=hq.2.2.1; unfold G.lift updI at this; simp at this; omega
   ·have hjn:∀ {a b},Jn (g.lift s (i+1)) i a b↔Jn g i a b:=fun {a b}=>(Raised.lift hl hh hls).jn hl (Int.le_refl _)
    by_cases hqs:q=s
    ·subst hqs; exact ⟨fun _=>⟨hh,ht,hls,hj⟩,fun _=>.inr Z⟩
    ·rw [hjn]
     have:(g.lift s (i+1)).lv q=g.lv q:=by unfold G.lift updI; dsimp only; rw [Zn hqs]
     rw [this]
     exact ⟨fun hq=>hq.resolve_right hqs,fun hq=>.inl hq⟩
theorem zau.trees (h:zau l pr σ g) {i v:Int} (hv:l.okV i v) (hi:i+1<l.lev) {k:Nat} (hk:560<k) :
  ∃ σ' g',Go.Tm.trees l p k σ i v=some σ'/\zau l pr σ' g'/\Raised g g' i (fun s=>g.has s=true/\g.tr s=true/\g.lv s=i/\Jn g i v (g.u s)):=by
 obtain ⟨x,hx,_⟩:=h.first1 hl hv hk
 obtain ⟨σ',g',e,h',hR⟩:=zny hl hp hv hi hk (cntE l g i true) k (Nat.le_refl _) (by have:=zpW hl (g:=g) (i:=i) (t:=true); omega) h hx
 exact ⟨σ',g',by unfold Go.Tm.trees; rw [hx,Option.bind_some]; exact e,h',hR⟩
omit hp
def zA7 (g:G) (i v:Int) (r:Int×Bool):Prop :=
 (r=(0,false)/\∀ s,g.has s=true->g.tr s=false->g.lv s=i->¬Jn g i v (g.u s)/\¬Jn g i v (g.v s)) \/
 (r.2=true/\g.has r.1=true/\g.tr r.1=false/\g.lv r.1=i/\¬Jn g i (g.u r.1) (g.v r.1)/\(Jn g i v (g.u r.1)\/Jn g i v (g.v r.1)))
theorem zqn {i v:Int} (hv:l.okV i v) (hi:i+1<l.lev) {m:Nat} (hm:560<m):∀ (n k:Nat) {σ:M} {g:G} {x:Int},cntE l g i false<=n->n<k->zau l pr σ g->lfirst l m σ i v 0=some (x,σ) ->
  ∃ r σ' g' C,zde l i v k m σ x=some (r,σ')/\zau l pr σ' g'/\Raised g g' i C/\(∀ s,C s->g.tr s=false/\Jn g i v (g.u s)/\Jn g i v (g.v s))/\zA7 g' i v r:=by
 intro n
 induction n with
 | zero =>
  intro k σ g x hc hk h hx
  obtain ⟨k,rfl⟩:∃ q,k=q+1:=⟨k - 1,by omega⟩
  obtain ⟨y,hy,hcase⟩:=h.first0 hl hv hm
  rw [hx] at hy
  have hxy:x=y:=by simp at hy; exact hy
  subst hxy
  rcases hcase with ⟨h0,hn⟩ | ⟨h0,w,s,hw,hs,hh,ht,hls,huv,hj⟩
  ·exact ⟨_,σ,g,fun _=>False,by rw [zde,Zn (by simp [h0])],h,⟨Z,Z,Z,Z,fun s hs=>hs.elim,fun _ _=>Z⟩,fun s hs=>hs.elim,.inl ⟨Z,hn⟩⟩
  ·have:=zfZ hl (h.rng hl hh).1 hh ht hls; omega
 | succ n ih =>
  intro k σ g x hc hk h hx
  obtain ⟨k,rfl⟩:∃ q,k=q+1:=⟨k - 1,by omega⟩
  obtain ⟨y,hy,hcase⟩:=h.first0 hl hv hm
  rw [hx] at hy
  have hxy:x=y:=by simp at hy; exact hy
  subst hxy
  rcases hcase with ⟨h0,hn⟩ | ⟨h0,w,s,hw,hs,hh,ht,hls,huv,hj⟩
  ·exact ⟨_,σ,g,fun _=>False,by rw [zde,Zn (by simp [h0])],h,⟨Z,Z,Z,Z,fun s hs=>hs.elim,fun _ _=>Z⟩,fun s hs=>hs.elim,.inl ⟨Z,hn⟩⟩
  ·have hr:=h.rng hl hh
   have hu:l.okV i (g.u s):=⟨hv.1,by omega⟩
   have hv2:l.okV i (g.v s):=⟨hv.1,by omega⟩
   obtain ⟨b,e1,hb⟩:=h.same hl hu hv2 hm
   have hge:=h.eget hl hh
   have one:Jn g i v (g.u s)\/Jn g i v (g.v s):=by rcases huv with e | e<;>rw [<-e] at hj; exact .inl hj; exact .inr hj
   have start:zde l i v (k+1) m σ x=(Go.Tm.same l m σ i (g.u s) (g.v s)).bind fun b=>if b.1 then (Go.Tm.plain l m b.2 s).bind fun σ2=>(lfirst l m σ2 i v 0).bind fun r=>zde l i v k m r.2 r.1 else some ((s,true),b.2):=by
    rw [zde,Zp h0]
    dsimp only
    rw [hw,hs]
    have:(zf5 l σ w i:M)=σ:=rfl
    rw [this,hge]
    rfl
   rw [start,e1,Option.bind_some]
   dsimp only
   cases b with
   | false =>
    rw [Zn (by decide)]
    exact ⟨_,σ,g,fun _=>False,rfl,h,⟨rfl,rfl,rfl,rfl,fun s hs=>hs.elim,fun _ _=>rfl⟩,fun s hs=>hs.elim,.inr ⟨rfl,hh,ht,hls,(fun hc=>by have:=hb.2 hc; cases this),one⟩⟩
   | true =>
    rw [Zp Z]
    have hjuv:=hb.1 Z
    have both:Jn g i v (g.u s)/\Jn g i v (g.v s):=by
     rcases one with q | q
     ·exact ⟨q,Conn.trans q hjuv⟩
     ·exact ⟨Conn.trans q hjuv.symm,q⟩
    obtain ⟨σ1,e2,h1⟩:=h.plain hl hh ht (by omega) hm
    rw [hls] at h1
    obtain ⟨x1,hx1,_⟩:=h1.first0 hl hv hm
    have hlt:=zfZ hl hr.1 hh ht hls
    obtain ⟨r,σ2,g2,C,e3,h2,hR,hC,hFd⟩:=ih k (by omega) (by omega) h1 hx1
    have hjn:∀ {a b},Jn (g.lift s (i+1)) i a b↔Jn g i a b:=fun {a b}=>(Raised.lift hl hh hls).jn hl (Int.le_refl _)
    have hCs:¬C s:=fun hc=>by have:=(hR.up s hc).2.1; unfold G.lift updI at this; simp at this; omega
    refine ⟨r,σ2,g2,_,?_,h2,hR.step hh hls hCs,fun q hq=>?_,hFd⟩
    ·rw [e2,Option.bind_some,hx1,Option.bind_some]; exact e3
    ·rcases hq with hq | rfl
     ·obtain ⟨q1,q2,q3⟩:=hC q hq
      exact ⟨q1,hjn.1 q2,hjn.1 q3⟩
     ·exact ⟨ht,both⟩
theorem zau.seek (h:zau l pr σ g) {i v:Int} (hv:l.okV i v) (hi:i+1<l.lev) {k:Nat} (hk:560<k) :
  ∃ r σ' g' C,Go.Tm.seek l k σ i v=some (r,σ')/\zau l pr σ' g'/\Raised g g' i C/\(∀ s,C s->g.tr s=false/\Jn g i v (g.u s)/\Jn g i v (g.v s))/\zA7 g' i v r:=by
 obtain ⟨x,hx,_⟩:=h.first0 hl hv hk
 obtain ⟨r,σ',g',C,e,h'⟩:=zqn hl hv hi hk (cntE l g i false) k (Nat.le_refl _) (by have:=zpW hl (g:=g) (i:=i) (t:=false); omega) h hx
 exact ⟨r,σ',g',C,by unfold Go.Tm.seek; rw [hx,Option.bind_some]; exact e,h'⟩
theorem zxi {i:Int} (hi:0<=i/\i<l.lev):∀ (r:List Int),r.Nodup->(∀ x∈r,l.nd x/\(l.node x).1.level=i)->vts l r=((List.range l.V).countP fun w:Nat=>decide (l.vertex i w∈r):Nat):=by
 intro r
 induction r with
 | nil=>intro _ _; simp [vts]
 | cons x r ih =>
  intro hnd hx
  obtain ⟨n1,n2⟩:=List.nodup_cons.1 hnd
  obtain ⟨nx,lx⟩:=hx x (by simp)
  have ih':=ih n2 fun y hy=>hx y (by simp [hy])
  have okW:∀ w:Nat,w∈List.range l.V->l.okV i w:=fun w hw=>⟨hi,by have:=List.mem_range.1 hw; omega⟩
  rcases zex hl nx with ⟨j,w,hw,rfl⟩ | ⟨s,j,d,hs,rfl⟩
  ·rw [(zaf hl hw).2.1] at lx
   have hji:j=i:=lx
   subst hji
   have hc:=ze3 (p:=fun w:Nat=>decide (l.vertex j w∈r)) (q:=fun w':Nat=>decide (l.vertex j w'∈l.vertex j w :: r)) (r:=List.range l.V) (s:=w.toNat) (fun y hy hne=>by
    have:l.vertex j y≠l.vertex j w:=fun he=>hne (by have:=((zcW hl (okW y hy) hw).1 he).2; omega)
    simp [this]) (List.mem_range.2 (by have:=hw.2; omega)) (by
    have:((w.toNat:Nat):Int)=w:=by have:=hw.2; omega
    rw [this]; simpa using n1) (by
    have:((w.toNat:Nat):Int)=w:=by have:=hw.2; omega
    rw [this]; simp) List.nodup_range
   rw [hc,vts,ih',(zaf hl hw).2.1]
   simp; omega
  ·rw [vts,(zay hl hs).2,ih']
   simp only [if_true,Int.zero_add]
   have:(List.range l.V).countP (fun w:Nat=>decide (l.vertex i w∈r))=(List.range l.V).countP (fun w:Nat=>decide (l.vertex i w∈l.arc s j d :: r)):=List.countP_congr fun y hy=>by
    have:=zaN hl (okW y hy) hs
    simp [this]
   rw [this]
open Classical in
noncomputable def nv (l:Lay) (g:G) (i u:Int):Nat:=(List.range l.V).countP fun w:Nat=>decide (Jn g i u w)
open Classical in
theorem zau.count (h:zau l pr σ g) {i u:Int} (hu:l.okV i u) {k:Nat} (hk:560<k):Go.Tm.count l k σ i u=some (((nv l g i u:Nat):Int),σ):=by
 obtain ⟨F,mk,L,h⟩:=h
 have hF:=h.lm.forest
 have hT:=h.tours i hu.1
 have nu:=(zaf hl hu).1
 rw [hF.count hl hu hk,zxi hl hu.1 _ (hF.nodup _ nu) fun x hx=>⟨(hF.rep _ nu).nd x hx,hT.lev _ nu (by rw [(zaf hl hu).2.1]) x hx⟩]
 unfold nv
 have:(List.range l.V).countP (fun w:Nat=>decide (l.vertex i w∈(F (l.vertex i u)).list))=(List.range l.V).countP (fun w:Nat=>decide (Jn g i u w)):=List.countP_congr fun w hw=>by
  have hwv:l.okV i w:=⟨hu.1,by have:=List.mem_range.1 hw; omega⟩
  have:(l.vertex i w∈(F (l.vertex i u)).list)↔Jn g i u w:=by
   rw [hF.mem_iff hl (zaf hl hwv).1 nu]
   exact ⟨fun he=>(hT.row_iff hl hu.1 hu hwv).1 he.symm,fun he=>((hT.row_iff hl hu.1 hu hwv).2 he).symm⟩
  simp only [decide_eq_true_eq]; exact this
 rw [this]
theorem zau.smaller (h:zau l pr σ g) {i u v:Int} (hu:l.okV i u) (hv:l.okV i v) {k:Nat} (hk:560<k):Go.Tm.smaller l k σ i u v=some (if nv l g i v<nv l g i u then v else u,σ):=by
 unfold Go.Tm.smaller
 rw [h.count hl hv hk,Option.bind_some]
 dsimp only
 rw [h.count hl hu hk,Option.bind_some]
 dsimp only
 by_cases hc:nv l g i v<nv l g i u
 ·rw [Zp hc,Zp (by omega)]
 ·rw [Zn hc,Zn (by omega)]
end
end Go.Tm
namespace Go.Tm
open Eng
def CN (f:Nat->Int×Int) (n:Nat) (u v:Int):Prop:=Conn (fun k=>0<=k/\k<(n:Int)/\0<=(f k.toNat).1) (fun k=>(f k.toNat).1) (fun k=>(f k.toNat).2) u v
open Classical in
noncomputable def zsG (f:Nat->Int×Int) (n:Nat) (u v:Int):Bool:=decide (CN f n u v)
abbrev mem (s:Array Int) (x:Int):Prop:=∃ j,j<s.size/\s[j]! =x
section
variable {f:Nat->Int×Int} {n:Nat} {u:Int} {i:Nat} {s:Array Int}
variable {x:Int} {k:Nat}
end
open MemLike Eng
def encI (x:Int):List Value:=[.int .i64 x]
theorem zdA (x:Int):(encI x).length=1/\∀ u∈encI x,u.oneCell'=true:=⟨rfl,by intro u hu; simp only [encI,List.mem_cons,List.not_mem_nil,or_false] at hu; subst hu; rfl⟩
structure EdR where
 slot:Int
 u:Int
 v:Int
 lv:Int
 tr:Bool
 deriving Inhabited,DecidableEq
def encE (x:EdR):List Value:=[.int .i64 x.slot,.int .i64 x.u,.int .i64 x.v,.int .i64 x.lv,.bool x.tr]
theorem zzw (x:EdR):(encE x).length=5/\ones (encE x)=true:=⟨Z,Z⟩
theorem zl4 (x:EdR):(encE x).length=5/\∀ u∈encE x,u.oneCell'=true:=⟨rfl,by intro u hu; simp only [encE,List.mem_cons,List.not_mem_nil,or_false] at hu; rcases hu with rfl | rfl | rfl | rfl | rfl<;>rfl⟩
theorem zxW {α:Type} [Inhabited α] {enc:α->List Value} {m e b:Nat} {x:α} (hx:(enc x).length=m) (h:HF) (hp:pt b (.cells (enc x).toArray e) h):ownA enc m e (.slice (some ⟨b,0,none⟩) 1 1) #[x] h:=by
 refine .inr ⟨b,1,(enc x).toArray,Z,hp,Nat.le_refl _,by decide,by simp [hx],fun i hi=>?_⟩
 obtain rfl:i=0:=by simpa using hi
 exact zfR hx fun j hj=>by simp
abbrev P1:Pen:=⟨1,0⟩
def rngE (f:Nat->EdR) (n:Nat):Array EdR:=((List.range n).map f).toArray
theorem zbR (f:Nat->EdR) (n:Nat):(rngE f n).size=n:=by simp [rngE]
theorem zg0 (f:Nat->EdR) {n i:Nat} (h:i<n):(rngE f n)[i]! =f i:=by
 have hs:i<(rngE f n).size:=by rw [zbR]; exact h
 rw [getElem!_pos _ i hs]; simp [rngE]
def cutA (d:Array EdR) (i:Nat):Array EdR:=rngE (fun j=>d[j]!) i++rngE (fun j=>d[i+1+j]!) (d.size - (i+1))
theorem zoW {ad:Addr} {i size cap:Nat}:∃ a',slA (some ad) i size cap=some a':=by
 unfold slA; split
 ·exact ⟨_,Z⟩
 ·exact ⟨_,Z⟩
section
variable {l:Lay} (hl:l.Ok) {p:Pen} (hp:PenOk p) {pr:Int->Int} {σ σ':M} {g:G}
def mk0:Int->Int:=fun _=>0
def G0:G:=⟨fun _=>false,mk0,mk0,mk0,fun _=>false⟩
theorem zhR {N:Nat} (j:Int):get (Array.replicate N 0:M) j=0:=by
 rw [zf3]
 split
 ·rename_i h
  have:j.toNat<N:=by have:=h.2; simp at this; omega
  simp [this]
 ·rfl
include hl
def encU (x:Int):List Value:=[.int .u64 x]
theorem zpr:mkOk mk0:=fun _=>by unfold mk0; decide
include hp
omit hp
end
theorem get!_app {α:Type} [Inhabited α] {a b:Array α} {j:Nat} (h:j<a.size):(a++b)[j]! =a[j]!:=by
 rw [getElem!_pos (a++b) j (by simp; omega),getElem!_pos a j h,Array.getElem_append_left h]
theorem get!_app2 {α:Type} [Inhabited α] {a b:Array α} {j:Nat} (h:j<b.size):(a++b)[a.size+j]! =b[j]!:=by
 rw [getElem!_pos (a++b) (a.size+j) (by simp; omega),getElem!_pos b j h,Array.getElem_append_right (by omega)]
 simp
section
variable {l:Lay} (hl:l.Ok) {p:Pen} (hp:PenOk p) {pr:Int->Int} {σ σ':M} {g:G} {d:Array EdR}
include hl
theorem zjX {i:Nat} (hi:i<d.size):(cutA d i).size=d.size - 1:=by unfold cutA; simp [zbR]; omega
theorem zgl {i j:Nat} (hi:i<d.size) (hj:j<d.size - 1):(cutA d i)[j]! =if j<i then d[j]! else d[j+1]!:=by
 unfold cutA
 by_cases h:j<i
 ·rw [Zp h,get!_app (by rw [zbR]; exact h),zg0 _ h]
 ·rw [Zn h]
  have e:j=(rngE (fun j=>d[j]!) i).size+(j - i):=by rw [zbR]; omega
  rw [e,get!_app2 (by rw [zbR]; omega),zg0 _ (by omega),zbR]
  congr 1; omega
end
def okL (V S T:Int):Prop:=1<=V/\V<=16/\0<=S/\S<=48/\1<=T/\T<=8
instance (V S T:Int):Decidable (okL V S T):=by unfold okL; infer_instance
theorem zx0 {V S T:Int} (h:okL V S T):∃ l:Lay,l.Ok/\V=l.V/\S=l.S/\T=l.T:=by
 unfold okL at h
 exact ⟨⟨V.toNat,S.toNat,T.toNat⟩,⟨by dsimp only; omega,by dsimp only; omega,by dsimp only; omega,by dsimp only; omega,by dsimp only; omega⟩,by dsimp only; omega,by dsimp only; omega,by dsimp only; omega⟩
end Go.Tm
