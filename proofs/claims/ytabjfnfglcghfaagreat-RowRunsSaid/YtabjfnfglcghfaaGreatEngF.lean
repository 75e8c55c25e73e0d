import Derived.Test.YtabjfnfglcghfaaGreatEngE
import Derived.Sort.Grow
set_option linter.unusedVariables false
set_option linter.unusedSimpArgs false
set_option linter.unusedSectionVars false
namespace Go.Tm
open MemLike Eng
set_option linter.unusedSectionVars false
set_option linter.unusedVariables false
def setD (gd:Nat→Array Int) (i:Nat) (d:Array Int):Nat→Array Int:=fun j=>if j=i then d else gd j
structure GvI (l:Lay) (σ:M) (rt:Int→Int) (i:Int) (d:Array Int):Prop where
 sz:d.size≤2
 rt_:∀ k,k<d.size→∃ v:Int,(0≤v∧v<l.V)∧d[k]! =rt (l.vertex 0 v)
 lk:∀ k,k<d.size→gf l σ d[k]! 0=i
 ne:∀ k m,k<m→m<d.size→d[k]!≠d[m]!
structure AP (l:Lay) (σ:M) (par rt:Int→Int) (n:Nat) (fe:Nat→Op2) (ts:Nat→TakeS) (gos:Array (Option Nat)) (gd:Nat→Array Int) (B:Int):Prop where
 sz:σ.size=l.cells
 seen:SeenF l σ par rt
 tk:∀ i,i<n→gos[i]! =none→TInv l σ par rt (ts i)
 gv:∀ i b,i<n→gos[i]! =some b→GvI l σ rt ((i:Int)+1) (gd i)
 th:∀ i,i<n→(ts i).thread=(i:Int)+1∧(ts i).u=(fe i).u∧(ts i).v=(fe i).v
 w:∀ i,i<n→((ts i).want.size≤2∧(ts i).held.size≤2)∧(ts i).tries≤B
 gz:gos.size=n
 hn:n≤l.T
section
variable {l:Lay} (hl:l.Ok) {σ σ':M} {pr par rt:Int→Int} {t t':TakeS} {n i j k:Nat} {fe:Nat→Op2} {ts:Nat→TakeS} {gos:Array (Option Nat)} {gd:Nat→Array Int} {B:Int} {g:G} {d:Array Int} {b:Nat}
include hl
theorem TInv.lkSame (h:TInv l σ par rt t) (hS:SeenF l σ par rt) (hA:AgL l σ σ') (hlk:∀ k,k<t.held.size→gf l σ' t.held[k]! 0=gf l σ t.held[k]! 0):TInv l σ' par rt t:=by
 refine ⟨h.uv,h.th,h.at_,⟨h.held.le,h.held.eq,fun k hk=>?_⟩,h.h0,h.h1,h.h2,h.h3,fun ha=>?_,h.tr⟩
 ·show gf l σ' _ 0=_
  rw [hlk k hk]; exact h.held.lk k hk
 ·rcases h.cl ha with ⟨w,hg⟩ | ⟨w,f,hg⟩
  ·exact .inl ⟨w,(hA.alike hl).cgo hS hg⟩
  ·exact .inr ⟨w,f,(hA.alike hl).cgo hS hg⟩
theorem zi1 (h:TInv l σ par rt t):∀ k m,k<m→m<t.held.size→t.held[k]!≠t.held[m]!:=fun k m hk hm e=>by
 have hs2:(zaq (rt (l.vertex 0 t.u)) (rt (l.vertex 0 t.v))).size≤2:=ze9
 have hle:=h.held.le
 obtain ⟨rfl,rfl⟩:k=0∧m=1:=by omega
 rw [h.held.eq 0 (by omega),h.held.eq 1 hm] at e
 have:=zgs (a:=rt (l.vertex 0 t.u)) (b:=rt (l.vertex 0 t.v)) (by omega)
 omega
theorem AP.start (hK:Lk0 l pr σ par rt g) (hG:GL l σ par rt n (ts0 l fe) (fun _=>false)) (hz:gos.size=n) (hg:∀ j,j<n→gos[j]! =none):AP l σ par rt n fe (ts0 l fe) gos gd 1 :=
 ⟨hK.size,hK.seen,fun i hi _=>hG.ti i hi,fun i b hi h=>(by rw [hg i hi] at h; cases h),fun i hi=>⟨hG.th i hi,rfl,rfl⟩,fun i hi=>⟨⟨(by show (0:Nat)≤2; decide),(by show (0:Nat)≤2; decide)⟩,(by show (1:Int)≤1; decide)⟩,hz,hG.hn⟩
theorem AP.others (h:AP l σ par rt n fe ts gos gd B) (hA:AgL l σ σ') (hc:∀ x,l.nd x→gf l σ' x 0≠gf l σ x 0→gf l σ x 0=0∨gf l σ x 0=(i:Int)+1):(∀ j,j<n→j≠i→gos[j]! =none→TInv l σ' par rt (ts j))∧(∀ j b,j<n→j≠i→gos[j]! =some b→GvI l σ' rt ((j:Int)+1) (gd j))∧SeenF l σ' par rt∧σ'.size=l.cells:=by
 have key:∀ j,j≠i→∀ x,l.nd x→gf l σ x 0=(j:Int)+1→gf l σ' x 0=gf l σ x 0:=fun j hj x hx e=>Classical.byContradiction fun hne=>by
  rcases hc x hx hne with q | q<;>omega
 refine ⟨fun j hj hne hg=>?_,fun j b hj hne hg=>?_,(hA.alike hl).seen h.seen,by rw [hA.sz]; exact h.sz⟩
 ·have hT:=h.tk j hj hg
  refine hT.lkSame hl h.seen hA fun k hk=>key j hne _ ?_ ?_
  ·obtain ⟨v,hv,e⟩:=zhn hl h.seen hT hk
   rw [e]; exact (zc3 hl h.seen hv).1
  ·have:=hT.held.lk k hk
   rw [(h.th j hj).1] at this; exact this
 ·have hV:=h.gv j b hj hg
  refine ⟨hV.sz,hV.rt_,fun k hk=>?_,hV.ne⟩
  rw [key j hne _ ?_ (hV.lk k hk)]
  ·exact hV.lk k hk
  ·obtain ⟨v,hv,e⟩:=hV.rt_ k hk
   rw [e]; exact (zc3 hl h.seen hv).1
theorem AP.step (h:AP l σ par rt n fe ts gos gd B) (hi:i<n) (hg:gos[i]! =none) (hB:B≤999999) (e:(ts i).stp l σ=(t',σ')):AP l σ' par rt n fe (setT ts i t') gos gd (B+1):=by
 have hT:=h.tk i hi hg
 have hth:=h.th i hi
 have hw:=h.w i hi
 obtain ⟨hA,hc⟩:=TInv.own hl h.seen h.sz hT (by omega)
 rw [e] at hA hc
 have hc2:∀ x,l.nd x→gf l σ' x 0≠gf l σ x 0→gf l σ x 0=0∨gf l σ x 0=(i:Int)+1:=fun x hx hne=>by
  rcases (hc _ hne).2 with ⟨q,_⟩ | ⟨q,_⟩
  ·exact .inl q
  ·exact .inr (by rw [←hth.1]; exact q)
 obtain ⟨o1,o2,o3,o4⟩:=h.others hl hA hc2
 have hself:TInv l σ' par rt t'∧t'.thread=(ts i).thread∧t'.u=(ts i).u∧t'.v=(ts i).v∧t'.tries≤(ts i).tries+1:=by
  have hat:=hT.at_
  have cases5:(ts i).at_=0∨(ts i).at_=1∨(ts i).at_=2∨(ts i).at_=3∨(ts i).at_=4:=by omega
  rcases cases5 with ha | ha | ha | ha | ha
  ·obtain ⟨t2,e2,i1,i2,i3,i4,i5,i6,_⟩:=hT.step0 hl h.seen ha
   obtain ⟨rfl,rfl⟩:=Prod.mk.inj (e.symm.trans e2)
   exact ⟨i1,i2,i3,i4,by omega⟩
  ·obtain ⟨x,hx,hxv,_,⟨h0,t2,e2,i1,i2,i3,i4,i5,i6,_⟩ | ⟨_,t2,e2,i1,i2,i3,i4,i5,i6,_⟩⟩:=hT.step1 hl h.seen h.sz ha (by omega)
   ·obtain ⟨rfl,rfl⟩:=Prod.mk.inj (e.symm.trans e2)
    exact ⟨i1,i2,i3,i4,by omega⟩
   ·obtain ⟨rfl,rfl⟩:=Prod.mk.inj (e.symm.trans e2)
    exact ⟨i1,i2,i3,i4,by omega⟩
  ·obtain ⟨t2,e2,i1,i2,i3,i4,i5,i6,_⟩:=hT.step2 hl h.seen ha
   obtain ⟨rfl,rfl⟩:=Prod.mk.inj (e.symm.trans e2)
   exact ⟨i1,i2,i3,i4,by omega⟩
  ·obtain ⟨x,t2,hx,hxv,_,hlk,e2,i1,i2,i3,i4,i5,i6,_⟩:=hT.step3 hl h.seen h.sz ha (by omega)
   obtain ⟨rfl,rfl⟩:=Prod.mk.inj (e.symm.trans e2)
   exact ⟨i1,i2,i3,i4,by omega⟩
  ·have e2:=TInv.step4 (l:=l) (σ:=σ) hl ha
   obtain ⟨rfl,rfl⟩:=Prod.mk.inj (e.symm.trans e2)
   exact ⟨hT,rfl,rfl,rfl,by omega⟩
 obtain ⟨s1,s2,s3,s4,s5⟩:=hself
 have hwz:=TakeS.stp_wz (l:=l) (σ:=σ) hw.1.1
 rw [e] at hwz
 have hhz:t'.held.size≤2:=by have:=s1.held.le; have:=ze9 (a:=rt (l.vertex 0 t'.u)) (b:=rt (l.vertex 0 t'.v)); omega
 refine ⟨o4,o3,fun j hj hgj=>?_,fun j b hj hgj=>?_,fun j hj=>?_,fun j hj=>?_,h.gz,h.hn⟩
 ·by_cases q:j=i
  ·subst q; rw [zar]; exact s1
  ·rw [zaG q]; exact o1 j hj q hgj
 ·by_cases q:j=i
  ·subst q; rw [hg] at hgj; cases hgj
  ·exact o2 j b hj q hgj
 ·by_cases q:j=i
  ·subst q; rw [zar,s2,s3,s4]; exact hth
  ·rw [zaG q]; exact h.th j hj
 ·by_cases q:j=i
  ·subst q; rw [zar]; exact ⟨⟨hwz,hhz⟩,by omega⟩
  ·rw [zaG q]; exact ⟨(h.w j hj).1,by have:=(h.w j hj).2; omega⟩
theorem AP.give (h:AP l σ par rt n fe ts gos gd B) (hi:i<n) (hg:gos[i]! =some b) (hd:0<(gd i).size):AP l (zte l σ (gd i)) par rt n fe ts gos (setD gd i ((gd i).extract 1 (gd i).size)) B∧0≤l.field (gd i)[0]! 0∧l.field (gd i)[0]! 0<σ.size:=by
 have hV:=h.gv i b hi hg
 obtain ⟨v,hv,ev⟩:=hV.rt_ 0 hd
 have hx:l.nd (gd i)[0]!:=by rw [ev]; exact (zc3 hl h.seen hv).1
 have hb:=zaS hl hx (f:=0) (by decide)
 have eM:zte l σ (gd i)=st σ (l.field (gd i)[0]! 0) 0:=by unfold zte; rw [if_neg (by omega)]
 have hget:∀ x,l.nd x→gf l (st σ (l.field (gd i)[0]! 0) 0) x 0=if x=(gd i)[0]! then 0 else gf l σ x 0:=fun x hx'=>by
  unfold gf
  rw [za4 hl h.sz hx (by decide) (by decide)]
  by_cases e:x=(gd i)[0]!
  ·rw [if_pos (by rw [e]),if_pos e]
  ·rw [if_neg fun q=>e ((zan hl hx' (by decide) hx (by decide)).1 q).1,if_neg e]
 rw [eM]
 obtain ⟨o1,o2,o3,o4⟩:=h.others hl (i:=i) ((AgL.mk rfl fun _ _=>rfl:AgL l σ σ).st hl hx (v:=0)) fun x hx' hne=>by
  rw [hget x hx'] at hne
  by_cases q:x=(gd i)[0]!
  ·right; rw [q]; exact hV.lk 0 hd
  ·rw [if_neg q] at hne; exact absurd rfl hne
 refine ⟨⟨o4,o3,fun j hj hgj=>?_,fun j c hj hgj=>?_,h.th,h.w,h.gz,h.hn⟩,hb.2.1,by rw [h.sz]; exact hb.2.2⟩
 ·by_cases q:j=i
  ·subst q; rw [hg] at hgj; cases hgj
  ·exact o1 j hj q hgj
 ·by_cases q:j=i
  ·subst q
   unfold setD; rw [if_pos rfl]
   have hs:((gd j).extract 1 (gd j).size).size=(gd j).size - 1:=by rw [Array.size_extract]; omega
   have hget2:∀ k,k<(gd j).size - 1→((gd j).extract 1 (gd j).size)[k]! =(gd j)[1+k]!:=fun k hk=>by
    rw [getElem!_pos _ k (by omega),getElem!_pos _ (1+k) (by omega),Array.getElem_extract]
   refine ⟨by have:=hV.sz; omega,fun k hk=>?_,fun k hk=>?_,fun k m hk hm=>?_⟩
   ·rw [hget2 k (by omega)]; exact hV.rt_ (1+k) (by omega)
   ·rw [hget2 k (by omega)]
    obtain ⟨v2,hv2,e2⟩:=hV.rt_ (1+k) (by omega)
    rw [hget _ (by rw [e2]; exact (zc3 hl h.seen hv2).1),if_neg fun q=>hV.ne 0 (1+k) (by omega) (by omega) q.symm]
    exact hV.lk (1+k) (by omega)
   ·rw [hget2 k (by omega),hget2 m (by omega)]; exact hV.ne (1+k) (1+m) (by omega) (by omega)
  ·unfold setD; rw [if_neg q]; exact o2 j c hj q hgj
omit hl in
theorem zq4 {qs:List (Int×Int)} {x w:Int} (h:mget qs x=some w):(x,w)∈qs:=by
 unfold mget at h
 split at h
 ·rename_i hm
  have hlt:(qs.map (·.1)).idxOf x<qs.length:=by simpa using List.idxOf_lt_length_of_mem hm
  rw [List.getElem?_eq_getElem hlt] at h
  have h1:(qs.map (·.1))[(qs.map (·.1)).idxOf x]'(by simpa using hlt)=x:=List.getElem_idxOf _
  rw [List.getElem_map] at h1
  have h2:qs[(qs.map (·.1)).idxOf x].2=w:=by simpa using h
  have:qs[(qs.map (·.1)).idxOf x]=(x,w):=Prod.ext h1 h2
  rw [←this]; exact List.getElem_mem hlt
 ·cases h
omit hl in
theorem zq2 {qs:List (Int×Int)} {x w:Int} {p:Int×Int} (h:p∈mput qs x w):p∈qs∨p=(x,w):=by
 unfold mput at h
 split at h
 ·exact (List.mem_or_eq_of_mem_set h)
 ·rcases List.mem_append.1 h with h | h
  ·exact .inl h
  ·exact .inr (by simpa using h)
def MH (ts:Nat→TakeS) (gos:Array (Option Nat)) (i k:Nat) (qs:List (Int×Int)):Prop:=∀ p∈qs,∃ j m,(j<i∨j=i∧m<k)∧gos[j]! =none∧m<(ts j).held.size∧p.1=(ts j).held[m]!∧p.2=(j:Int)+1
omit hl in
theorem MH.row {qs:List (Int×Int)} (h:MH ts gos i k qs):MH ts gos (i+1) 0 qs:=fun p hp=>by
 obtain ⟨j,m,h1,h2⟩:=h p hp
 exact ⟨j,m,by omega,h2⟩
omit hl in
theorem MH.put {qs:List (Int×Int)} (h:MH ts gos i k qs) (hg:gos[i]! =none) (hk:k<(ts i).held.size):MH ts gos i (k+1) (mput qs (ts i).held[k]! ((i:Int)+1)):=fun p hp=>by
 rcases zq2 hp with hp | rfl
 ·obtain ⟨j,m,h1,h2⟩:=h p hp
  exact ⟨j,m,by omega,h2⟩
 ·exact ⟨i,k,by omega,hg,hk,rfl,rfl⟩
theorem MH.none {qs:List (Int×Int)} (h:MH ts gos i k qs) (hA:AP l σ par rt n fe ts gos gd B) (hi:i<n) (hg:gos[i]! =none) (hk:k<(ts i).held.size):(mget qs (ts i).held[k]!).getD 0=0:=by
 cases hm:mget qs (ts i).held[k]! with
 | none=>rfl
 | some w =>
  exfalso
  obtain ⟨j,m,h1,h2,h3,h4,h5⟩:=h _ (zq4 hm)
  have hj:j<n:=by omega
  have hTj:=hA.tk j hj h2
  have hTi:=hA.tk i hi hg
  have a1:=hTj.held.lk m h3
  have a2:=hTi.held.lk k hk
  have h4:(ts i).held[k]! =(ts j).held[m]!:=h4
  rw [←h4,(hA.th j hj).1] at a1
  rw [(hA.th i hi).1] at a2
  have hij:j=i:=by rw [a1] at a2; omega
  subst hij
  exact zi1 hl hTi m k (by omega) hk h4.symm
theorem MH.lock {qs:List (Int×Int)} (h:MH ts gos n k qs) (hA:AP l σ par rt n fe ts gos gd B) (hk:k=0) {p:Int×Int} (hp:p∈qs):get σ (l.field p.1 0)=p.2∧1≤p.2∧p.2≤n:=by
 obtain ⟨j,m,h1,h2,h3,h4,h5⟩:=h p hp
 have hj:j<n:=by omega
 have a1:=(hA.tk j hj h2).held.lk m h3
 rw [(hA.th j hj).1] at a1
 rw [h4,h5]
 exact ⟨a1,by omega,by omega⟩
end
section
variable {l:Lay} (hl:l.Ok) {σ:M} {pr par rt:Int→Int} {t:TakeS} {c:Cnt} {n i:Nat} {fe:Nat→Op2} {ts:Nat→TakeS} {gos:Array (Option Nat)} {gd:Nat→Array Int} {B:Int} {g:G} {b:Nat}
include hl
end
theorem AP.mono {l:Lay} {σ:M} {par rt:Int→Int} {n:Nat} {fe:Nat→Op2} {ts:Nat→TakeS} {gos:Array (Option Nat)} {gd:Nat→Array Int} {B B':Int} (h:AP l σ par rt n fe ts gos gd B) (hB:B≤B'):AP l σ par rt n fe ts gos gd B':=⟨h.sz,h.seen,h.tk,h.gv,h.th,fun i hi=>⟨(h.w i hi).1,by have:=(h.w i hi).2; omega⟩,h.gz,h.hn⟩
end Go.Tm
namespace Go.Tm
open MemLike Eng
set_option linter.unusedVariables false
structure Acc where
 store:Bool
 cell:Int
 val:Int
instance:Inhabited Acc:=⟨⟨false,0,0⟩⟩
def zas (x:Acc):List Value:=[.bool x.store,.int .i64 x.cell,.int .u64 x.val]
theorem zbJ (x:Acc):(zas x).length=3∧∀ u∈zas x,u.oneCell'=true :=
 ⟨rfl,by intro u hu; simp only [zas,List.mem_cons,List.not_mem_nil,or_false] at hu; rcases hu with rfl | rfl | rfl<;>rfl⟩
structure Tr where
 mem:Array UInt64
 row:Array Acc
instance:MemLike Tr where
 get σ i:=get σ.mem i
 ld σ i:=if 0≤i∧i<σ.mem.size then ⟨σ.mem,σ.row++#[⟨false,i,get σ.mem i⟩]⟩ else σ
 st σ i v:=if 0≤i∧i<σ.mem.size then ⟨st σ.mem i v,σ.row++#[⟨true,i,v⟩]⟩ else σ
 rng σ i:=rng σ.mem i
 sz σ:=σ.row.size
 sz_ld σ i:=by split<;>simp
 sz_st σ i v:=by split<;>simp
theorem zrO (σ:Tr) (i:Int):get σ i=get σ.mem i:=rfl
theorem zmO (σ:Tr) (i:Int):ld σ i=if 0≤i∧i<σ.mem.size then ⟨σ.mem,σ.row++#[⟨false,i,get σ.mem i⟩]⟩ else σ:=rfl
theorem zmN (σ:Tr) (i v:Int):st σ i v=if 0≤i∧i<σ.mem.size then ⟨st σ.mem i v,σ.row++#[⟨true,i,v⟩]⟩ else σ:=rfl
theorem zdr {n:Nat} {σ:Tr}:Room n σ↔σ.row.size+n≤137438953471:=Iff.rfl
def zaP (tb ab mb:Nat) (T TA TW TR:TypeId) (σ:Tr):Assn:=ex fun v:Value=>star (pt tb (.cells #[.pointer (some ⟨ab,0,none⟩),v] T)) (star (zam ab mb TA TW σ.mem) (ownA zas 3 TR v σ.row))
section
variable {P:Program} {f:FuncId} {args:List Value} {T TA TW TR:TypeId} {tb ab mb:Nat} {σ:Tr} {Cs:List Assn} {Ψ:Value→List Assn→Prop}
theorem Fn.traceX (h:∀ a g c,(0<σ.row.size→a=some ⟨g,0,none⟩)→σ.row.size≤c →
  Eng.Fn P f args (pt tb (.cells #[.pointer (some ⟨ab,0,none⟩),.slice a σ.row.size c] T) :: zam ab mb TA TW σ.mem :: ownA zas 3 TR (.slice a σ.row.size c) σ.row :: Cs)
   (fun v Bs=>∃ v2 σ' Cs',Bs=pt tb (.cells #[.pointer (some ⟨ab,0,none⟩),v2] T) :: zam ab mb TA TW σ'.mem :: ownA zas 3 TR v2 σ'.row :: Cs'∧Ψ v (zaP tb ab mb T TA TW TR σ' :: Cs'))):Eng.Fn P f args (zaP tb ab mb T TA TW TR σ :: Cs) Ψ:=by
 intro w0 R w hs
 obtain ⟨v,hs1⟩:=Sat.head_ex hs
 have hs2:=(Sat.rot3 hs1.apart2.swap2.apart2)
 obtain ⟨X,hX,_⟩:=Sat.some hs2 (k:=2) (A:=ownA zas 3 TR v σ.row) (by rw [zaJ]; rfl)
 obtain ⟨a,g,c,rfl,q1,q2⟩:=zgA hX
 refine (h a g c q2 q1 w0 R w hs2).mono ?_
 rintro e w' ⟨v,Bs,he,⟨v2,σ',Cs',rfl,hp⟩,hs'⟩
 exact ⟨v,_,he,hp,((Sat.rot3 (Sat.rot3 hs')).join2.swap2.join2).head fun x hx=>⟨v2,hx⟩⟩
end
end Go.Tm
namespace Go.Tm
open MemLike Eng
set_option linter.unusedVariables false
section
variable {S:Type} [MemLike S] (l:Lay) (p:Pen)
def za9:Nat→Array Int
 | 0=>#[]
 | k+1=>if zcz l ((k+1:Nat):Int) then za9 k++#[((k+1:Nat):Int)] else za9 k
def zks (ch:List Int) (σ:S) (x:Int):S :=
 if l.field x 2∈ch then
  let w:=(zaf (get σ (l.field x 2))).1
  let σ1:=ld σ (l.field x 2)
  if w.old=0∨w.new=0 then p.write (ld σ1 (l.field x 1)) (l.field x 1) (IntKind.i64.wrap (pnew σ1 (l.field x 1)+1)) else σ1
 else σ
def zcY (ch:List Int) (d:Array Int):Nat→S→S
 | 0,σ=>σ
 | i+1,σ=>zks l p ch (zcY ch d i σ) d[i]!
def zck (d:Array Int) (but:List Int) (v:Int):Nat→S→S
 | 0,σ=>σ
 | i+1,σ=>let τ:=zck d but v i σ; if d[i]!∈but then τ else st τ (l.field d[i]! 0) v
def cleanC (ch:List Int) (σ:S) (c:Int):S:=if c∈ch then zbj σ c else σ
def cleanW (ch:List Int) (d:Array Int):Nat→S→S
 | 0,σ=>σ
 | i+1,σ=>cleanC ch (cleanC ch (cleanW ch d i σ) (l.field d[i]! 2)) (l.field d[i]! 1)
end
def zdu (row:Array Acc) (c:Int):Nat→Int
 | 0=>0
 | i+1=>if row[i]!.store=true∧row[i]!.cell=c then (i:Int) else zdu row c i
def zbi (row:Array Acc):Nat→Array Int
 | 0=>#[]
 | i+1=>if row[i]!.store then zbi row i++#[row[i]!.cell] else zbi row i
def zdP (row:Array Acc) (c:Int):Nat→List (Int×Int)×List (Int×Int)→List (Int×Int)×List (Int×Int)
 | 0,q=>q
 | i+1,q =>
  let q1:=zdP row c i q
  if row[i]!.store=true∧row[i]!.cell=c then (if (mget q1.1 c).isSome then q1.1 else mput q1.1 c (i:Int),mput q1.2 c (i:Int)) else q1
def zkZ (l:Lay) (row:Array Acc) (point:Nat) (d:Array Int):Nat→List (Int×Int)×List (Int×Int)
 | 0=>([],[])
 | j+1=>zdP row (l.field d[j]! 2) point (zkZ l row point d j)
def zg0 (q:List (Int×Int)×List (Int×Int)) (c:Int) (i:Int):Bool :=
 match mget q.1 c with
 | some a=>decide (a≤i) && decide (i<(mget q.2 c).getD 0)
 | none=>false
def zeb (row:Array Acc) (point:Nat) (q:List (Int×Int)×List (Int×Int)):Nat→Array Acc×Int
 | 0=>(#[],0)
 | i+1 =>
  let r:=zeb row point q i
  (if zg0 q row[i]!.cell i then r.1 else r.1++#[row[i]!],if i=point then (r.1.size:Int) else r.2)
def zm8 (l:Lay) (row:Array Acc) (point:Nat):Array Acc×Int:=zeb row point (zkZ l row point (za9 l l.nodes.toNat) (za9 l l.nodes.toNat).size) row.size
structure PlanS where
 work:Array Acc
 point:Int
 tree:Bool
 roots:Array Int
theorem zlG {d:Array Int} {i:Nat} {v:Int} (h:i<d.size) (e:d[i]! =v):v∈d.toList:=by
 rw [←e,getElem!_pos d i h]; simp
theorem zmF {d:Array Int} {n:Nat} {v:Int} (hn:d.size=n) (h:∀ j,j<n→d[j]!≠v):v∉d.toList:=fun hv=>by
 subst hn
 obtain ⟨i,hi,e⟩:=Array.getElem_of_mem (by simpa using hv:v∈d)
 exact h i hi (by rw [getElem!_pos d i hi]; exact e)
theorem zs4 {d:Array Int} {i:Nat} {v:Int} (h:∀ j,j<i→d[j]!≠v) (h2:d[i]!≠v):∀ j,j<i+1→d[j]!≠v:=fun j hj=>by
 by_cases he:j=i
 ·subst he; exact h2
 ·exact h j (by omega)
theorem ziC {α:Type} [Inhabited α] {d:Array α}:((List.range d.size).map fun i=>d[i]!).toArray=d:=by
 refine Array.ext (by simp) fun i h1 h2=>?_
 rw [List.getElem_toArray,List.getElem_map,List.getElem_range,getElem!_pos d i h2]
theorem bs_lo {d:Array Int} {n m:Nat} {v:Int} (hs:∀ k j,k≤j→j<n→d[k]!≤d[j]!) (hm:m<n) (h:d[m]!<v):∀ k,k<m+1→d[k]!<v:=fun k hk=>Int.lt_of_le_of_lt (hs k m (by omega) hm) h
theorem bs_hi {d:Array Int} {n m:Nat} {v:Int} (hs:∀ k j,k≤j→j<n→d[k]!≤d[j]!) (h:¬d[m]!<v):∀ k,m≤k→k<n→v≤d[k]!:=fun k hk hn=>Int.le_trans (Int.not_lt.1 h) (hs m k hk hn)
theorem shr1 (m:Nat):((m:Nat):Int).fdiv (2 ^ min (Int.toNat 1) IntKind.u64.bits)=((m / 2:Nat):Int):=by
 have e:(2:Int) ^ min (Int.toNat 1) IntKind.u64.bits=2:=rfl
 rw [e,Int.fdiv_eq_ediv_of_nonneg _ (by decide)]
 omega
theorem zvl {d:Array Int} {n i:Nat} {v:Int} (hn:d.size=n) (hi:i<n) (e:d[i]! =v):v∈d.toList:=zlG (by omega) e
theorem zvm {d:Array Int} {n i:Nat} {v:Int} (hn:d.size=n) (h1:∀ k,k<i→d[k]!<v) (h2:∀ k,i≤k→k<n→v≤d[k]!) (hs:∀ k j,k≤j→j<n→d[k]!≤d[j]!) (h:i<n→d[i]!≠v):v∉d.toList :=
 zmF hn fun j hj=>by
  rcases Nat.lt_or_ge j i with hji | hji
  ·exact Int.ne_of_lt (h1 j hji)
  ·have a:=h2 i (Nat.le_refl _) (by omega)
   have b:=hs i j hji hj
   have c:=h (by omega)
   omega
end Go.Tm
namespace Go.Tm
open MemLike Eng
def srt (d:Array Int):Array Int:=(d.toList.mergeSort fun x y=>decide (x≤y)).toArray
theorem zdh (d:Array Int):(srt d).size=d.size:=by simp [srt]
theorem zjG {w0:World} {R A:Assn}:∀ (os:List Obj) {w:World},Sat w0 (lab 0 [A]) R w→Sat w0 (lab 0 [A]) R { w with heap:=w.heap++os.toArray }
 | [],w,h=>by simpa using h
 | o :: os,w,h=>by
  have h1:Sat w0 (lab 0 [A]) R { w with heap:=w.heap.push o }:=(h.alloc 1 o).weaken fun k B hk=>by
   rw [zax,if_neg]
   ·exact hk
   ·rintro rfl
    rw [zaJ] at hk; cases hk
  have h2:=zjG os h1
  have e:w.heap++(o :: os).toArray=w.heap.push o++os.toArray:=by
   apply Array.ext'; simp
  rw [e]; exact h2
theorem zsJ {d:Array Int} {cur:Array Value} (h:d.size≤cur.size) {i:Nat} (hi:i<d.size):(Sort.putCells (Value.int .i64) 0 d cur)[i]?=some (.int .i64 d[i]!):=by
 unfold Sort.putCells
 rw [Array.getElem?_mapIdx,Array.getElem?_eq_getElem (by omega)]
 simp only [Option.map_some,Nat.zero_add,Nat.sub_zero]
 rw [if_pos ⟨Nat.zero_le _,hi⟩]
theorem Fn.sortI {P:Program} {f:FuncId} {e:Nat} {v:Value} {d:Array Int} (hn:d.size<4611686018427387904)
  (hsome:∀ (blk off cap:Nat) (zs:List Int) (w:World),Sort.Holds (Value.int .i64) w blk off zs.toArray→blk<w.heap.size→zs.length<4611686018427387904 →
   Calls P f #[.slice (some ⟨blk,off,none⟩) zs.length cap] w fun e w'=>e=.returned (.tuple #[])∧∃ n os,w'=Sort.grow (Sort.putRow (Value.int .i64) (Sort.ahead w n) blk off (zs.mergeSort fun x y=>decide (x≤y)).toArray) os)
  (hnone:∀ (p:Option Addr) (cap:Nat) (w:World),Calls P f #[.slice p 0 cap] w fun e w'=>e=.returned (.tuple #[])∧w'=w) :
  FnD P f [v] [ownA encI 1 e v d] (.tuple #[]) [ownA encI 1 e v (srt d)]:=by
 intro w0 R w hs
 obtain ⟨X,hX,hto⟩:=Sat.headH hs
 rcases hX with ⟨rfl,h0⟩ | ⟨g,cap,cur,rfl,hg,hc,hm,hcs,hrow⟩
 ·have hd:d=#[]:=Array.eq_empty_of_size_eq_zero h0
  subst hd
  refine (hnone none 0 w).mono ?_
  rintro e' w' ⟨rfl,rfl⟩
  have e0:srt #[]=#[]:=by simp [srt]
  exact ⟨_,_,rfl,⟨rfl,by rw [e0]⟩,hs⟩
 ·have hs2:=hto (pt g (.cells cur e)) hg
  have hb:=hs2.read (k:=0) (by rw [zaJ]; rfl)
  have hlt:g<w.heap.size:=(Array.getElem?_eq_some_iff.1 hb).1
  have hcell:∀ i,i<d.size→cur[i]?=some (.int .i64 d[i]!):=fun i hi=>by
   have h1:=(zcQ (hrow i hi)).2 0 (by decide)
   simpa [encI] using h1
  have hold:Sort.Holds (Value.int .i64) w g 0 d.toList.toArray:=by
   intro j hj
   have hj':j<d.size:=by simpa using hj
   have h1:=hcell j hj'
   refine ⟨?_,by simp [World.frozen?,hb]⟩
   simp [World.cell?,hb,h1]
  have hcall:=hsome g 0 cap d.toList w hold hlt (by simpa using hn)
  rw [Array.length_toList] at hcall
  refine hcall.mono ?_
  rintro e' w' ⟨rfl,n,os,rfl⟩
  refine ⟨_,_,rfl,⟨rfl,rfl⟩,?_⟩
  have h3:=(hs2.put (k:=0) (by rw [zaJ]; rfl) (.cells (Sort.putCells (Value.int .i64) 0 (srt d) cur) e)).drawn (w.drawn+n)
  have hm2:w.heap.modify g (Sort.onCells (Sort.putCells (Value.int .i64) 0 (srt d)))=w.heap.setIfInBounds g (.cells (Sort.putCells (Value.int .i64) 0 (srt d) cur) e):=by
   apply Array.ext_getElem?
   intro i
   rw [Array.getElem?_modify,Array.getElem?_setIfInBounds]
   by_cases hi:g=i
   ·subst hi
    rw [if_pos rfl,if_pos rfl,hb]; simp [hlt,Sort.onCells]
   ·simp [hi]
  have h4:Sat w0 (lab 0 [pt g (.cells (Sort.putCells (Value.int .i64) 0 (srt d) cur) e)]) R { w with heap:=w.heap.setIfInBounds g (.cells (Sort.putCells (Value.int .i64) 0 (srt d) cur) e),drawn:=w.drawn+n }:=h3.weaken fun k B hk=>by
   rw [zaJ] at hk
   match k with
   | 0=>rw [zax,if_pos rfl]; exact hk
   | k+1=>cases hk
  have h5:=zjG os.toList h4
  have h6:Sat w0 (lab 0 [ownA encI 1 e (.slice (some ⟨g,0,none⟩) d.size cap) (srt d)]) R { w with heap:=w.heap.setIfInBounds g (.cells (Sort.putCells (Value.int .i64) 0 (srt d) cur) e)++os.toList.toArray,drawn:=w.drawn+n } :=
   Sat.head (fun x hx=>.inr ⟨g,cap,_,by rw [zdh],hx,by rw [zdh]; exact hc,hm,by simp [Sort.putCells,hcs],fun i hi=>zeZ rfl fun j hj=>by
    obtain rfl:j=0:=by omega
    rw [Nat.mul_one,Nat.add_zero,zsJ (by rw [zdh]; omega) hi]; rfl⟩) h5
  unfold srt at hm2 h6 ⊢
  simpa [Sort.grow,Sort.putRow,Sort.mapBlock,Sort.ahead,hm2] using h6
theorem zkA {row:Array Acc} {i:Nat} (h:row[i]!.store=true):zbi row i++#[row[i]!.cell]=zbi row (i+1):=by rw [zbi,if_pos h]
theorem zmQ {row:Array Acc} {i:Nat} (h:row[i]!.store=false):zbi row i=zbi row (i+1):=by rw [zbi,if_neg (by rw [h]; decide)]
theorem zdx (row:Array Acc):∀ i,(zbi row i).size≤i
 | 0=>Nat.le_refl _
 | i+1=>by
  have:=zdx row i
  rw [zbi]
  split
  ·simp; omega
  ·omega
theorem zmU {l:Lay} {k:Nat} (h:(l.node ((k+1:Nat):Int)).1.level=0):za9 l k++#[((k+1:Nat):Int)]=za9 l (k+1):=by rw [za9,if_pos (show zcz l ((k+1:Nat):Int)=true from decide_eq_true h)]
theorem znN {l:Lay} {k:Nat} (h:¬(l.node ((k+1:Nat):Int)).1.level=0):za9 l k=za9 l (k+1):=by rw [za9,if_neg (fun hc:zcz l ((k+1:Nat):Int)=true=>h (of_decide_eq_true hc))]
theorem zc0 (l:Lay):∀ k,(za9 l k).size≤k
 | 0=>Nat.le_refl _
 | k+1=>by
  have:=zc0 l k
  rw [za9]
  split
  ·simp; omega
  ·omega
def zeI (T:TypeId) (wb tb mt:Nat) (hv:Value) (l:Lay) (p:Pen) (u v:Int):Assn:=pt wb (.cells #[.pointer (some ⟨tb,0,none⟩),.int .i64 l.V,.int .i64 l.S,.int .i64 l.T,.int .i64 p.thread,.int .i64 p.tag,
 .int .i64 l.V,.int .i64 l.S,.int .i64 l.T,.iface mt (.pointer (some ⟨tb,0,none⟩)),.int .i64 p.thread,.int .i64 p.tag,.int .i64 l.V,.int .i64 l.S,.int .i64 l.T,.iface mt (.pointer (some ⟨tb,0,none⟩)),hv,.int .i64 u,.int .i64 v] T)
def chgL (row:Array Acc):List Int:=cpt (srt (zbi row row.size)) (zbi row row.size).size
end Go.Tm
namespace Go.Tm
open MemLike Eng
set_option linter.unusedVariables false
section
variable {S:Type} [MemLike S] {l:Lay} {p:Pen} {σ:S} {n:Nat}
theorem zkY {c:Int} (h:Room (n+2) σ):Room n (zbj σ c):=by
 unfold zbj
 split
 ·split
  ·exact st_f (ld_f h)
  ·exact ld_f (h.le (by omega))
 ·exact ld_f (h.le (by omega))
theorem zhb {tag:Int} {dn:Bool} (h:Room (n+1) σ):Room n (za6 l p σ tag dn):=by
 unfold za6
 split
 ·exact st_f h
 ·exact h.le (by omega)
theorem zmM {ch:List Int} {x:Int} (h:Room (n+4) σ):Room n (zks l p ch σ x):=by
 unfold zks
 split
 ·dsimp only
  split
  ·exact zkq (ld_f (ld_f h))
  ·exact ld_f (h.le (by omega))
 ·exact h.le (by omega)
theorem zci {ch:List Int} {d:Array Int}:∀ {k n:Nat},Room (n+4 * k) σ→Room n (zcY l p ch d k σ)
 | 0,_,h=>h
 | k+1,_,h=>zmM (zci (h.le (by omega)))
theorem zdB {d:Array Int} {but:List Int} {v:Int}:∀ {k n:Nat},Room (n+k) σ→Room n (zck l d but v k σ)
 | 0,_,h=>h
 | k+1,n,h=>by
  rw [zck]
  split
  ·exact zdB (h.le (by omega))
  ·exact st_f (zdB (h.le (by omega)))
theorem ze7 {ch:List Int} {c:Int} (h:Room (n+2) σ):Room n (cleanC ch σ c):=by
 unfold cleanC
 split
 ·exact zkY h
 ·exact h.le (by omega)
theorem zd2 {ch:List Int} {d:Array Int}:∀ {k n:Nat},Room (n+4 * k) σ→Room n (cleanW l ch d k σ)
 | 0,_,h=>h
 | k+1,_,h=>ze7 (ze7 (zd2 (h.le (by omega))))
theorem zoC {d:Array Int} {but:List Int} {v:Int} {k:Nat} (h:d[k]!∈but):zck l d but v k σ=zck l d but v (k+1) σ:=by
 conv=>rhs; rw [zck]
 rw [if_pos h]
theorem zq6 {d:Array Int} {but:List Int} {v:Int} {k:Nat} (h:¬d[k]!∈but):st (zck l d but v k σ) (l.field d[k]! 0) v=zck l d but v (k+1) σ:=by
 conv=>rhs; rw [zck]
 rw [if_neg h]
theorem znD {ch:List Int} {d:Array Int} {k:Nat} (h:¬l.field d[k]! 2∈ch):zcY l p ch d k σ=zcY l p ch d (k+1) σ:=by
 conv=>rhs; rw [zcY]; unfold zks
 rw [if_neg h]
theorem zir {ch:List Int} {d:Array Int} {k:Nat} (h:l.field d[k]! 2∈ch):zcY l p ch d (k+1) σ =
  (if (zaf (get (zcY l p ch d k σ) (l.field d[k]! 2))).1.old=0∨(zaf (get (zcY l p ch d k σ) (l.field d[k]! 2))).1.new=0 then p.write (ld (ld (zcY l p ch d k σ) (l.field d[k]! 2)) (l.field d[k]! 1)) (l.field d[k]! 1) (IntKind.i64.wrap (pnew (ld (zcY l p ch d k σ) (l.field d[k]! 2)) (l.field d[k]! 1)+1)) else ld (zcY l p ch d k σ) (l.field d[k]! 2)):=by
 conv=>lhs; rw [zcY]; unfold zks
 rw [if_pos h]
theorem zkl {ch:List Int} {c:Int} (h:c∈ch):zbj σ c=cleanC ch σ c:=by unfold cleanC; rw [if_pos h]
theorem zii {ch:List Int} {c:Int} (h:¬c∈ch):σ=cleanC ch σ c:=by unfold cleanC; rw [if_neg h]
end
section
variable {S:Type} [MemLike S] {l:Lay} {σ:S} {n:Nat}
def zih (l:Lay) (ch:List Int) (d:Array Int) (k:Nat) (σ:S):Nat→S
 | 0=>cleanW l ch d k σ
 | 1=>cleanC ch (cleanW l ch d k σ) (l.field d[k]! 2)
 | _=>cleanW l ch d (k+1) σ
theorem zp2 {ch:List Int} {d:Array Int} {k j:Nat} (hj:j<2) (h:l.field d[k]! (2 - (j:Int))∈ch):zbj (zih l ch d k σ j) (l.field d[k]! (2 - (j:Int)))=zih l ch d k σ (j+1):=by
 match j,hj with
 | 0,_=>exact zkl h
 | 1,_=>exact zkl h
theorem znn {ch:List Int} {d:Array Int} {k j:Nat} (hj:j<2) (h:¬l.field d[k]! (2 - (j:Int))∈ch):zih l ch d k σ j=zih l ch d k σ (j+1):=by
 match j,hj with
 | 0,_=>exact zii h
 | 1,_=>exact zii h
theorem zlC {ch:List Int} {d:Array Int} {k j:Nat} (hj:j<2) (h:Room (n+4 * (k+1)) σ):Room (n+2) (zih l ch d k σ j):=by
 match j,hj with
 | 0,_=>exact zd2 (h.le (by omega))
 | 1,_=>exact ze7 (zd2 (h.le (by omega)))
end
theorem zoH {d:Array Acc} {v:Int} {k:Nat} (hk:0<k) (h1:d[k - 1]!.store=true) (h2:d[k - 1]!.cell=v):((k - 1:Nat):Int)=zdu d v k:=by
 obtain ⟨m,rfl⟩:∃ m,k=m+1:=⟨k - 1,by omega⟩
 rw [zdu,if_pos ⟨h1,h2⟩]; rfl
theorem zmo {d:Array Acc} {v:Int} {n k:Nat} (h:zdu d v n=zdu d v k) (hk:0<k) (h1:d[k - 1]!.store=false∨¬d[k - 1]!.cell=v):zdu d v n=zdu d v (k - 1):=by
 obtain ⟨m,rfl⟩:∃ m,k=m+1:=⟨k - 1,by omega⟩
 have h1:d[m]!.store=false∨¬d[m]!.cell=v:=h1
 rw [h,zdu,if_neg]
 ·rfl
 ·rintro ⟨a,b⟩
  rcases h1 with h1 | h1
  ·rw [h1] at a; cases a
  ·exact h1 b
def acc1 (x:Acc) (σ:M):M:=if x.store then st σ x.cell x.val else σ
def accG (x:Acc) (σ:M):Bool:=x.store || decide (get σ x.cell=x.val)
def accJ (x:Acc) (σ:M):Nat→M
 | 0=>σ
 | _=>acc1 x σ
theorem zvq {x:Acc} {σ:M} (h:x.store=true):st (accJ x σ 0) x.cell x.val=accJ x σ (0+1):=by show st σ _ _=acc1 x σ; unfold acc1; rw [if_pos h]
theorem zsg {x:Acc} {σ:M} (h:x.store=false):accJ x σ 0=accJ x σ (0+1):=by show σ=acc1 x σ; unfold acc1; rw [if_neg (by rw [h]; decide)]
theorem zsi {x:Acc} {σ:M} (h:x.store=false):σ=acc1 x σ:=zsg h
theorem zqv {x:Acc} {σ:M} (h:x.store=true):accG x σ=true:=by unfold accG; rw [h]; rfl
theorem zqu {x:Acc} {σ:M} (h:get σ x.cell=x.val):accG x σ=true:=by unfold accG; rw [decide_eq_true h,Bool.or_true]
theorem zsh {x:Acc} {σ:M} (h:x.store=false) (h2:¬get σ x.cell=x.val):accG x σ=false:=by unfold accG; rw [h,decide_eq_false h2]; rfl
theorem zpW {d:Array Int}:∀ n,(cpt d n).length≤n
 | 0=>Nat.le_refl _
 | n+1=>by
  have:=zpW (d:=d) n
  rw [cpt]
  split
  ·rw [List.length_append,List.length_singleton]; omega
  ·omega
theorem zly {d:Array Int} {x:Int}:∀ {n},x∈cpt d n↔∃ i,i<n∧d[i]! =x
 | 0=>by simp [cpt]
 | n+1=>by
  have ih:=zly (d:=d) (x:=x) (n:=n)
  rw [cpt]
  split
  ·rw [List.mem_append,List.mem_singleton,ih]
   constructor
   ·rintro (⟨i,hi,e⟩ | e)
    ·exact ⟨i,by omega,e⟩
    ·exact ⟨n,by omega,e.symm⟩
   ·rintro ⟨i,hi,e⟩
    by_cases h:i=n
    ·subst h; exact .inr e.symm
    ·exact .inl ⟨i,by omega,e⟩
  ·rename_i h
   have h':n≠0∧d[n]! =d[n - 1]!:=by
    refine ⟨fun h0=>h (.inl h0),Decidable.byContradiction fun h1=>h (.inr h1)⟩
   rw [ih]
   constructor
   ·rintro ⟨i,hi,e⟩; exact ⟨i,by omega,e⟩
   ·rintro ⟨i,hi,e⟩
    by_cases h2:i=n
    ·subst h2; exact ⟨i - 1,by omega,by rw [←h'.2]; exact e⟩
    ·exact ⟨i,by omega,e⟩
theorem zmA {d:Array Int} (hs:∀ i j,i≤j→j<d.size→d[i]!≤d[j]!):∀ {n},n≤d.size→(cpt d n).Pairwise (·≤·)
 | 0,_=>List.Pairwise.nil
 | n+1,hn=>by
  have ih:=zmA hs (n:=n) (by omega)
  rw [cpt]
  split
  ·rw [List.pairwise_append]
   refine ⟨ih,List.pairwise_singleton _ _,fun a ha b hb=>?_⟩
   obtain ⟨i,hi,rfl⟩:=zly.1 ha
   rw [List.mem_singleton] at hb; subst hb
   exact hs i n (by omega) (by omega)
  ·exact ih
theorem zl8 {d:Array Int} (h:d.toList.Pairwise (·≤·)):∀ i j,i≤j→j<d.size→d[i]!≤d[j]!:=fun i j hij hj=>by
 rcases Nat.lt_or_eq_of_le hij with h1 | h1
 ·have:=(List.pairwise_iff_getElem.1 h) i j (by simpa using (by omega:i<d.size)) (by simpa using hj) h1
  rw [getElem!_pos d i (by omega),getElem!_pos d j hj]
  simpa using this
 ·subst h1; exact Int.le_refl _
theorem zqH (d:Array Int):(srt d).toList.Pairwise (·≤·):=by
 have h:=List.pairwise_mergeSort (le:=fun x y:Int=>decide (x≤y)) (fun a b c h1 h2=>by simp only [decide_eq_true_eq] at *; omega) (fun a b=>by simp only [Bool.or_eq_true,decide_eq_true_eq]; omega) d.toList
 unfold srt
 refine h.imp fun h2=>by simpa using h2
theorem zsz {d:Array Int} {x:Int}:x∈(srt d).toList↔x∈d.toList:=by unfold srt; simp
theorem zp4 (row:Array Acc):(chgL row).Pairwise (·≤·):=zmA (zl8 (zqH _)) (by rw [zdh]; exact Nat.le_refl _)
theorem zij {row:Array Acc} {ch:Array Int} (h:ch.toList=chgL row):∀ i j,i≤j→j<ch.size→ch[i]!≤ch[j]!:=zl8 (by rw [h]; exact zp4 row)
theorem zmD {row:Array Acc} {ch:Array Int} (h:ch.toList=chgL row):ch.size≤row.size:=by
 have h1:ch.size=(chgL row).length:=by rw [←h]; simp
 have h2:=zpW (d:=srt (zbi row row.size)) (zbi row row.size).size
 have h3:=zdx row row.size
 unfold chgL at h1
 omega
theorem zgX {row:Array Acc} {x:Int}:∀ {n},x∈(zbi row n).toList↔∃ i,i<n∧row[i]!.store=true∧row[i]!.cell=x
 | 0=>by simp [zbi]
 | n+1=>by
  have ih:=zgX (row:=row) (x:=x) (n:=n)
  rw [zbi]
  split
  ·rename_i hst
   rw [Array.toList_append,List.mem_append,ih]
   constructor
   ·rintro (⟨i,hi,e⟩ | e)
    ·exact ⟨i,by omega,e⟩
    ·exact ⟨n,by omega,hst,(show x=row[n]!.cell by simpa using e).symm⟩
   ·rintro ⟨i,hi,e1,e2⟩
    by_cases h:i=n
    ·subst h; exact .inr (by simp [e2])
    ·exact .inl ⟨i,by omega,e1,e2⟩
  ·rename_i hst
   rw [ih]
   constructor
   ·rintro ⟨i,hi,e⟩; exact ⟨i,by omega,e⟩
   ·rintro ⟨i,hi,e1,e2⟩
    by_cases h:i=n
    ·subst h; exact absurd e1 hst
    ·exact ⟨i,by omega,e1,e2⟩
theorem zrs {row:Array Acc} {x:Int}:x∈chgL row↔∃ i,i<row.size∧row[i]!.store=true∧row[i]!.cell=x:=by
 refine Iff.trans ?_ (Iff.trans (zsz (d:=zbi row row.size)) zgX)
 unfold chgL
 rw [zly]
 constructor
 ·rintro ⟨i,hi,e⟩; exact zlG (by rw [zdh]; exact hi) e
 ·intro h
  obtain ⟨i,hi,e⟩:=Array.getElem_of_mem (by simpa using h:x∈srt (zbi row row.size))
  exact ⟨i,by rw [zdh] at hi; exact hi,by rw [getElem!_pos _ i hi]; exact e⟩
end Go.Tm
namespace Go.Tm
open MemLike Eng
set_option linter.unusedVariables false
set_option linter.unusedSectionVars false
def runM (m:M):List Acc→M
 | []=>m
 | a :: r=>runM (acc1 a m) r
def okM (m:M):List Acc→Prop
 | []=>True
 | a :: r=>accG a m=true∧okM (acc1 a m) r
theorem zgw:∀ {a:List Acc} {m:M} {b:List Acc},runM m (a++b)=runM (runM m a) b
 | [],_,_=>rfl
 | x :: r,m,b=>zgw (a:=r)
theorem zhi:∀ {a:List Acc} {m:M} {b:List Acc},okM m (a++b)↔okM m a∧okM (runM m a) b
 | [],_,_=>⟨fun h=>⟨trivial,h⟩,fun h=>h.2⟩
 | x :: r,m,b=>by
  have ih:=zhi (a:=r) (m:=acc1 x m) (b:=b)
  exact ⟨fun h=>⟨⟨h.1,(ih.1 h.2).1⟩,(ih.1 h.2).2⟩,fun h=>⟨h.1.1,ih.2 ⟨h.1.2,h.2⟩⟩⟩
theorem zot (σ:Tr) (i:Int):(ld σ i:Tr).mem=σ.mem:=by rw [zmO]; split<;>rfl
theorem zrW (σ:Tr) (i v:Int):(st σ i v:Tr).mem=st σ.mem i v:=by
 rw [zmN]
 split
 ·rfl
 ·next h=>rw [zjo,if_neg h]
structure Rp (m:M) (σ:Tr):Prop where
 run:runM m σ.row.toList=σ.mem
 ok:okM m σ.row.toList
theorem Rp.start (m:M):Rp m ⟨m,#[]⟩:=⟨rfl,trivial⟩
theorem Rp.ld {m:M} {σ:Tr} (h:Rp m σ) (i:Int):Rp m (ld σ i):=by
 rw [zmO]
 split
 ·refine ⟨?_,?_⟩
  ·show runM m (σ.row++#[_]).toList=σ.mem
   rw [Array.toList_append,zgw,h.run]; rfl
  ·show okM m (σ.row++#[_]).toList
   rw [Array.toList_append,zhi,h.run]
   exact ⟨h.ok,zqu rfl,trivial⟩
 ·exact h
theorem Rp.st {m:M} {σ:Tr} (h:Rp m σ) (i v:Int):Rp m (st σ i v):=by
 rw [zmN]
 split
 ·refine ⟨?_,?_⟩
  ·show runM m (σ.row++#[_]).toList=MemLike.st σ.mem i v
   rw [Array.toList_append,zgw,h.run]; rfl
  ·show okM m (σ.row++#[_]).toList
   rw [Array.toList_append,zhi,h.run]
   exact ⟨h.ok,zqv rfl,trivial⟩
 ·exact h
def Opt2 {α β:Type _} (R:α→β→Prop):Option α→Option β→Prop
 | none,none=>True
 | some a,some b=>R a b
 | _,_=>False
theorem Opt2.bind {α β γ δ:Type _} {R:α→β→Prop} {Q:γ→δ→Prop} {a:Option α} {b:Option β} {f:α→Option γ} {g:β→Option δ} (h:Opt2 R a b) (hf:∀ x y,R x y→Opt2 Q (f x) (g y)):Opt2 Q (a.bind f) (b.bind g):=by
 cases a<;>cases b
 ·trivial
 ·exact h.elim
 ·exact h.elim
 ·exact hf _ _ h
theorem Opt2.some {α β:Type _} {R:α→β→Prop} {a:Option α} {y:β} (h:Opt2 R a (some y)):∃ x,a=some x∧R x y:=by
 cases a
 ·exact h.elim
 ·exact ⟨_,rfl,h⟩
structure Pt where
 l:Lay
 p:Pen
 par0:Int→Int
 m0:M
 C:Int→Prop
 E:Int→Prop
structure Pt.Ok (W:Pt):Prop where
 hl:W.l.Ok
 hp:PenOk W.p
 hc:∀ v,W.C v→0≤v∧v<W.l.V
 he:∀ s,W.E s→0≤s∧s<W.l.S
def Pt.N (W:Pt) (x:Int):Prop:=W.l.nd x∧((W.l.node x).1.arc=false→W.C (W.l.node x).1.vertex)∧((W.l.node x).1.arc=true→W.E (W.l.node x).1.slot)
def Pt.N0 (W:Pt) (x:Int):Prop:=x=0∨W.N x
def Pt.Low (W:Pt) (j:Int):Prop:=(∃ s,W.E s∧(j=W.l.ends s∨j=W.l.level s∨∃ d,j=W.l.next s d∨j=W.l.prev s d))∨(∃ a b,W.C a∧W.C b∧j=W.l.edge a b)∨∃ v i,W.C v∧j=W.l.head v i
def Pt.Adr (W:Pt) (j:Int):Prop:=W.Low j∨∃ x f,W.N x∧(2≤f∧f≤6)∧j=W.l.field x f
def Pt.Sto (W:Pt) (j v:Int):Prop:=W.Low j∨(∃ x f,W.N x∧(f=3∨f=4∨f=6)∧j=W.l.field x f)∨(∃ x,W.N x∧zcz W.l x=false∧j=W.l.field x 2) ∨
 ∃ x q,W.N x∧zcz W.l x=true∧j=W.l.field x 2∧zaf v=(⟨W.par0 x,q,W.p.thread,W.p.tag⟩,true)
def Pt.okA (W:Pt) (a:Acc):Prop:=if a.store=true then W.Sto a.cell a.val else W.Adr a.cell
def S0 (Lv:Int→Prop) (y:Int):Prop:=y=0∨Lv y
structure Clo (W:Pt) (En Lv:Int→Prop) (m:M):Prop where
 size:m.size=W.l.cells
 ch:∀ x f,W.N x→f=3∨f=4→W.N0 (tget W.l m x f)
 pa:∀ x,W.N x→W.N0 (parent W.l m x)
 sn:Snap W.l W.p W.par0 m
 hd:∀ v i,W.C v→S0 Lv (aget m (W.l.head v i))
 nx:∀ y,Lv y→S0 Lv (aget m (za0 W.l y))∧S0 Lv (aget m (zaH W.l y))
 en:∀ s,En s→W.C (zke W.l m s)∧W.C (zkd W.l m s)
 ene:∀ s,En s→W.E s
 lve:∀ y,Lv y→∃ s d:Int,En s∧(d=0∨d=1)∧y=2 * s+d+1
structure Ft (W:Pt) (En Lv:Int→Prop) (σ:Tr):Prop where
 clo:Clo W En Lv σ.mem
 acc:∀ a∈σ.row.toList,W.okA a
 rp:Rp W.m0 σ
def Twin (W:Pt) (En Lv:Int→Prop) (σ:Tr) (m:M):Prop:=Ft W En Lv σ∧σ.mem=m
section
variable {W:Pt} {En Lv En' Lv':Int→Prop} {σ:Tr} {m:M}
theorem Twin.clo (h:Twin W En Lv σ m):Clo W En Lv m:=h.2▸h.1.clo
theorem Twin.get (h:Twin W En Lv σ m) (i:Int):get σ i=get m i:=by rw [zrO,h.2]
theorem Twin.ld (h:Twin W En Lv σ m) {i:Int} (hi:0≤i→W.Adr i):Twin W En Lv (MemLike.ld σ i) m:=by
 obtain ⟨⟨h1,h2,h3⟩,rfl⟩:=h
 refine ⟨⟨by rw [zot]; exact h1,?_,h3.ld i⟩,zot σ i⟩
 rw [zmO]
 split
 ·next hi' =>
  intro a ha
  replace ha:a∈(σ.row++#[(⟨false,i,MemLike.get σ.mem i⟩:Acc)]).toList:=ha
  rw [Array.toList_append,List.mem_append] at ha
  rcases ha with ha | ha
  ·exact h2 a ha
  ·rw [List.mem_singleton] at ha; subst ha; exact hi hi'.1
 ·exact h2
theorem Twin.st (h:Twin W En Lv σ m) {i v:Int} (hs:0≤i→W.Sto i v) (hc:Clo W En' Lv' (MemLike.st m i v)):Twin W En' Lv' (MemLike.st σ i v) (MemLike.st m i v):=by
 obtain ⟨⟨h1,h2,h3⟩,rfl⟩:=h
 refine ⟨⟨by rw [zrW]; exact hc,?_,h3.st i v⟩,zrW σ i v⟩
 rw [zmN]
 split
 ·next hi' =>
  intro a ha
  replace ha:a∈(σ.row++#[(⟨true,i,v⟩:Acc)]).toList:=ha
  rw [Array.toList_append,List.mem_append] at ha
  rcases ha with ha | ha
  ·exact h2 a ha
  ·rw [List.mem_singleton] at ha; subst ha; exact hs hi'.1
 ·exact h2
theorem Twin.conv (h:Twin W En Lv σ m) (hc:Clo W En' Lv' m):Twin W En' Lv' σ m:=by
 obtain ⟨⟨h1,h2,h3⟩,rfl⟩:=h
 exact ⟨⟨hc,h2,h3⟩,rfl⟩
variable (hW:W.Ok)
include hW
theorem Pt.Low.lowc {j:Int} (h:W.Low j):lowc W.l j:=by
 rcases h with ⟨s,_,h | h | ⟨d,h⟩⟩ | ⟨a,b,_,_,h⟩ | ⟨v,i,_,h⟩
 ·exact .inl ⟨s,.inl h⟩
 ·exact .inl ⟨s,.inr h⟩
 ·exact .inr (.inr (.inl ⟨s,d,h⟩))
 ·exact .inr (.inl ⟨a,b,h⟩)
 ·exact .inr (.inr (.inr ⟨v,i,h⟩))
theorem Clo.low (h:Clo W En Lv m) {j v:Int} (hj:W.Low j) (hv:0≤v∧v<18446744073709551616) (h1:0≤j→∀ w i,W.C w→j=W.l.head w i→S0 Lv (IntKind.i64.wrap v))
  (h2:0≤j→∀ y,Lv y→j=za0 W.l y∨j=zaH W.l y→S0 Lv (IntKind.i64.wrap v)) (h3:0≤j→∀ s,En s→j≠W.l.ends s):Clo W En Lv (MemLike.st m j v):=by
 have hl:=hW.hl
 by_cases h0:0≤j
 ·have fl:∀ {y k:Int},W.l.nd y→(0≤k∧k<7)→MemLike.get (MemLike.st m j v:M) (W.l.field y k)=MemLike.get m (W.l.field y k):=fun {y k} hy hk=>zaB fun e=>zbL hl (hj.lowc hW) hy hk e.symm
  have ag:∀ q,aget (MemLike.st m j v:M) q=aget m q∨q=j∧aget (MemLike.st m j v:M) q=IntKind.i64.wrap v:=fun q=>by
   unfold aget
   rw [zeR hv]
   by_cases e:q=j∧0≤j∧j<m.size
   ·rw [if_pos e]; exact .inr ⟨e.1,rfl⟩
   ·rw [if_neg e]; exact .inl rfl
  refine ⟨by rw [zaz]; exact h.size,fun y k hy hk=>?_,fun y hy=>?_,fun y hy hs=>?_,fun w i hw=>?_,fun y hy=>⟨?_,?_⟩,fun s hs=>?_,h.ene,h.lve⟩
  ·unfold tget; rw [fl hy.1 (by omega)]; exact h.ch y k hy hk
  ·unfold parent pnew tget; rw [fl hy.1 (by omega)]; exact h.pa y hy
  ·unfold gf; rw [fl hy (by omega)]; exact h.sn y hy hs
  ·rcases ag (W.l.head w i) with e | ⟨e,e2⟩
   ·rw [e]; exact h.hd w i hw
   ·rw [e2]; exact h1 h0 w i hw e.symm
  ·rcases ag (za0 W.l y) with e | ⟨e,e2⟩
   ·rw [e]; exact (h.nx y hy).1
   ·rw [e2]; exact h2 h0 y hy (.inl e.symm)
  ·rcases ag (zaH W.l y) with e | ⟨e,e2⟩
   ·rw [e]; exact (h.nx y hy).2
   ·rw [e2]; exact h2 h0 y hy (.inr e.symm)
  ·unfold zke zkd; rw [zaB fun e=>h3 h0 s hs e.symm]; exact h.en s hs
 ·rw [zrP (by omega)]; exact h
end
end Go.Tm
namespace Go.Tm
open MemLike Eng
set_option linter.unusedVariables false
set_option linter.unusedSectionVars false
section
variable {W:Pt} {En Lv:Int→Prop} {σ:Tr} {m:M}
theorem Twin.tget (h:Twin W En Lv σ m) (x f:Int):tget W.l σ x f=tget W.l m x f:=by unfold Go.Tm.tget; rw [h.get]
theorem Twin.par (h:Twin W En Lv σ m) (x:Int):parent W.l σ x=parent W.l m x:=by unfold Go.Tm.parent pnew Go.Tm.tget; simp only [h.get]
theorem Twin.tsum (h:Twin W En Lv σ m) (x:Int):tsum W.l σ x=tsum W.l m x:=by unfold Go.Tm.tsum; simp only [h.get]
theorem Twin.sz (h:Twin W En Lv σ m) (x:Int):size W.l σ x=size W.l m x:=by unfold Go.Tm.size; rw [h.tsum]
theorem Twin.verts (h:Twin W En Lv σ m) (x:Int):verts W.l σ x=verts W.l m x:=by unfold Go.Tm.verts; rw [h.tsum]
theorem Twin.marks (h:Twin W En Lv σ m) (x:Int):marks W.l σ x=marks W.l m x:=by unfold Go.Tm.marks; rw [h.tsum]
theorem Twin.marked (h:Twin W En Lv σ m) (x j:Int):marked W.l σ x j=marked W.l m x j:=by unfold Go.Tm.marked; rw [h.marks]
theorem Twin.has (h:Twin W En Lv σ m) (x j:Int):has W.l σ x j=has W.l m x j:=by unfold Go.Tm.has; rw [h.tsum]
theorem Twin.above (h:Twin W En Lv σ m) (x y:Int):above W.l σ x y=above W.l m x y:=by
 unfold Go.Tm.above
 have e:∀ i j,MemLike.get (MemLike.ld σ i) j=MemLike.get (MemLike.ld m i) j:=fun i j=>by rw [zrO,zot,h.2]; rfl
 simp only [h.get,e]
variable (hW:W.Ok)
include hW
theorem Pt.N0.lk {x:Int} (h:W.N0 x):0≤x∧x≤560:=by
 have hn:=zaD hW.hl
 rcases h with rfl | h
 ·omega
 ·have:=h.1; unfold Lay.nd at this; omega
end
end Go.Tm
namespace Go.Tm
open MemLike Eng
section
variable {P:Program} {w0:World} {R:Assn} {n:Nat} {Q:Exit→Act→World→Prop} {env:List (Nat×Value)} {L:List (Nat×Assn)}
variable {ks:List Nat} {L0:List (Nat×Assn)} {ops:Array Oper} {rest:List (Bool×Oper)}
variable {d:Option Tmp} {x y:Operand} {ty T K E:TypeId} {ps:String} {af:Array Edge} {g:Option (Nat×Bool)}
variable {κ β:Type} [DecidableEq κ] {enc:κ→Value} {venc:β→Value}
theorem TL.lkD2 (k:Nat) {r:Nat} {qs:List (κ×β)} {q:κ} (z0:β) (hx:evO env x=some (.map (some r))) (hy:evO env y=some (enc q)) (hL:lk L k=some (mapA r enc venc qs)) (hM:zjU P T K E=true) (hK:KeyOk P K enc) (hz:zby P E=some (venc z0)) (hg:zac ops env g=some true) (hd:okD n d=true) (hk:Keep L0 L ks)
  (h:TL P w0 R n ks L0 ops Q rest (setE env d (.tuple #[venc ((mget qs q).getD z0),.bool (mget qs q).isSome])) L):TL P w0 R n ks L0 ops Q ((false,⟨d,.lookup T x y true,ty,ps,af,g⟩) :: rest) env L :=
 TL.lkA k hx hy hL hM hK hz hg hd hk (by cases hq:mget qs q<;>(rw [hq] at h; exact h))
end
section
variable {row:Array Acc} {c:Int} {i pt:Nat} {q:List (Int×Int)×List (Int×Int)}
theorem zgB (h:¬(row[i]!.store=true∧row[i]!.cell=c)):zdP row c i q=zdP row c (i+1) q:=by
 conv=>rhs; rw [zdP]
 rw [if_neg h]
theorem zjO (h1:row[i]!.store=true) (h2:row[i]!.cell=c) (h3:(mget (zdP row c i q).1 c).isSome=true):(zdP row c i q).1=(zdP row c (i+1) q).1∧mput (zdP row c i q).2 c (i:Int)=(zdP row c (i+1) q).2:=by
 conv=>congr<;>(rhs; rw [zdP])
 rw [if_pos (And.intro h1 h2),if_pos h3]
 exact ⟨rfl,rfl⟩
theorem zjP (h1:row[i]!.store=true) (h2:row[i]!.cell=c) (h3:(mget (zdP row c i q).1 c).isSome=false):mput (zdP row c i q).1 c (i:Int)=(zdP row c (i+1) q).1∧mput (zdP row c i q).2 c (i:Int)=(zdP row c (i+1) q).2:=by
 conv=>congr<;>(rhs; rw [zdP])
 rw [if_pos (And.intro h1 h2),if_neg (by rw [h3]; decide)]
 exact ⟨rfl,rfl⟩
theorem zjA {i:Int} (h1:(mget q.1 c).isSome=true) (h2:i≥(mget q.1 c).getD 0) (h3:i<(mget q.2 c).getD 0):zg0 q c i=true:=by
 unfold zg0
 cases hq:mget q.1 c with
 | none=>rw [hq] at h1; cases h1
 | some a =>
  rw [hq] at h2
  dsimp only
  rw [decide_eq_true (show a≤i from h2),decide_eq_true h3]; rfl
theorem zlW {i:Int} (h1:(mget q.1 c).isSome=false):zg0 q c i=false:=by
 unfold zg0
 cases hq:mget q.1 c with
 | none=>rfl
 | some a=>rw [hq] at h1; cases h1
theorem zlV {i:Int} (h2:¬i≥(mget q.1 c).getD 0):zg0 q c i=false:=by
 unfold zg0
 cases hq:mget q.1 c with
 | none=>rfl
 | some a =>
  rw [hq] at h2
  dsimp only
  rw [decide_eq_false (show ¬a≤i from h2)]; rfl
theorem zlU {i:Int} (h3:¬i<(mget q.2 c).getD 0):zg0 q c i=false:=by
 unfold zg0
 cases hq:mget q.1 c with
 | none=>rfl
 | some a =>
  dsimp only
  rw [decide_eq_false h3,Bool.and_false]
theorem ziN (h:(i:Int)=(pt:Int)):((zeb row pt q i).1.size:Int)=(zeb row pt q (i+1)).2:=by
 conv=>rhs; rw [zeb]
 dsimp only
 rw [if_pos (by omega)]
theorem ziO (h:¬(i:Int)=(pt:Int)):(zeb row pt q i).2=(zeb row pt q (i+1)).2:=by
 conv=>rhs; rw [zeb]
 dsimp only
 rw [if_neg (by omega)]
theorem zom (h:zg0 q row[i]!.cell i=true):(zeb row pt q i).1=(zeb row pt q (i+1)).1:=by
 conv=>rhs; rw [zeb]
 dsimp only
 rw [if_pos h]
theorem zfN (h:zg0 q row[i]!.cell i=false):(zeb row pt q i).1++#[row[i]!]=(zeb row pt q (i+1)).1:=by
 conv=>rhs; rw [zeb]
 dsimp only
 rw [if_neg (by rw [h]; decide)]
theorem zdO:∀ i,(zeb row pt q i).1.size≤i
 | 0=>Nat.le_refl _
 | i+1=>by
  have ih:=zdO i
  rw [zeb]
  dsimp only
  split
  ·omega
  ·simp; omega
end
end Go.Tm
namespace Go.Tm
open MemLike Eng
def zhd (l:Lay) (p:Pen) (held:Array Int) (rs:Array Int) (σ:Tr):PlanS :=
 let SA:=za9 l l.nodes.toNat
 let σ1:=zcY l p (chgL σ.row) SA SA.size σ
 let σ2:=zck l rs held.toList (IntKind.u64.wrap p.thread) rs.size σ1
 let σ3:=za6 l p σ2 p.tag true
 let σ4:=cleanW l (chgL σ3.row) SA SA.size σ3
 let σ5:=za6 l p σ4 (IntKind.i64.wrap (p.tag+1)) false
 let σ6:=zck l held rs.toList 65535 held.size σ5
 ⟨(zm8 l σ6.row (σ3.row.size - 1)).1,(zm8 l σ6.row (σ3.row.size - 1)).2,true,rs⟩
def zm6 (l:Lay) (p:Pen) (k:Nat) (held:Array Int) (tree:Bool) (u v:Int) (σ:Tr):Option PlanS :=
 (root l k σ (l.vertex 0 u)).bind fun a=>(root l k a.2 (l.vertex 0 v)).bind fun b =>
  some (if tree then zhd l p held (zaq a.1 b.1) b.2 else ⟨b.2.row,zdu b.2.row (l.edge u v) b.2.row.size,false,zaq a.1 b.1⟩)
theorem zgt {x y:Int}:(zaq x y).size≤2:=by unfold zaq; split<;>simp
def Pre (σ τ:Tr):Prop:=∃ r,τ.row=σ.row++r
theorem Pre.refl (σ:Tr):Pre σ σ:=⟨#[],by simp⟩
theorem Pre.trans {σ τ υ:Tr} (h:Pre σ τ) (h':Pre τ υ):Pre σ υ:=by
 obtain ⟨r,h⟩:=h
 obtain ⟨r',h'⟩:=h'
 exact ⟨r++r',by rw [h',h,Array.append_assoc]⟩
theorem Pre.ld (σ:Tr) (i:Int):Pre σ (MemLike.ld σ i):=by
 rw [zmO]
 split
 ·exact ⟨_,rfl⟩
 ·exact .refl σ
theorem Pre.st (σ:Tr) (i v:Int):Pre σ (MemLike.st σ i v):=by
 rw [zmN]
 split
 ·exact ⟨_,rfl⟩
 ·exact .refl σ
theorem Pre.size {σ τ:Tr} (h:Pre σ τ):σ.row.size≤τ.row.size:=by
 obtain ⟨r,h⟩:=h
 rw [h]; simp
section
variable {l:Lay} {p:Pen}
theorem Pre.write (σ:Tr) (c x:Int):Pre σ (p.write σ c x):=by
 unfold Pen.write
 split
 ·split
  ·exact (Pre.ld σ c).trans (.st _ _ _)
  ·exact .ld σ c
 ·exact .ld σ c
theorem Pre.root:∀ {k:Nat} {σ τ:Tr} {x r:Int},Go.Tm.root l k σ x=some (r,τ)→Pre σ τ
 | 0,_,_,_,_,e=>by simp [Go.Tm.root] at e
 | k+1,σ,τ,x,r,e=>by
  rw [Go.Tm.root] at e
  split at e
  ·split at e
   ·cases e; exact .ld _ _
   ·exact (Pre.ld _ _).trans (Pre.root e)
  ·cases e; exact .refl _
theorem Pre.clean (σ:Tr) (c:Int):Pre σ (zbj σ c):=by
 unfold zbj
 split
 ·split
  ·exact (Pre.ld σ c).trans (.st _ _ _)
  ·exact .ld σ c
 ·exact .ld σ c
theorem Pre.state (σ:Tr) (tag:Int) (dn:Bool):Pre σ (za6 l p σ tag dn):=by
 unfold za6
 split
 ·exact .st _ _ _
 ·exact .refl σ
theorem Pre.vers {ch:List Int} {d:Array Int} {σ:Tr}:∀ k,Pre σ (zcY l p ch d k σ)
 | 0=>.refl σ
 | k+1=>(Pre.vers k).trans (by
  rw [zcY]
  unfold zks
  split
  ·dsimp only
   split
   ·exact ((Pre.ld _ _).trans (.ld _ _)).trans (.write _ _ _)
   ·exact .ld _ _
  ·exact .refl _)
theorem Pre.lock {d:Array Int} {but:List Int} {v:Int} {σ:Tr}:∀ k,Pre σ (zck l d but v k σ)
 | 0=>.refl σ
 | k+1=>(Pre.lock k).trans (by
  rw [zck]
  split
  ·exact .refl _
  ·exact .st _ _ _)
theorem Pre.cleanC {ch:List Int} {c:Int} (σ:Tr):Pre σ (cleanC ch σ c):=by
 unfold Go.Tm.cleanC
 split
 ·exact .clean _ _
 ·exact .refl _
theorem Pre.cleanW {ch:List Int} {d:Array Int} {σ:Tr}:∀ k,Pre σ (cleanW l ch d k σ)
 | 0=>.refl σ
 | k+1=>(Pre.cleanW k).trans (by
  rw [Go.Tm.cleanW]
  exact (Pre.cleanC _).trans (.cleanC _))
end
end Go.Tm
namespace Go.Tm
open MemLike Eng
set_option linter.unusedVariables false
def refM (v s:Int):Int:=if v / 65536 / 65536 % 256=0∨s / 2 > v / 65536 / 65536 / 256∨(s / 2=v / 65536 / 65536 / 256∧s % 2=1) then v % 65536 else v / 65536 % 65536
def zd5 (l:Lay) (σ:M) (x f:Int):Int :=
 if get σ (l.field x f) / 65536 / 65536 % 256<1∨get σ (l.field x f) / 65536 / 65536 % 256 > l.T then get σ (l.field x f) % 65536
 else refM (get σ (l.field x f)) (get σ (l.state (get σ (l.field x f) / 65536 / 65536 % 256)))
def zeP (l:Lay) (σ:M):Nat→Int→Int
 | 0,_=>0
 | k+1,x=>if zd5 l σ x 2=0 then x else zeP l σ k (zd5 l σ x 2)
def zaY (l:Lay) (σ:M) (v:Int):Int:=zeP l σ (l.nodes.toNat+1) (l.vertex 0 v)
theorem zk4 {l:Lay} {σ:M} {N k:Nat} {x r:Int} (hk:k≤N) (h:zd5 l σ x 2≠0) (hr:zeP l σ (N+1 - k) x=r):zeP l σ (N+1 - (k+1)) (zd5 l σ x 2)=r:=by
 rw [show N+1 - k=(N+1 - (k+1))+1 by omega,zeP,if_neg h] at hr
 exact hr
theorem znd {l:Lay} {σ:M} {N k:Nat} {x r:Int} (hk:k≤N) (h:zd5 l σ x 2=0) (hr:zeP l σ (N+1 - k) x=r):x=r:=by
 rw [show N+1 - k=(N+1 - (k+1))+1 by omega,zeP,if_pos h] at hr
 exact hr
theorem zh9 {l:Lay} {σ:M} {d:Array Int} {k:Nat}:st (zck l d [] 1 k σ) (l.field d[k]! 0) 1=zck l d [] 1 (k+1) σ:=by
 conv=>rhs; rw [zck]
 rw [if_neg (by simp)]
theorem zlO {x y:Int} (h:x≠y):zaq x y=#[min x y]++#[max x y]:=by unfold zaq; rw [if_neg h]; rfl
theorem zlP {x y:Int} (h:¬x≠y):zaq x y=#[min x y]:=by
 obtain rfl:x=y:=Decidable.not_not.1 h
 unfold zaq
 rw [if_pos rfl,Int.min_self]
end Go.Tm
namespace Go.Tm
open MemLike Eng
set_option linter.unusedVariables false
def runA (σ:M) (d:Array Acc):Nat→M
 | 0=>σ
 | k+1=>acc1 d[k]! (runA σ d k)
def badA (σ:M) (d:Array Acc):Nat→Bool
 | 0=>false
 | k+1=>badA σ d k || !accG d[k]! (runA σ d k)
def okMB (m:M):List Acc→Bool
 | []=>true
 | a :: r=>accG a m && okMB (acc1 a m) r
theorem zmc:∀ {r:List Acc} {m:M},okMB m r=true↔okM m r
 | [],_=>⟨fun _=>trivial,fun _=>rfl⟩
 | a :: r,m=>by
  have ih:=zmc (r:=r) (m:=acc1 a m)
  unfold okMB okM
  rw [Bool.and_eq_true,ih]
theorem zjz {d:Array Acc} {k:Nat} (h:k<d.size):d.toList.take (k+1)=d.toList.take k++[d[k]!]:=by
 rw [List.take_add_one,List.getElem?_eq_getElem (by simpa using h),getElem!_pos d k h]
 simp
theorem zg5 {σ:M} {d:Array Acc}:∀ {k:Nat},k≤d.size→runA σ d k=runM σ (d.toList.take k)
 | 0,_=>rfl
 | k+1,h=>by
  rw [runA,zjz (by omega),zgw,zg5 (by omega)]; rfl
theorem zl2 {σ:M} {d:Array Acc}:runA σ d d.size=runM σ d.toList:=by
 rw [zg5 (Nat.le_refl _),List.take_of_length_le (by simp)]
theorem zkm {σ:M} {d:Array Acc}:∀ {k:Nat},k≤d.size→(badA σ d k=false↔okM σ (d.toList.take k))
 | 0,_=>⟨fun _=>trivial,fun _=>rfl⟩
 | k+1,h=>by
  have ih:=zkm (σ:=σ) (d:=d) (k:=k) (by omega)
  rw [badA,zjz (by omega),zhi,←ih,←zg5 (by omega)]
  simp [okM]
theorem zuP {σ:M} {r:List Acc} {k:Nat} (h:okM σ r):okM σ (r.take k):=by
 rw [←List.take_append_drop k r,zhi] at h
 exact h.1
theorem zqh {σ:M} {d:Array Acc} (h:okM σ d.toList) {k:Nat} (hk:k≤d.size):badA σ d k=false:=(zkm hk).2 (zuP h)
section
variable {S:Type} [MemLike S] {l:Lay} {p:Pen} {ch ch':List Int} (h:∀ x,x∈ch↔x∈ch')
include h
theorem zgS {d:Array Int} {σ:S}:∀ k,zcY l p ch d k σ=zcY l p ch' d k σ
 | 0=>rfl
 | k+1=>by
  rw [zcY,zcY,zgS k]
  unfold zks
  simp only [h]
theorem zgj {d:Array Int} {σ:S}:∀ k,cleanW l ch d k σ=cleanW l ch' d k σ
 | 0=>rfl
 | k+1=>by
  rw [cleanW,cleanW,zgj k]
  unfold cleanC
  simp only [h]
end
def strL (row:Array Acc):List Int:=(row.toList.filter (·.store)).map (·.cell)
theorem znJ {row:Array Acc} (x:Int):x∈chgL row↔x∈strL row:=by
 rw [zrs]
 unfold strL
 simp only [List.mem_map,List.mem_filter]
 constructor
 ·rintro ⟨i,hi,h1,h2⟩
  exact ⟨row[i]!,⟨by rw [getElem!_pos _ i hi]; simp,h1⟩,h2⟩
 ·rintro ⟨a,⟨ha,h1⟩,h2⟩
  obtain ⟨i,hi,e⟩:=Array.getElem_of_mem (by simpa using ha:a∈row)
  exact ⟨i,hi,by rw [getElem!_pos _ i hi,e]; exact h1,by rw [getElem!_pos _ i hi,e]; exact h2⟩
def zsP (l:Lay) (p:Pen) (held:Array Int) (rs:Array Int) (σ:Tr):PlanS :=
 let SA:=za9 l l.nodes.toNat
 let σ1:=zcY l p (strL σ.row) SA SA.size σ
 let σ2:=zck l rs held.toList (IntKind.u64.wrap p.thread) rs.size σ1
 let σ3:=za6 l p σ2 p.tag true
 let σ4:=cleanW l (strL σ3.row) SA SA.size σ3
 let σ5:=za6 l p σ4 (IntKind.i64.wrap (p.tag+1)) false
 let σ6:=zck l held rs.toList 65535 held.size σ5
 ⟨(zm8 l σ6.row (σ3.row.size - 1)).1,(zm8 l σ6.row (σ3.row.size - 1)).2,true,rs⟩
theorem zqZ {l:Lay} {p:Pen} {held rs:Array Int} {σ:Tr}:zhd l p held rs σ=zsP l p held rs σ:=by
 unfold zhd zsP
 dsimp only
 rw [zgS znJ,zgj znJ]
def zog (l:Lay) (p:Pen) (k:Nat) (held:Array Int) (tree:Bool) (u v:Int) (σ:Tr):Option PlanS :=
 (root l k σ (l.vertex 0 u)).bind fun a=>(root l k a.2 (l.vertex 0 v)).bind fun b =>
  some (if tree then zsP l p held (zaq a.1 b.1) b.2 else ⟨b.2.row,zdu b.2.row (l.edge u v) b.2.row.size,false,zaq a.1 b.1⟩)
theorem zq0 {l:Lay} {p:Pen} {k:Nat} {held:Array Int} {tree:Bool} {u v:Int} {σ:Tr}:zm6 l p k held tree u v σ=zog l p k held tree u v σ:=by
 unfold zm6 zog
 simp only [zqZ]
def l19:Lay:=⟨2,1,1⟩
theorem zeQ:l19.Ok:=by unfold Lay.Ok; decide
abbrev s19:M:=zgk l19 0 (fun _=>0) (Array.replicate l19.cells.toNat 0)
def h19:Array Int:=zaq (zaY l19 s19 0) (zaY l19 s19 1)
def t19:M:=zck l19 h19 [] 1 h19.size s19
def zvn:Bool :=
 match zcL l19 ⟨1,0⟩ 561 (⟨t19,#[]⟩:Tr) 0 0 1 with
 | none=>false
 | some (b,τ)=>decide (0<τ.row.size) && match zog l19 ⟨1,0⟩ 561 h19 b 0 1 τ with
  | none=>false
  | some P=>P.tree && decide (P.roots.size=1) && decide (1≤P.point∧P.point<P.work.size) && P.work[P.point.toNat]!.store && decide (P.work[P.point.toNat]!.cell=0) &&
   P.work.toList.all (fun a=>decide (0≤a.val∧a.val<18446744073709551616)) && decide (P.work.size≤2000) && okMB t19 P.work.toList &&
   decide (zaY l19 (runM t19 P.work.toList) 0=P.roots[0]!∧zaY l19 (runM t19 P.work.toList) 1=P.roots[0]!)
theorem zuu:zvn=true:=by decide +kernel
theorem zry:∃ (b:Bool) (τ:Tr) (P:PlanS),zcL l19 ⟨1,0⟩ 561 (⟨t19,#[]⟩:Tr) 0 0 1=some (b,τ)∧zm6 l19 ⟨1,0⟩ 561 h19 b 0 1 τ=some P∧0<τ.row.size∧P.tree=true∧P.roots.size=1∧(∃ n:Nat,P.point=(n:Int)∧1≤n∧n<P.work.size∧P.work[n]!.store=true∧P.work[n]!.cell=0) ∧
  (∀ i,i<P.work.size→0≤P.work[i]!.val∧P.work[i]!.val<18446744073709551616)∧P.work.size≤2000∧okM t19 P.work.toList∧zaY l19 (runA t19 P.work P.work.size) 0=P.roots[0]!∧zaY l19 (runA t19 P.work P.work.size) 1=P.roots[0]!:=by
 have h:=zuu
 unfold zvn at h
 split at h
 ·cases h
 ·next b τ hg =>
  rw [Bool.and_eq_true] at h
  obtain ⟨h0,h⟩:=h
  split at h
  ·cases h
  ·next P hP =>
   simp only [Bool.and_eq_true,decide_eq_true_eq,List.all_eq_true] at h h0
   obtain ⟨⟨⟨⟨⟨⟨⟨⟨h1,h2⟩,h3⟩,h4⟩,h5⟩,h6⟩,h7⟩,h8⟩,h9⟩:=h
   refine ⟨b,τ,P,hg,zq0.trans hP,h0,h1,h2,⟨P.point.toNat,by omega,by omega,by omega,h4,h5⟩,fun i hi=>h6 _ ?_,h7,zmc.1 h8,?_,?_⟩
   ·rw [getElem!_pos _ i hi]; simp
   ·rw [zl2]; exact h9.1
   ·rw [zl2]; exact h9.2
end Go.Tm
namespace Go.Tm
open MemLike Eng
set_option linter.unusedVariables false
def arrI (m:M):Array Int:=m.map fun u=>(u.toNat:Int)
theorem zcb (m:M):(arrI m).size=m.size:=by simp [arrI]
theorem zgM {m:M} {i:Nat} (h:i<m.size):(arrI m)[i]! =get m (i:Int):=by
 rw [zfF,if_pos ⟨by omega,by omega⟩,getElem!_pos _ i (by rw [zcb]; exact h)]
 simp only [arrI,Array.getElem_map,Int.toNat_natCast]
 rw [getElem!_pos m i h]
theorem zmG {m:M} {d:Array Int} (hz:d.size=m.size) (h:∀ i,i<m.size→d[i]! =get m (i:Int)):d=arrI m:=by
 refine Array.ext (by rw [hz,zcb]) fun i h1 h2=>?_
 have:=h i (by omega)
 rw [←zgM (by omega),getElem!_pos _ i h1,getElem!_pos _ i h2] at this
 exact this
theorem zuv {m:M} {i:Nat} {v:Int} (hi:i<m.size) (hv:0≤v∧v<18446744073709551616):(arrI m).setIfInBounds i v=arrI (st m (i:Int) v):=by
 refine zmG (by rw [Array.size_setIfInBounds,zcb,zaz]) fun j hj=>?_
 rw [zaz] at hj
 rw [zeR hv,get!_set (by rw [zcb]; exact hj)]
 by_cases e:i=j
 ·subst e; rw [if_pos rfl,if_pos ⟨rfl,by omega,by omega⟩]
 ·rw [if_neg e,if_neg (by rintro ⟨h,_⟩; omega),zgM hj]
def zao (n:Nat) (f:Nat→Int):Nat→M
 | 0=>Array.replicate n 0
 | k+1=>st (zao n f k) (k:Int) (f k)
theorem zay {n:Nat} {f:Nat→Int}:∀ k,(zao n f k).size=n
 | 0=>by simp [zao]
 | k+1=>by rw [zao,zaz,zay k]
theorem zj7 {n:Nat} {f:Nat→Int} (hf:∀ i,i<n→0≤f i∧f i<18446744073709551616):∀ k,k≤n→∀ i,i<k→get (zao n f k) (i:Int)=f i
 | 0,_,i,hi=>absurd hi (Nat.not_lt_zero i)
 | k+1,hk,i,hi=>by
  rw [zao,zeR (hf k (by omega)),zay]
  by_cases e:i=k
  ·subst e; rw [if_pos ⟨rfl,by omega,by omega⟩]
  ·rw [if_neg (by rintro ⟨h,_⟩; omega)]; exact zj7 hf k (by omega) i (by omega)
theorem zo4 {n:Nat} {f:Nat→Int} (hf:∀ i,i<n→0≤f i∧f i<18446744073709551616):((List.range n).map f).toArray=arrI (zao n f n) :=
 zmG (by rw [zay]; simp) fun i hi=>by
  rw [zay] at hi
  rw [zj7 hf n (Nat.le_refl _) i hi,zeW f hi]
theorem zaQ {σ:M} {d:Array Acc}:∀ k,(runA σ d k).size=σ.size
 | 0=>rfl
 | k+1=>by
  rw [runA]
  unfold acc1
  split
  ·rw [zaz,zaQ k]
  ·exact zaQ k
section
variable {σ:M} {W:Array Acc} {i:Nat} {x:Acc} (hx:W[i]! =x)
include hx
theorem zbQ (h:x.store=true∨get (runA σ W i) x.cell=x.val):badA σ W (i+1)=badA σ W i:=by
 rw [badA,hx]
 have:accG x (runA σ W i)=true:=by
  rcases h with h | h
  ·exact zqv h
  ·exact zqu h
 rw [this]; simp
theorem zim (h1:x.store=false) (h2:get (runA σ W i) x.cell≠x.val):badA σ W (i+1)=true:=by
 rw [badA,hx,zsh h1 h2]; simp
theorem zh5 (h1:x.store=false):runA σ W i=runA σ W (i+1):=by rw [runA,hx]; exact zsi h1
theorem znT (h2:¬(0≤x.cell∧x.cell<σ.size)):runA σ W i=runA σ W (i+1):=by
 rw [runA,hx]
 unfold acc1
 split
 ·rw [zjo,if_neg (by rw [zaQ]; exact h2)]
 ·rfl
theorem zuK {j:Nat} (h1:x.store=true) (hj:x.cell=(j:Int)) (hz:j<σ.size) (hv:0≤x.val∧x.val<18446744073709551616):(arrI (runA σ W i)).setIfInBounds j x.val=arrI (runA σ W (i+1)):=by
 rw [zuv (by rw [zaQ]; exact hz) hv,runA,hx]
 unfold acc1
 rw [if_pos h1,hj]
end
theorem zem {m:M} {i:Int} (h:¬(0≤i∧i<m.size)):get m i=0:=by rw [zfF,if_neg h]
end Go.Tm
