import Derived.Test.YtabjfnfglcghfaaGreatEngC
set_option linter.unusedVariables false
set_option linter.unusedSimpArgs false
set_option linter.unusedSectionVars false
namespace Go.Tm
open MemLike Eng
set_option linter.unusedSectionVars false
set_option linter.unusedVariables false
structure Nm where
 k:Int
 a:Int
 b:Int
 c:Int
 deriving DecidableEq,Inhabited
def encN (x:Nm):List Value:=[.int .i64 x.k,.int .i64 x.a,.int .i64 x.b,.int .i64 x.c]
instance (l:Lay) (x:Int):Decidable (l.nd x):=by unfold Lay.nd; infer_instance
def Lay.posI (l:Lay) (n:Nm):Int :=
 if n.c≠0 then -1
 else if n.k=1 then (if 1≤n.a∧n.a≤l.T∧n.b=0 then n.a - 1 else -1)
 else if n.k=2 then (if n.a=0∧n.b=0 then l.T else -1)
 else if n.k=3∨n.k=4∨n.k=5 then (if (0≤n.a∧n.a<l.S)∧n.b=0 then l.T+1+n.a * 7+(n.k - 3) else -1)
 else if n.k=6 then (if (0≤n.a∧n.a<l.S)∧(n.b=0∨n.b=1) then l.T+1+n.a * 7+(3+n.b) else -1)
 else if n.k=7 then (if (0≤n.a∧n.a<l.S)∧(n.b=0∨n.b=1) then l.T+1+n.a * 7+(5+n.b) else -1)
 else if n.k=8 then (if (0≤n.a∧n.a<l.V)∧0≤n.b∧n.b<l.lev then l.head n.a n.b else -1)
 else if n.k=9 then (if 0≤n.a∧n.a<n.b∧n.b<l.V then l.edge n.a n.b else -1)
 else if n.k=10 then (if l.nd n.a∧0≤n.b∧n.b<7 then l.field n.a n.b else -1)
 else -1
section
variable {l:Lay} (hl:l.Ok)
include hl
theorem zex {n:Nm} (h:0≤l.posI n):n.c=0∧((n.k=1∧n.b=0∧1≤n.a∧n.a≤l.T∧l.posI n=n.a - 1)∨(n.k=2∧n.a=0∧n.b=0∧l.posI n=l.T) ∨
  ((0≤n.a∧n.a<l.S)∧∃ f:Int,(0≤f∧f<7)∧l.posI n=l.T+1+n.a * 7+f∧((n.k=3∧n.b=0∧f=0)∨(n.k=4∧n.b=0∧f=1)∨(n.k=5∧n.b=0∧f=2)∨(n.k=6∧n.b=0∧f=3)∨(n.k=6∧n.b=1∧f=4)∨(n.k=7∧n.b=0∧f=5)∨(n.k=7∧n.b=1∧f=6))) ∨
  (n.k=8∧(0≤n.a∧n.a<l.V)∧(0≤n.b∧n.b<l.lev)∧l.posI n=l.head n.a n.b)∨(n.k=9∧(0≤n.a∧n.a<n.b∧n.b<l.V)∧l.posI n=l.edge n.a n.b)∨(n.k=10∧l.nd n.a∧(0≤n.b∧n.b<7)∧l.posI n=l.field n.a n.b)):=by
 generalize hp:l.posI n=p at *
 unfold Lay.posI at hp
 by_cases hc':n.c≠0
 ·rw [if_pos hc'] at hp; omega
 have hc:n.c=0:=Decidable.not_not.1 hc'
 refine ⟨hc,?_⟩
 rw [if_neg (by simpa using hc)] at hp
 by_cases h1:n.k=1
 ·rw [if_pos h1] at hp; split at hp
  ·rename_i hh; exact .inl ⟨h1,hh.2.2,hh.1,hh.2.1,hp.symm⟩
  ·subst hp; exact absurd h (by decide)
 rw [if_neg h1] at hp
 by_cases h2:n.k=2
 ·rw [if_pos h2] at hp; split at hp
  ·rename_i hh; exact .inr (.inl ⟨h2,hh.1,hh.2,hp.symm⟩)
  ·subst hp; exact absurd h (by decide)
 rw [if_neg h2] at hp
 by_cases h3:n.k=3∨n.k=4∨n.k=5
 ·rw [if_pos h3] at hp; split at hp
  ·rename_i hh
   rcases h3 with h3 | h3 | h3<;>rw [h3] at hp
   ·exact .inr (.inr (.inl ⟨hh.1,0,by decide,hp.symm,.inl ⟨h3,hh.2,rfl⟩⟩))
   ·exact .inr (.inr (.inl ⟨hh.1,1,by decide,hp.symm,.inr (.inl ⟨h3,hh.2,rfl⟩)⟩))
   ·exact .inr (.inr (.inl ⟨hh.1,2,by decide,hp.symm,.inr (.inr (.inl ⟨h3,hh.2,rfl⟩))⟩))
  ·subst hp; exact absurd h (by decide)
 rw [if_neg h3] at hp
 by_cases h6:n.k=6
 ·rw [if_pos h6] at hp; split at hp
  ·rename_i hh
   rcases hh with ⟨hh,h4 | h4⟩<;>rw [h4] at hp
   ·exact .inr (.inr (.inl ⟨hh,3,by decide,hp.symm,.inr (.inr (.inr (.inl ⟨h6,h4,rfl⟩)))⟩))
   ·exact .inr (.inr (.inl ⟨hh,4,by decide,hp.symm,.inr (.inr (.inr (.inr (.inl ⟨h6,h4,rfl⟩))))⟩))
  ·subst hp; exact absurd h (by decide)
 rw [if_neg h6] at hp
 by_cases h7:n.k=7
 ·rw [if_pos h7] at hp; split at hp
  ·rename_i hh
   rcases hh with ⟨hh,h4 | h4⟩<;>rw [h4] at hp
   ·exact .inr (.inr (.inl ⟨hh,5,by decide,hp.symm,.inr (.inr (.inr (.inr (.inr (.inl ⟨h7,h4,rfl⟩)))))⟩))
   ·exact .inr (.inr (.inl ⟨hh,6,by decide,hp.symm,.inr (.inr (.inr (.inr (.inr (.inr ⟨h7,h4,rfl⟩)))))⟩))
  ·subst hp; exact absurd h (by decide)
 rw [if_neg h7] at hp
 by_cases h8:n.k=8
 ·rw [if_pos h8] at hp; split at hp
  ·rename_i hh; exact .inr (.inr (.inr (.inl ⟨h8,hh.1,hh.2,hp.symm⟩)))
  ·subst hp; exact absurd h (by decide)
 rw [if_neg h8] at hp
 by_cases h9:n.k=9
 ·rw [if_pos h9] at hp; split at hp
  ·rename_i hh; exact .inr (.inr (.inr (.inr (.inl ⟨h9,hh,hp.symm⟩))))
  ·subst hp; exact absurd h (by decide)
 rw [if_neg h9] at hp
 by_cases h10:n.k=10
 ·rw [if_pos h10] at hp; split at hp
  ·rename_i hh; exact .inr (.inr (.inr (.inr (.inr ⟨h10,hh.1,hh.2,hp.symm⟩))))
  ·subst hp; exact absurd h (by decide)
 rw [if_neg h10] at hp; subst hp; exact absurd h (by decide)
theorem zhc {n:Nm} (h:0≤l.posI n):(n.k=1∧l.posI n<l.T)∨(n.k=2∧l.posI n=l.T)∨((3≤n.k∧n.k≤7)∧l.T+1≤l.posI n∧l.posI n<l.heads)∨(n.k=8∧l.heads≤l.posI n∧l.posI n<l.edges)∨(n.k=9∧l.edges≤l.posI n∧l.posI n<l.base)∨(n.k=10∧l.base≤l.posI n):=by
 have hh:l.heads=l.T+1+l.S * 7:=rfl
 obtain ⟨c0,hn⟩:=zex hl h
 rcases hn with ⟨e1,e2,e3,e4,e5⟩ | ⟨e1,e2,e3,e4⟩ | ⟨ea,f,ef,ep,ek⟩ | ⟨e1,ea,eb,ep⟩ | ⟨e1,ea,ep⟩ | ⟨e1,ea,eb,ep⟩
 ·exact .inl (by omega)
 ·exact .inr (.inl (by omega))
 ·exact .inr (.inr (.inl (by omega)))
 ·have:=zdC hl ea eb; exact .inr (.inr (.inr (.inl (by omega))))
 ·have:=zdo hl ⟨ea.1,ea.2.1⟩ ea.2.2; exact .inr (.inr (.inr (.inr (.inl (by omega)))))
 ·have:=zaS hl ea eb; exact .inr (.inr (.inr (.inr (.inr (by omega)))))
theorem zqW {n n':Nm} (h:0≤l.posI n) (he:l.posI n=l.posI n'):n=n':=by
 have hb:=zce hl
 have hh:l.heads=l.T+1+l.S * 7:=rfl
 have h':0≤l.posI n':=he▸h
 have z:=zhc hl h
 have z':=zhc hl h'
 have hk:(n.k=n'.k)∨((3≤n.k∧n.k≤7)∧(3≤n'.k∧n'.k≤7)):=by omega
 obtain ⟨c0,hn⟩:=zex hl h
 obtain ⟨c0',hn'⟩:=zex hl h'
 have key:(n.k=n'.k∧n.a=n'.a∧n.b=n'.b)→n=n':=by
  obtain ⟨k,a,b,c⟩:=n
  obtain ⟨k',a',b',c'⟩:=n'
  dsimp only at c0 c0'
  rintro ⟨rfl,rfl,rfl⟩; rw [c0,c0']
 apply key
 clear z z'
 rcases hn with ⟨e1,e2,e3,e4,e5⟩ | ⟨e1,e2,e3,e4⟩ | ⟨ea,f,ef,ep,ek⟩ | ⟨e1,ea,eb,ep⟩ | ⟨e1,ea,ep⟩ | ⟨e1,ea,eb,ep⟩
 ·rcases hn' with ⟨e1',e2',e3',e4',e5'⟩ | ⟨e1',_⟩ | ⟨_,f',_,_,ek'⟩ | ⟨e1',_⟩ | ⟨e1',_⟩ | ⟨e1',_⟩<;>omega
 ·rcases hn' with ⟨e1',_⟩ | ⟨e1',e2',e3',e4'⟩ | ⟨_,f',_,_,ek'⟩ | ⟨e1',_⟩ | ⟨e1',_⟩ | ⟨e1',_⟩<;>omega
 ·rcases hn' with ⟨e1',_⟩ | ⟨e1',_⟩ | ⟨ea',f',ef',ep',ek'⟩ | ⟨e1',_⟩ | ⟨e1',_⟩ | ⟨e1',_⟩
  ·omega
  ·omega
  ·have e1:n.a=n'.a:=by omega
   have e2:f=f':=by omega
   clear ep ep' he h h' hk
   omega
  ·omega
  ·omega
  ·omega
 ·rcases hn' with ⟨e1',_⟩ | ⟨e1',_⟩ | ⟨_,f',_,_,ek'⟩ | ⟨e1',ea',eb',ep'⟩ | ⟨e1',_⟩ | ⟨e1',_⟩
  ·omega
  ·omega
  ·omega
  ·have:=(zi2 hl ea eb ea' eb').1 (by omega); omega
  ·omega
  ·omega
 ·rcases hn' with ⟨e1',_⟩ | ⟨e1',_⟩ | ⟨_,f',_,_,ek'⟩ | ⟨e1',_⟩ | ⟨e1',ea',ep'⟩ | ⟨e1',_⟩
  ·omega
  ·omega
  ·omega
  ·omega
  ·have:=(zeF hl ⟨ea.1,ea.2.1⟩ ea.2.2 ⟨ea'.1,ea'.2.1⟩ ea'.2.2).1 (by omega); omega
  ·omega
 ·rcases hn' with ⟨e1',_⟩ | ⟨e1',_⟩ | ⟨_,f',_,_,ek'⟩ | ⟨e1',_⟩ | ⟨e1',_⟩ | ⟨e1',ea',eb',ep'⟩
  ·omega
  ·omega
  ·omega
  ·omega
  ·omega
  ·have:=(zan hl ea eb ea' eb').1 (by omega); omega
omit hl
def NI (l:Lay) (d:Array Nm):Prop:=∀ j,j<d.size→l.posI d[j]! =j
theorem NI.nil:NI l #[]:=fun j hj=>absurd hj (Nat.not_lt_zero j)
theorem NI.app {d e:Array Nm} (h:NI l d) (he:∀ i,i<e.size→l.posI e[i]! =d.size+i):NI l (d++e):=fun j hj=>by
 by_cases hlt:j<d.size
 ·rw [get!_app hlt]; exact h j hlt
 ·have e1:j=d.size+(j - d.size):=by omega
  have h2:j - d.size<e.size:=by simp at hj; omega
  rw [e1,get!_app2 h2,he _ h2]; omega
theorem NI.push {d:Array Nm} {n:Nm} (h:NI l d) (hn:l.posI n=d.size):NI l (d++#[n]):=h.app fun i hi=>by
 obtain rfl:i=0:=by simpa using hi
 simpa using hn
include hl
theorem zqT {s:Int} (h:0≤s∧s<l.S):l.posI ⟨3,s,0,0⟩=l.T+1+s * 7∧l.posI ⟨4,s,0,0⟩=l.T+1+s * 7+1∧l.posI ⟨5,s,0,0⟩=l.T+1+s * 7+2∧l.posI ⟨6,s,0,0⟩=l.T+1+s * 7+3∧l.posI ⟨6,s,1,0⟩=l.T+1+s * 7+4∧l.posI ⟨7,s,0,0⟩=l.T+1+s * 7+5∧l.posI ⟨7,s,1,0⟩=l.T+1+s * 7+6:=by
 unfold Lay.posI; simp [h]
theorem zqV {v i:Int} (hv:0≤v∧v<l.V) (hi:0≤i∧i<l.lev):l.posI ⟨8,v,i,0⟩=l.head v i:=by unfold Lay.posI; simp [hv,hi]
theorem NI.slot {d:Array Nm} {s:Int} (h:NI l d) (hs:0≤s∧s<l.S) (hd:d.size=l.T+1+s * 7):NI l (d++#[⟨3,s,0,0⟩,⟨4,s,0,0⟩,⟨5,s,0,0⟩,⟨6,s,0,0⟩,⟨6,s,1,0⟩,⟨7,s,0,0⟩,⟨7,s,1,0⟩]):=h.app fun i hi=>by
 obtain ⟨p0,p1,p2,p3,p4,p5,p6⟩:=zqT hl hs
 match i,hi with
 | 0,_=>show l.posI ⟨3,s,0,0⟩=_; omega
 | 1,_=>show l.posI ⟨4,s,0,0⟩=_; omega
 | 2,_=>show l.posI ⟨5,s,0,0⟩=_; omega
 | 3,_=>show l.posI ⟨6,s,0,0⟩=_; omega
 | 4,_=>show l.posI ⟨6,s,1,0⟩=_; omega
 | 5,_=>show l.posI ⟨7,s,0,0⟩=_; omega
 | 6,_=>show l.posI ⟨7,s,1,0⟩=_; omega
structure NmOk (l:Lay) (n:Nm) (x:Int):Prop where
 as:(n.k=1∧n.c=0∧l.okV n.a n.b∧l.vertex n.a n.b=x)∨(n.k=2∧l.okA n.a n.b n.c∧l.arc n.a n.b n.c=x)
def NN (l:Lay) (d:Array Nm):Prop:=∀ j,j<d.size→NmOk l d[j]! ((j:Int)+1)
omit hl
theorem NN.nil:NN l #[]:=fun j hj=>absurd hj (Nat.not_lt_zero j)
theorem NN.app {d e:Array Nm} (h:NN l d) (he:∀ i,i<e.size→NmOk l e[i]! ((d.size:Int)+i+1)):NN l (d++e):=fun j hj=>by
 by_cases hlt:j<d.size
 ·rw [get!_app hlt]; exact h j hlt
 ·have e1:j=d.size+(j - d.size):=by omega
  have h2:j - d.size<e.size:=by simp at hj; omega
  have:=he _ h2
  rw [e1,get!_app2 h2]
  have e3:(((d.size+(j - d.size):Nat):Int))+1=(d.size:Int)+((j - d.size:Nat):Int)+1:=by omega
  rw [e3]; exact this
include hl
theorem NN.vertex {d:Array Nm} {i v:Int} (h:NN l d) (hv:l.okV i v) (hd:d.size=i * l.V+v):NN l (d++#[⟨1,i,v,0⟩]):=h.app fun j hj=>by
 obtain rfl:j=0:=by simpa using hj
 refine ⟨.inl ⟨rfl,rfl,hv,?_⟩⟩
 show l.vertex i v=_
 rw [(zad hl hv).2.2]; omega
theorem NN.arcs {d:Array Nm} {s i:Int} (h:NN l d) (hs:0≤s∧s<l.S) (hi:0≤i∧i<l.lev) (hd:d.size=l.lev * l.V+s * l.arcs+2 * i):NN l (d++#[⟨2,s,i,0⟩,⟨2,s,i,1⟩]):=h.app fun j hj=>by
 have e:∀ c:Int,0≤c∧c<2→l.arc s i c=1+l.lev * l.V+s * l.arcs+2 * i+c:=fun c hc=>by unfold Lay.arc; rw [if_pos ⟨hs,hi,hc⟩]
 match j,hj with
 | 0,_=>exact ⟨.inr ⟨rfl,⟨hs,hi,show (0:Int)≤0∧(0:Int)<2 by decide⟩,(e 0 (by decide)).trans (by omega)⟩⟩
 | 1,_=>exact ⟨.inr ⟨rfl,⟨hs,hi,show (0:Int)≤1∧(1:Int)<2 by decide⟩,(e 1 (by decide)).trans (by omega)⟩⟩
omit hl
def PI (l:Lay) (ps:List (Nm×Nat)) (i:Int):Prop:=∀ n,mget ps n=if 0≤l.posI n∧l.posI n<i then some (l.posI n).toNat else none
theorem PI.nil:PI l [] 0:=fun n=>by rw [zq3,if_neg (by omega)]
include hl
theorem PI.put {d:Array Nm} {ps:List (Nm×Nat)} {i:Nat} (h:PI l ps i) (hd:NI l d) (hi:i<d.size):PI l (mput ps d[i]! i) ((i:Int)+1):=fun n=>by
 have hp:=hd i hi
 rw [zmf]
 by_cases he:n=d[i]!
 ·rw [if_pos he,he,hp,if_pos (by omega)]; simp
 ·rw [if_neg he,h n]
  by_cases hc:0≤l.posI n∧l.posI n<i
  ·rw [if_pos hc,if_pos ⟨hc.1,by omega⟩]
  ·rw [if_neg hc,if_neg]
   intro h2
   exact he (zqW hl h2.1 (by rw [hp]; omega))
end
section
variable {l:Lay} (hl:l.Ok)
include hl
theorem zoe {n:Nm} (h:0≤l.posI n):l.posI n<l.cells:=by
 have hb:=zce hl
 have hh:l.heads=l.T+1+l.S * 7:=rfl
 have z:=zhc hl h
 obtain ⟨c0,hn⟩:=zex hl h
 by_cases hk:n.k=10
 ·rcases hn with ⟨e1,_⟩ | ⟨e1,_⟩ | ⟨_,f',_,_,ek'⟩ | ⟨e1,_⟩ | ⟨e1,_⟩ | ⟨e1,ea,eb,ep⟩
  ·omega
  ·omega
  ·omega
  ·omega
  ·omega
  ·rw [ep]; exact (zaS hl ea eb).2.2
 ·clear hn; have hc:l.cells=l.base+l.nodes * 7:=rfl
  have:=zaD hl
  omega
theorem NI.le {d:Array Nm} (h:NI l d):(d.size:Int)≤l.cells:=by
 rcases Nat.eq_zero_or_pos d.size with h0 | h0
 ·have:=zce hl; omega
 ·have:=h (d.size - 1) (by omega)
  have:=zoe hl (n:=d[d.size - 1]!) (by omega)
  omega
theorem NmOk.nd {n:Nm} {x:Int} (h:NmOk l n x):l.nd x:=by
 rcases h.as with ⟨_,_,hv,rfl⟩ | ⟨_,ha,rfl⟩
 ·exact (zad hl hv).1
 ·exact (zau hl ha).1
theorem NN.le {d:Array Nm} (h:NN l d):(d.size:Int)≤l.nodes:=by
 rcases Nat.eq_zero_or_pos d.size with h0 | h0
 ·have:=zaD hl; omega
 ·have:=((h (d.size - 1) (by omega)).nd hl).2
  omega
end
def znr (l:Lay) (σ:M) (n:Nm):Int:=if 0≤l.posI n then get σ (l.posI n) else 0
structure BookOk (l:Lay) (σ:M) (ca:Option Addr) (bc offc cn:Nat) (Acl:Assn) (fc:Nat→Int) (xa:Option Addr) (bx offx xn:Nat) (Ax:Assn) (fx:Nat→Nm) (ps:List (Nm×Nat)):Prop where
 ha:0<cn→ca=some ⟨bc,offc,none⟩
 hA:zaZ Acl encU 1 bc offc cn fc
 hx:0<xn→xa=some ⟨bx,offx,none⟩
 hX:zaZ Ax encN 4 bx offx xn fx
 hcn:(cn:Int)=l.cells
 hfc:∀ i,i<cn→fc i=MemLike.get σ (i:Int)
 hps:PI l ps l.cells
 hxn:(xn:Int)=l.nodes
 hfx:∀ i,i<xn→NmOk l (fx i) ((i:Int)+1)
theorem BookOk.get {l:Lay} {σ:M} {ca:Option Addr} {bc offc cn:Nat} {Acl:Assn} {fc:Nat→Int} {xa:Option Addr} {bx offx xn:Nat} {Ax:Assn} {fx:Nat→Nm} {ps:List (Nm×Nat)} (hl:l.Ok) (h:BookOk l σ ca bc offc cn Acl fc xa bx offx xn Ax fx ps) (n:Nm) :
  (∃ j,mget ps n=some j∧j<cn∧fc j=znr l σ n)∨(mget ps n=none∧znr l σ n=0):=by
 have hp:=h.hps n
 by_cases h0:0≤l.posI n
 ·have hlt:=zoe hl h0
  rw [if_pos ⟨h0,hlt⟩] at hp
  have hj:(l.posI n).toNat<cn:=by have:=h.hcn; omega
  exact .inl ⟨_,hp,hj,by rw [h.hfc _ hj,znr,if_pos h0]; congr 1; omega⟩
 ·rw [if_neg (fun hc=>h0 hc.1)] at hp
  exact .inr ⟨hp,by rw [znr,if_neg h0]⟩
end Go.Tm
namespace Go.Tm
open MemLike Eng
set_option linter.unusedSectionVars false
set_option linter.unusedVariables false
structure MtP (g:G) (d:Array EdR) (P:Int→Int→Prop):Prop where
 row:∀ i,i<d.size→g.has d[i]!.slot=true∧g.u d[i]!.slot=d[i]!.u∧g.v d[i]!.slot=d[i]!.v∧g.lv d[i]!.slot=d[i]!.lv∧g.tr d[i]!.slot=d[i]!.tr
 at_:∀ i,i<d.size→P d[i]!.u d[i]!.v
 cov:∀ s,g.has s=true→P (g.u s) (g.v s)→∃ i,i<d.size∧d[i]!.slot=s
 inj:∀ i j,i<d.size→j<d.size→d[i]!.slot=d[j]!.slot→i=j
def bef (u v:Int):Int→Int→Prop:=fun a b=>a<u∨(a=u∧b<v)
section
variable {l:Lay} (hl:l.Ok) {σ:M} {g:G} {d:Array EdR}
include hl
theorem MtP.nil:MtP g #[] (bef 0 1)∨True:=.inr trivial
theorem MtP.start (hE:EdgeOk l σ g):MtP g #[] (bef 0 1) :=
 ⟨fun i hi=>absurd hi (Nat.not_lt_zero i),fun i hi=>absurd hi (Nat.not_lt_zero i),fun s hs h=>by have:=(hE.rng s hs).2.1; unfold bef at h; omega,fun i j hi=>absurd hi (Nat.not_lt_zero i)⟩
theorem MtP.skip {u v:Int} (h:MtP g d (bef u v)) (hno:∀ s,g.has s=true→¬(g.u s=u∧g.v s=v)):MtP g d (bef u (v+1)):=by
 refine ⟨h.row,fun i hi=>?_,fun s hs hp=>h.cov s hs ?_,h.inj⟩
 ·have:=h.at_ i hi
  unfold bef at *; omega
 ·have:=hno s hs
  unfold bef at *; omega
theorem MtP.push {u v s lv:Int} {t:Bool} (h:MtP g d (bef u v)) (hh:g.has s=true) (hu:g.u s=u) (hv:g.v s=v) (hl:g.lv s=lv) (ht:g.tr s=t) (huq:∀ q,g.has q=true→g.u q=u→g.v q=v→q=s):MtP g (d++#[⟨s,u,v,lv,t⟩]) (bef u (v+1)):=by
 have hlast:∀ i,i<(d++#[(⟨s,u,v,lv,t⟩:EdR)]).size→¬i<d.size→i=d.size+0:=fun i hi hn=>by simp at hi; omega
 have hold:∀ i,i<d.size→d[i]!.slot≠s:=fun i hi he=>by
  have h1:=h.at_ i hi
  obtain ⟨_,r1,r2,_⟩:=h.row i hi
  rw [he,hu] at r1; rw [he,hv] at r2
  rw [←r1,←r2] at h1; unfold bef at h1; omega
 refine ⟨fun i hi=>?_,fun i hi=>?_,fun q hq hp=>?_,fun i j hi hj he=>?_⟩
 ·by_cases hlt:i<d.size
  ·rw [get!_app hlt]; exact h.row i hlt
  ·rw [hlast i hi hlt,get!_app2 (by simp)]; exact ⟨hh,hu,hv,hl,ht⟩
 ·by_cases hlt:i<d.size
  ·rw [get!_app hlt]; have:=h.at_ i hlt; unfold bef at *; omega
  ·rw [hlast i hi hlt,get!_app2 (by simp)]; exact .inr ⟨rfl,by show v<v+1; omega⟩
 ·by_cases hb:bef u v (g.u q) (g.v q)
  ·obtain ⟨i,h1,h2⟩:=h.cov q hq hb
   exact ⟨i,by simp; omega,by rw [get!_app h1]; exact h2⟩
  ·have:q=s:=huq q hq (by unfold bef at *; omega) (by unfold bef at *; omega)
   exact ⟨d.size+0,by simp,by rw [get!_app2 (by simp)]; exact this.symm⟩
 ·by_cases h1:i<d.size<;>by_cases h2:j<d.size
  ·rw [get!_app h1,get!_app h2] at he; exact h.inj i j h1 h2 he
  ·rw [get!_app h1,hlast j hj h2,get!_app2 (by simp)] at he; exact absurd he (hold i h1)
  ·rw [get!_app h2,hlast i hi h1,get!_app2 (by simp)] at he; exact absurd he.symm (hold j h2)
  ·rw [hlast i hi h1,hlast j hj h2]
theorem MtP.all (hE:EdgeOk l σ g) {u v:Int} (hu:l.V≤u) (h:MtP g d (bef u v)):Mt g d:=⟨h.row,fun s hs=>h.cov s hs (by have:=(hE.rng s hs).2.1; unfold bef; omega),h.inj⟩
theorem MtP.size (hE:EdgeOk l σ g) {P:Int→Int→Prop} (h:MtP g d P):d.size≤l.S:=by
 have:=zc6 l.S ((List.range d.size).map fun i=>d[i]!.slot+1) (by
  refine List.Pairwise.map _ (fun i j hij=>hij) (List.Pairwise.imp_of_mem (R:=fun i j=>i≠j) (fun {i j} hi hj hij he=>?_) List.nodup_range)
  exact hij (h.inj i j (List.mem_range.1 hi) (List.mem_range.1 hj) (by omega))) (fun x hx=>by
  obtain ⟨i,hi,rfl⟩:=List.mem_map.1 hx
  have:=(hE.rng _ (h.row i (List.mem_range.1 hi)).1).1
  omega)
 simpa using this
omit hl
end
end Go.Tm
namespace Go.Tm
open MemLike Eng
set_option linter.unusedSectionVars false
set_option linter.unusedVariables false
theorem quoU {a b:Int} (h0:0≤a) (hb:0<b) (ha:a<18446744073709551616):IntKind.u64.wrap (a.tdiv b)=a / b:=by
 rw [Int.tdiv_eq_ediv_of_nonneg h0]
 exact zqz ⟨by have:=Int.ediv_nonneg h0 (Int.le_of_lt hb); omega,by have:=Int.ediv_le_self b h0; omega⟩
section
variable {l:Lay} (hl:l.Ok) {σ:M} {mk pr:Int→Int} {F:Int→T} {L:Int→Int→List Int}
include hl
theorem repU.wOk {t:T} (h:repU l mk σ t) {x:Int} (hx:x∈t.list):Go.Tm.wOk l σ x:=by
 induction t with
 | nil=>cases hx
 | node a y b iha ihb =>
  obtain ⟨h1,h2,h3,h4,h5,h6,h7,h8,h9⟩:=h
  rcases T.mem_node.1 hx with hx | rfl | hx
  ·exact iha h6 hx
  ·exact h4
  ·exact ihb h7 hx
theorem par0 (hF:Forest l pr mk σ F) {x:Int} (hx:l.nd x) (hi:(l.node x).1.level=0):gf l σ x 2 % 65536=parent l σ x:=by
 have hs:zcz l x=true:=by unfold zcz; simp [hi]
 have hw:=((hF.rep x hx).wOk hl (hF.mem x hx)).1 hs
 have hr:=zlh σ (l.field x 2)
 unfold parent pnew
 rw [if_pos hs]
 rw [(zfJ hw).2,zh0 hr]
theorem NmOk.fun {n:Nm} {x y:Int} (h:NmOk l n x) (h':NmOk l n y):x=y:=by
 rcases h.as with ⟨e,_,_,rfl⟩ | ⟨e,_,rfl⟩<;>rcases h'.as with ⟨e',_,_,rfl⟩ | ⟨e',_,rfl⟩<;>first | rfl | (rw [e] at e'; cases e')
theorem NmOk.inj {n m:Nm} {x:Int} (h:NmOk l n x) (h':NmOk l m x):n=m:=by
 obtain ⟨k,a,b,c⟩:=n
 obtain ⟨k',a',b',c'⟩:=m
 rcases h.as with ⟨e,e2,e3,e4⟩ | ⟨e,e3,e4⟩<;>rcases h'.as with ⟨e',e2',e3',e4'⟩ | ⟨e',e3',e4'⟩<;>dsimp only at *
 ·have:=(zch hl e3 e3').1 (e4.trans e4'.symm)
  rw [e,e',e2,e2',this.1,this.2]
 ·exact absurd (e4.trans e4'.symm) (zaF hl e3 e3')
 ·exact absurd (e4'.trans e4.symm) (zaF hl e3' e3)
 ·have:=(zbl hl e3 e3').1 (e4.trans e4'.symm)
  rw [e,e',this.1,this.2.1,this.2.2]
theorem NmOk.level {n:Nm} {x:Int} (h:NmOk l n x):(if n.k=1 then n.a else n.b)=(l.node x).1.level:=by
 rcases h.as with ⟨e,e2,e3,rfl⟩ | ⟨e,e3,rfl⟩
 ·rw [if_pos e,(zad hl e3).2.1]
 ·rw [if_neg (by rw [e]; decide),(zau hl e3).2]
omit hl
include hl
theorem ListOk.at_ (h:ListOk l σ L) {i v:Int} (hv:l.okV i v):znr l σ ⟨8,v,i,0⟩=fst (L v i) 0:=by
 have:=zdC hl hv.2 hv.1
 have ho:=zce hl
 unfold znr; rw [zqV hl hv.2 hv.1,if_pos (by omega)]; exact h.head i v hv
theorem ListOk.len (h:ListOk l σ L) {i v:Int} (hv:l.okV i v):(L v i).length≤2 * l.S:=zc6 _ _ (h.nodup i v hv) fun y hy=>by have:=h.side i v hv y hy; unfold Lay.sd at this; omega
omit hl
end
structure LW (r:List Int) (out:Array Int) (x ahead:Int) (n:Nat):Prop where
 ex:∃ A C,r=A++C∧out=(A.map (· - 1)).toArray∧x=fst C 0∧ahead=lst 0 A∧n=C.length
theorem LW.start {r:List Int}:LW r #[] (fst r 0) 0 r.length:=⟨[],r,rfl,rfl,rfl,rfl,rfl⟩
end Go.Tm
namespace Go.Tm
open MemLike Eng
set_option linter.unusedSectionVars false
set_option linter.unusedVariables false
theorem zfh {α:Type} [Inhabited α] {enc:α→List Value} {m e g c n:Nat} {d:Array α} (hn:d.size=n):zaZ (ownA enc m e (.slice (some ⟨g,0,none⟩) n c) d) enc m g 0 n (fun i=>d[i]!):=by
 subst hn; exact zaR fun _=>rfl
theorem ltk {q k:Nat} (h:q<k+1) (hn:q≠k):q<k:=by omega
def isB (d:Array EdR) (i v:Int) (j:Nat):Prop:=d[j]!.tr=false∧d[j]!.lv=i∧(d[j]!.u=v∨d[j]!.v=v)
instance (d:Array EdR) (i v:Int) (j:Nat):Decidable (isB d i v j):=by unfold isB; infer_instance
def zmT (d:Array EdR) (v:Int) (j:Nat):Int:=if d[j]!.v=v then 1 else 0
theorem zsC {d:Array EdR} {v:Int} {j:Nat}:zmT d v j=0∨zmT d v j=1:=by unfold zmT; split<;>simp
section
variable {l:Lay} (hl:l.Ok) {σ:M} {mk pr:Int→Int} {F:Int→T} {g:G} {L:Int→Int→List Int} {d:Array EdR}
abbrev InvR (l:Lay) (pr:Int→Int) (σ:M) (F:Int→T) (mk:Int→Int) (g:G) (L:Int→Int→List Int):Prop:=Inv l pr σ F mk g L (Pg g) (Bg g) (Kg g)
include hl
theorem zut (hI:InvR l pr σ F mk g L) (hM:Mt g d) {i v:Int} (hv:l.okV i v) {j:Nat} (hj:j<d.size) (hb:isB d i v j):2 * d[j]!.slot+zmT d v j+1∈L v i:=by
 obtain ⟨r1,r2,r3,r4,r5⟩:=hM.row j hj
 obtain ⟨b1,b2,b3⟩:=hb
 refine (hI.mem i v hv _).2 ⟨d[j]!.slot,zmT d v j,rfl,zsC,⟨r1,by rw [r5]; exact b1⟩,by rw [r4]; exact b2,?_⟩
 have hr:=(hI.edges.rng _ r1).2.1
 unfold zmT
 by_cases h:d[j]!.v=v
 ·rw [if_pos h,if_neg (by decide),r3]; exact h
 ·rw [if_neg h,if_pos rfl,r2]; exact b3.resolve_right h
structure MkI (l:Lay) (d:Array EdR) (k:Nat) (D:Array Int):Prop where
 size:(D.size:Int)=l.nodes+1
 rng:∀ j,j<D.size→0≤D[j]!∧D[j]!<4
 b1:∀ j,j<D.size→(bitM D[j]! 1=true↔∃ q,q<k∧d[q]!.tr=true∧l.arc d[q]!.slot d[q]!.lv 0=j)
 b0:∀ j,j<D.size→(bitM D[j]! 0=true↔∃ q,q<k∧d[q]!.tr=false∧(l.vertex d[q]!.lv d[q]!.u=j∨l.vertex d[q]!.lv d[q]!.v=j))
omit hl
theorem MkI.start {N:Nat} (hN:((N:Nat):Int)=l.nodes+1):MkI l d 0 (Array.replicate N 0):=by
 have e:∀ j,j<N→(Array.replicate N (0:Int))[j]! =0:=fun j hj=>by rw [getElem!_pos _ j (by simpa using hj)]; simp
 refine ⟨by simpa using hN,fun j hj=>?_,fun j hj=>?_,fun j hj=>?_⟩<;>rw [e j (by simpa using hj)]
 ·exact ⟨by decide,by decide⟩
 ·exact ⟨fun h=>absurd h (by decide +kernel),fun ⟨q,h,_⟩=>absurd h (Nat.not_lt_zero q)⟩
 ·exact ⟨fun h=>absurd h (by decide +kernel),fun ⟨q,h,_⟩=>absurd h (Nat.not_lt_zero q)⟩
theorem orS2 {m:Int} (h:0≤m∧m<4):(0≤orS m 2∧orS m 2<4)∧bitM (orS m 2) 1=true∧bitM (orS m 2) 0=bitM m 0:=by
 have hm4:m=0∨m=1∨m=2∨m=3:=by omega
 rcases hm4 with rfl | rfl | rfl | rfl<;>decide +kernel
theorem orS1 {m:Int} (h:0≤m∧m<4):(0≤orS m 1∧orS m 1<4)∧bitM (orS m 1) 0=true∧bitM (orS m 1) 1=bitM m 1:=by
 have hm4:m=0∨m=1∨m=2∨m=3:=by omega
 rcases hm4 with rfl | rfl | rfl | rfl<;>decide +kernel
theorem get!_set' {α:Type} [Inhabited α] {a:Array α} {i j:Nat} {x:α} (hi:i<a.size):(a.setIfInBounds i x)[j]! =if i=j then x else a[j]!:=by
 by_cases h:j<a.size
 ·exact get!_set h
 ·rw [if_neg (by omega),getElem!_neg _ j (by simpa using h),getElem!_neg _ j h]
theorem MkI.tree {k x:Nat} {D:Array Int} (h:MkI l d k D) (ht:d[k]!.tr=true) (hx:l.arc d[k]!.slot d[k]!.lv 0=x) (hxD:x<D.size):MkI l d (k+1) (D.setIfInBounds x (orS D[x]! 2)):=by
 obtain ⟨o1,o2,o3⟩:=orS2 (h.rng x hxD)
 refine ⟨by simpa using h.size,fun j hj=>?_,fun j hj=>?_,fun j hj=>?_⟩<;>rw [get!_set' hxD]<;>have hj':j<D.size:=by simpa using hj
 ·split
  ·exact o1
  ·exact h.rng j hj'
 ·by_cases e:x=j
  ·subst e; rw [if_pos rfl]; exact ⟨fun _=>⟨k,by omega,ht,hx⟩,fun _=>o2⟩
  ·rw [if_neg e,h.b1 j hj']
   exact ⟨fun ⟨q,h1,h2⟩=>⟨q,by omega,h2⟩,fun ⟨q,h1,h2,h3⟩=>⟨q,ltk h1 (fun hq=>by subst hq; omega),h2,h3⟩⟩
 ·have:bitM (if x=j then orS D[x]! 2 else D[j]!) 0=bitM D[j]! 0:=by
   by_cases e:x=j
   ·rw [if_pos e,o3,e]
   ·rw [if_neg e]
  rw [this,h.b0 j hj']
  exact ⟨fun ⟨q,h1,h2⟩=>⟨q,by omega,h2⟩,fun ⟨q,h1,h2,h3⟩=>⟨q,ltk h1 (fun hq=>by subst hq; rw [ht] at h2; cases h2),h2,h3⟩⟩
theorem MkI.side {k x y:Nat} {D:Array Int} (h:MkI l d k D) (ht:d[k]!.tr=false) (hx:l.vertex d[k]!.lv d[k]!.u=x) (hy:l.vertex d[k]!.lv d[k]!.v=y) (hxD:x<D.size) (hyD:y<D.size) :
  MkI l d (k+1) ((D.setIfInBounds x (orS D[x]! 1)).setIfInBounds y (orS (D.setIfInBounds x (orS D[x]! 1))[y]! 1)):=by
 obtain ⟨o1,o2,o3⟩:=orS1 (h.rng x hxD)
 generalize hE:D.setIfInBounds x (orS D[x]! 1)=E
 have gE:∀ j,E[j]! =if x=j then orS D[x]! 1 else D[j]!:=fun j=>by rw [←hE]; exact get!_set' hxD
 have zE:E.size=D.size:=by rw [←hE]; simp
 have rE:∀ j,j<D.size→(0≤E[j]!∧E[j]!<4)∧bitM E[j]! 1=bitM D[j]! 1∧(bitM E[j]! 0=true↔(x=j∨bitM D[j]! 0=true)):=fun j hj=>by
  rw [gE j]
  by_cases e:x=j
  ·subst e; rw [if_pos rfl]; exact ⟨o1,o3,fun _=>.inl rfl,fun _=>o2⟩
  ·rw [if_neg e]; exact ⟨h.rng j hj,rfl,fun h=>.inr h,fun h=>h.resolve_left e⟩
 obtain ⟨p1,p2,p3⟩:=orS1 (rE y hyD).1
 have hyE:y<E.size:=by omega
 refine ⟨by simpa [zE] using h.size,fun j hj=>?_,fun j hj=>?_,fun j hj=>?_⟩<;>rw [get!_set' hyE]<;>have hj':j<D.size:=by simpa [zE] using hj
 ·split
  ·exact p1
  ·exact (rE j hj').1
 ·have:bitM (if y=j then orS E[y]! 1 else E[j]!) 1=bitM D[j]! 1:=by
   by_cases e:y=j
   ·rw [if_pos e,p3,e]; exact (rE j hj').2.1
   ·rw [if_neg e]; exact (rE j hj').2.1
  rw [this,h.b1 j hj']
  exact ⟨fun ⟨q,h1,h2⟩=>⟨q,by omega,h2⟩,fun ⟨q,h1,h2,h3⟩=>⟨q,ltk h1 (fun hq=>by subst hq; rw [ht] at h2; cases h2),h2,h3⟩⟩
 ·have:bitM (if y=j then orS E[y]! 1 else E[j]!) 0=true↔(y=j∨x=j∨bitM D[j]! 0=true):=by
   by_cases e:y=j
   ·subst e; rw [if_pos rfl]; exact ⟨fun _=>.inl rfl,fun _=>p2⟩
   ·rw [if_neg e,(rE j hj').2.2]; exact ⟨fun h=>.inr h,fun h=>h.resolve_left e⟩
  rw [this,h.b0 j hj']
  constructor
  ·rintro (rfl | rfl | ⟨q,h1,h2⟩)
   ·exact ⟨k,by omega,ht,.inr hy⟩
   ·exact ⟨k,by omega,ht,.inl hx⟩
   ·exact ⟨q,by omega,h2⟩
  ·rintro ⟨q,h1,h2,h3⟩
   by_cases hq:q=k
   ·subst hq; rcases h3 with h3 | h3
    ·exact .inr (.inl (by omega))
    ·exact .inl (by omega)
   ·exact .inr (.inr ⟨q,by omega,h2,h3⟩)
include hl
theorem MkI.all {D:Array Int} (h:MkI l d d.size D) (hI:InvR l pr σ F mk g L) (hM:Mt g d) {x:Int} (hx:l.nd x):D[x.toNat]! =mk x:=by
 have hxD:x.toNat<D.size:=by have:=h.size; have:=hx.1; have:=hx.2; omega
 have hxi:((x.toNat:Nat):Int)=x:=by have:=hx.1; omega
 have row:=hM.row
 refine zrv (h.rng _ hxD) (hI.lm.forest.mkk x) ?_ ?_<;>refine Bool.eq_iff_iff.2 ?_
 ·rw [h.b0 _ hxD,hxi]
  rcases zfm hl hx with ⟨i,v,hv,rfl⟩ | ⟨s,i,e,hA,rfl⟩
  ·rw [(hI.lm.mv i v hv).1]
   constructor
   ·rintro ⟨q,h1,h2,h3⟩
    obtain ⟨r1,r2,r3,r4,r5⟩:=row q h1
    have hr:=hI.edges.rng _ r1
    have hb:isB d i v q:=by
     rcases h3 with h3 | h3
     ·obtain ⟨e1,e2⟩:=(zch hl ⟨by rw [←r4]; exact hr.2.2,by rw [←r2]; omega⟩ hv).1 h3
      exact ⟨h2,e1,.inl e2⟩
     ·obtain ⟨e1,e2⟩:=(zch hl ⟨by rw [←r4]; exact hr.2.2,by rw [←r3]; omega⟩ hv).1 h3
      exact ⟨h2,e1,.inr e2⟩
    have:=zut hl hI hM hv h1 hb
    exact decide_eq_true fun h0=>by rw [h0] at this; cases this
   ·intro h0
    have h0:=of_decide_eq_true h0
    obtain ⟨y,C,hy⟩:∃ y C,L v i=y :: C:=by cases hc:L v i with | nil=>exact absurd hc h0 | cons y C=>exact ⟨y,C,rfl⟩
    obtain ⟨s,e,h1,h2,⟨h3,h4⟩,h5,h6⟩:=(hI.mem i v hv y).1 (by rw [hy]; simp)
    obtain ⟨q,hq,rfl⟩:=hM.cov s h3
    obtain ⟨r1,r2,r3,r4,r5⟩:=row q hq
    refine ⟨q,hq,by rw [←r5]; exact h4,?_⟩
    rw [←r4,←r2,←r3,h5]
    rcases h2 with rfl | rfl
    ·rw [if_pos rfl] at h6; exact .inl (by rw [h6])
    ·rw [if_neg (by decide)] at h6; exact .inr (by rw [h6])
  ·have:bitM (mk (l.arc s i e)) 0=false:=by
    have he:e=0∨e=1:=by have:=hA.2.2; omega
    rcases he with rfl | rfl
    ·exact (hI.lm.ma s i hA).1
    ·exact (hI.lm.mb s i hA).1
   rw [this]
   refine ⟨fun ⟨q,h1,h2,h3⟩=>?_,fun h=>by cases h⟩
   obtain ⟨r1,r2,r3,r4,r5⟩:=row q h1
   have hr:=hI.edges.rng _ r1
   have a1:=(zau hl hA).2
   rcases h3 with h3 | h3<;>rw [←h3] at a1
   ·rw [(zad hl (i:=d[q]!.lv) (v:=d[q]!.u) ⟨by rw [←r4]; exact hr.2.2,by rw [←r2]; omega⟩).2.1] at a1; simp at a1
   ·rw [(zad hl (i:=d[q]!.lv) (v:=d[q]!.v) ⟨by rw [←r4]; exact hr.2.2,by rw [←r3]; omega⟩).2.1] at a1; simp at a1
 ·rw [h.b1 _ hxD,hxi]
  rcases zfm hl hx with ⟨i,v,hv,rfl⟩ | ⟨s,i,e,hA,rfl⟩
  ·rw [(hI.lm.mv i v hv).2]
   refine ⟨fun ⟨q,h1,h2,h3⟩=>?_,fun h=>by cases h⟩
   obtain ⟨r1,r2,r3,r4,r5⟩:=row q h1
   have hr:=hI.edges.rng _ r1
   have a1:=(zau hl (s:=d[q]!.slot) (i:=d[q]!.lv) (d:=0) ⟨hr.1,by rw [←r4]; exact hr.2.2,by omega⟩).2
   rw [h3,(zad hl hv).2.1] at a1; simp at a1
  ·have he:e=0∨e=1:=by have:=hA.2.2; omega
   have aq:∀ q,q<d.size→l.okA d[q]!.slot d[q]!.lv 0:=fun q h1=>by
    obtain ⟨r1,r2,r3,r4,r5⟩:=row q h1
    have hr:=hI.edges.rng _ r1
    exact ⟨hr.1,by rw [←r4]; exact hr.2.2,by omega⟩
   rcases he with rfl | rfl
   ·rw [(hI.lm.ma s i hA).2]
    constructor
    ·rintro ⟨q,h1,h2,h3⟩
     obtain ⟨r1,r2,r3,r4,r5⟩:=row q h1
     obtain ⟨e1,e2,_⟩:=(zbl hl (aq q h1) hA).1 h3
     subst e1; exact ⟨r1,by rw [r5]; exact h2,by rw [r4]; exact e2⟩
    ·rintro ⟨h1,h2,h3⟩
     obtain ⟨q,hq,rfl⟩:=hM.cov s h1
     obtain ⟨r1,r2,r3,r4,r5⟩:=row q hq
     exact ⟨q,hq,by rw [←r5]; exact h2,by rw [←r4,h3]⟩
   ·rw [(hI.lm.mb s i hA).2]
    refine ⟨fun ⟨q,h1,h2,h3⟩=>?_,fun h=>by cases h⟩
    have:=((zbl hl (aq q h1) hA).1 h3).2.2
    omega
omit hl
noncomputable def grP (g:G) (P:Int→Prop) (s:Int):Int×Int:=by
 classical exact if P s then (g.u s,g.v s) else (-1,-1)
noncomputable abbrev grA (g:G) (i s:Int):Int×Int:=grP g (Pg g i) s
structure GrI (g:G) (d:Array EdR) (i:Int) (k:Nat) (D:Array (Int×Int)):Prop where
 at_:∀ q,q<k→Pg g i d[q]!.slot→D[d[q]!.slot.toNat]! =(d[q]!.u,d[q]!.v)
 no:∀ s,s<D.size→(∀ q,q<k→d[q]!.slot=s→¬Pg g i s)→D[s]! =(-1,-1)
theorem GrI.skip {i:Int} {k:Nat} {D:Array (Int×Int)} (h:GrI g d i k D) (hn:¬Pg g i d[k]!.slot):GrI g d i (k+1) D :=
 ⟨fun q hq hp=>h.at_ q (ltk hq fun e=>by subst e; exact absurd hp hn) hp,fun s hs hq=>h.no s hs fun q h1=>hq q (by omega)⟩
theorem GrI.put (hM:Mt g d) {i:Int} {k s:Nat} {D:Array (Int×Int)} (h:GrI g d i k D) (hk:k<d.size) (hs:d[k]!.slot=s) (hsD:s<D.size) (hp:Pg g i d[k]!.slot) (hr:∀ q,q<d.size→0≤d[q]!.slot):GrI g d i (k+1) (D.setIfInBounds s (d[k]!.u,d[k]!.v)):=by
 refine ⟨fun q hq hp=>?_,fun t ht hq=>?_⟩<;>rw [get!_set' hsD]
 ·by_cases e:q=k
  ·subst e; rw [if_pos (by omega)]
  ·rw [if_neg fun e2=>e (hM.inj q k (by omega) hk (by have:=hr q (by omega); omega))]
   exact h.at_ q (by omega) hp
 ·rw [if_neg fun e=>hq k (by omega) (by omega) (by rw [←e,←hs]; exact hp)]
  exact h.no t (by simpa using ht) fun q h1=>hq q (by omega)
theorem GrI.all (hM:Mt g d) {i:Int} {D:Array (Int×Int)} (h:GrI g d i d.size D) {s:Nat} (hs:s<D.size):D[s]! =grA g i s:=by
 unfold grA grP
 split
 next hp =>
  obtain ⟨q,hq,e⟩:=hM.cov s hp.1
  obtain ⟨r1,r2,r3,r4,r5⟩:=hM.row q hq
  have:=h.at_ q hq (by rw [e]; exact hp)
  rw [e] at this r2 r3
  rw [r2,r3]; simpa using this
 next hp=>exact h.no s hs fun q h1 _=>hp
end
end Go.Tm
namespace Go.Tm
open MemLike Eng
set_option linter.unusedSectionVars false
set_option linter.unusedVariables false
instance:Inhabited T:=⟨.nil⟩
structure SlV where
 a:Option Addr
 n:Nat
 c:Nat
 deriving Inhabited
section
variable {l:Lay} (hl:l.Ok) {σ:M} {mk pr:Int→Int} {F:Int→T} {g:G} {L:Int→Int→List Int} {d:Array EdR}
theorem repU.par:∀ {t:T},repU l mk σ t→∀ y∈t.list,y=t.root∨parent l σ y∈t.list
 | .nil,_,y,hy=>by cases hy
 | .node a x b,h,y,hy=>by
  obtain ⟨h1,h2,h3,h4,h5,h6,h7,h8,h9⟩:=h
  rcases T.mem_node.1 hy with hy | rfl | hy
  ·right
   have hn:=h6.nd y hy
   rcases h6.par y hy with e | e
   ·rw [e,h8 (by rw [←e]; have:=hn.1; omega)]; simp [T.list]
   ·simp [T.list,e]
  ·exact .inl rfl
  ·right
   have hn:=h7.nd y hy
   rcases h7.par y hy with e | e
   ·rw [e,h9 (by rw [←e]; have:=hn.1; omega)]; simp [T.list]
   ·simp [T.list,e]
theorem Forest.first (hF:Forest l pr mk σ F) {x:Int} (hx:l.nd x) (h:parent l σ x=0):(F x).root=x:=by
 rcases (hF.rep x hx).par x (hF.mem x hx) with e | e
 ·exact e.symm
 ·rw [h] at e; have:=((hF.rep x hx).nd 0 e).1; omega
theorem Forest.rootOf (hF:Forest l pr mk σ F) {x:Int} (hx:l.nd x):l.nd (F x).root∧F (F x).root=F x∧parent l σ (F x).root=0∧(F x).root∈(F x).list:=by
 have hr:=hF.rep x hx
 have h0:(F x).root≠0:=fun h=>by
  have:=hF.mem x hx; rw [hr.nil_iff.1 h] at this; cases this
 have hm:=hr.root_mem h0
 exact ⟨hr.nd _ hm,hF.cls x hx _ hm,hF.top x hx,hm⟩
structure Rts (l:Lay) (σ:M) (F:Int→T) (lv:Int) (Rs:Array T) (k:Nat):Prop where
 of:∀ j,j<Rs.size→∃ x,l.nd x∧x≤(k:Int)∧(l.node x).1.level=lv∧parent l σ x=0∧Rs[j]! =F x
 cov:∀ x,l.nd x→x≤(k:Int)→(l.node x).1.level=lv→parent l σ x=0→∃ j,j<Rs.size∧Rs[j]! =F x
 inj:∀ i j,i<Rs.size→j<Rs.size→Rs[i]! =Rs[j]!→i=j
theorem Rts.nil {lv:Int}:Rts l σ F lv #[] 0:=⟨fun j hj=>absurd hj (Nat.not_lt_zero _),fun x hx h=>by have:=hx.1; omega,fun i j hi=>absurd hi (Nat.not_lt_zero _)⟩
theorem Rts.skip {lv:Int} {Rs:Array T} {k:Nat} (h:Rts l σ F lv Rs k) (hn:¬((l.node ((k:Int)+1)).1.level=lv∧parent l σ ((k:Int)+1)=0)):Rts l σ F lv Rs (k+1) :=
 ⟨fun j hj=>let ⟨x,h1,h2,h3⟩:=h.of j hj; ⟨x,h1,by omega,h3⟩,fun x hx h1 h2 h3=>h.cov x hx (by
  rcases Int.lt_or_le (k:Int) x with hh | hh
  ·have:x=(k:Int)+1:=by omega
   subst this; exact absurd ⟨h2,h3⟩ hn
  ·exact hh) h2 h3,h.inj⟩
theorem Rts.push (hF:Forest l pr mk σ F) {lv:Int} {Rs:Array T} {k:Nat} (h:Rts l σ F lv Rs k) (hk:l.nd ((k:Int)+1)) (h1:(l.node ((k:Int)+1)).1.level=lv) (h2:parent l σ ((k:Int)+1)=0):Rts l σ F lv (Rs++#[F ((k:Int)+1)]) (k+1):=by
 have g1:∀ j,j<Rs.size→(Rs++#[F ((k:Int)+1)])[j]! =Rs[j]!:=fun j hj=>get!_app hj
 have g2:(Rs++#[F ((k:Int)+1)])[Rs.size]! =F ((k:Int)+1):=by simp
 have hne:∀ j,j<Rs.size→Rs[j]!≠F ((k:Int)+1):=fun j hj e=>by
  obtain ⟨x,a1,a2,a3,a4,a5⟩:=h.of j hj
  have:=hF.first a1 a4
  have h9:=hF.first hk h2
  rw [←e,a5,this] at h9; omega
 refine ⟨fun j hj=>?_,fun x hx h3 h4 h5=>?_,fun i j hi hj e=>?_⟩
 ·by_cases hj':j<Rs.size
  ·rw [g1 j hj']; obtain ⟨x,a1,a2,a3⟩:=h.of j hj'; exact ⟨x,a1,by omega,a3⟩
  ·obtain rfl:j=Rs.size:=by simp at hj; omega
   rw [g2]; exact ⟨_,hk,by omega,h1,h2,rfl⟩
 ·by_cases hx':x=(k:Int)+1
  ·subst hx'; exact ⟨Rs.size,by simp,g2⟩
  ·obtain ⟨j,hj,e⟩:=h.cov x hx (by omega) h4 h5
   exact ⟨j,by simp; omega,by rw [g1 j hj]; exact e⟩
 ·simp at hi hj
  by_cases hi':i<Rs.size<;>by_cases hj':j<Rs.size
  ·rw [g1 i hi',g1 j hj'] at e; exact h.inj i j hi' hj' e
  ·obtain rfl:j=Rs.size:=by omega
   rw [g1 i hi',g2] at e; exact absurd e (hne i hi')
  ·obtain rfl:i=Rs.size:=by omega
   rw [g1 j hj',g2] at e; exact absurd e.symm (hne j hj')
  ·omega
include hl
theorem Rts.tree (hF:Forest l pr mk σ F) {lv:Int} {Rs:Array T} {k j:Nat} (h:Rts l σ F lv Rs k) (hj:j<Rs.size):∃ x,l.nd x∧(l.node x).1.level=lv∧Rs[j]! =F x∧repU l mk σ Rs[j]!∧Rs[j]!.list.Nodup∧heap pr Rs[j]!∧Rs[j]!.size≤560∧(Rs[j]!.root≠0→parent l σ Rs[j]!.root=0)∧0<Rs[j]!.size:=by
 obtain ⟨x,a1,a2,a3,a4,a5⟩:=h.of j hj
 rw [a5]
 exact ⟨x,a1,a3,rfl,hF.rep x a1,hF.nodup x a1,hF.heap x a1,hF.rowLen hl a1,fun _=>hF.top x a1,List.length_pos_of_mem (hF.mem x a1)⟩
omit hl
theorem Rts.dis (hF:Forest l pr mk σ F) {lv:Int} {Rs:Array T} {k i j:Nat} (h:Rts l σ F lv Rs k) (hi:i<Rs.size) (hj:j<Rs.size) {z:Int} (h1:z∈Rs[i]!.list) (h2:z∈Rs[j]!.list):i=j:=by
 obtain ⟨x,a1,a2,a3,a4,a5⟩:=h.of i hi
 obtain ⟨y,b1,b2,b3,b4,b5⟩:=h.of j hj
 rw [a5] at h1; rw [b5] at h2
 exact h.inj i j hi hj (by rw [a5,b5,←hF.cls x a1 z h1,←hF.cls y b1 z h2])
theorem Rts.le (hF:Forest l pr mk σ F) {lv:Int} {Rs:Array T} {k:Nat} (h:Rts l σ F lv Rs k):Rs.size≤k:=by
 have:=zfk ((List.range Rs.size).map fun j=>Rs[j]!.root) ((List.range k).map fun i:Nat=>(i:Int)+1) ?_ ?_
 ·simpa using this
 ·refine List.pairwise_map.2 (List.nodup_range.imp_of_mem fun {a b} ha hb hne he=>hne ?_)
  have ha:=List.mem_range.1 ha; have hb:=List.mem_range.1 hb
  obtain ⟨x,a1,a2,a3,a4,a5⟩:=h.of a ha
  obtain ⟨y,b1,b2,b3,b4,b5⟩:=h.of b hb
  have ea:=hF.first a1 a4; have eb:=hF.first b1 b4
  rw [a5,b5,ea,eb] at he
  exact h.inj a b ha hb (by rw [a5,b5,he])
 ·intro z hz
  obtain ⟨j,hj,rfl⟩:=List.mem_map.1 hz
  obtain ⟨x,a1,a2,a3,a4,a5⟩:=h.of j (List.mem_range.1 hj)
  rw [a5,hF.first a1 a4]
  exact List.mem_map.2 ⟨(x - 1).toNat,List.mem_range.2 (by have:=a1.1; omega),by have:=a1.1; omega⟩
theorem Rts.all (hF:Forest l pr mk σ F) {lv:Int} {Rs:Array T} {k:Nat} (hk:(k:Int)=l.nodes) (h:Rts l σ F lv Rs k) (hlev:∀ x,l.nd x→∀ y∈(F x).list,(l.node y).1.level=(l.node x).1.level) {x:Int} (hx:l.nd x) (hv:(l.node x).1.level=lv):∃ j,j<Rs.size∧Rs[j]! =F x:=by
 obtain ⟨r1,r2,r3,r4⟩:=hF.rootOf hx
 obtain ⟨j,hj,e⟩:=h.cov _ r1 (by have:=r1.2; omega) ((hlev x hx _ r4).trans hv) r3
 exact ⟨j,hj,e.trans r2⟩
include hl
omit hl
def zhU (Rs:Array T) (k:Nat) (A:List Int) (D:Array Int):Prop:=∀ x,x<D.size→D[x]! =if (∃ j,j<k∧(x:Int)∈Rs[j]!.list)∨(x:Int)∈A then 1 else 0
theorem zhU.start {Rs:Array T} {N:Nat}:zhU Rs 0 [] (Array.replicate N 0):=fun x hx=>by
 rw [getElem!_pos _ x hx,if_neg (fun h=>by rcases h with ⟨j,h,_⟩ | h; exact absurd h (Nat.not_lt_zero _); cases h)]; simp
theorem zhU.next {Rs:Array T} {k x:Nat} {A:List Int} {D:Array Int} (h:zhU Rs k A D) (hx:x<D.size) (h1:∀ j,j<k→(x:Int)∉Rs[j]!.list) (h2:(x:Int)∉A):zhU Rs k (A++[(x:Int)]) (D.setIfInBounds x (D[x]!+1)):=fun y hy=>by
 rw [get!_set' hx]
 by_cases e:x=y
 ·subst e
  rw [if_pos rfl,if_pos (.inr (by simp)),h x hx,if_neg (fun hc=>by rcases hc with ⟨j,a,b⟩ | a; exact h1 j a b; exact h2 a)]; rfl
 ·rw [if_neg e,h y (by simpa using hy)]
  have:((y:Int)∈A++[(x:Int)])↔(y:Int)∈A:=by simp; omega
  simp only [this]
theorem zhU.row {Rs:Array T} {k:Nat} {t:T} {D:Array Int} (h:zhU Rs k t.list D) (hk:k=Rs.size):zhU (Rs++#[t]) (k+1) [] D:=fun y hy=>by
 subst hk
 rw [h y hy]
 have g2:(Rs++#[t])[Rs.size]! =t:=by simp
 have:((∃ j,j<Rs.size+1∧(y:Int)∈(Rs++#[t])[j]!.list)∨(y:Int)∈([]:List Int))↔((∃ j,j<Rs.size∧(y:Int)∈Rs[j]!.list)∨(y:Int)∈t.list):=by
  constructor
  ·rintro (⟨j,a,b⟩ | a)
   ·by_cases hj:j<Rs.size
    ·rw [get!_app hj] at b; exact .inl ⟨j,hj,b⟩
    ·obtain rfl:j=Rs.size:=by omega
     rw [g2] at b; exact .inr b
   ·cases a
  ·rintro (⟨j,a,b⟩ | a)
   ·exact .inl ⟨j,by omega,by rw [get!_app a]; exact b⟩
   ·exact .inl ⟨Rs.size,by omega,by rw [g2]; exact a⟩
 simp only [this]
theorem zhU.step {pr:Int→Int} (hF:Forest l pr mk σ F) {lv:Int} {Rs:Array T} {k q z:Nat} {D:Array Int} (h:zhU Rs Rs.size ((F ((k:Int)+1)).list.take q) D) (hR:Rts l σ F lv Rs k) (hk:l.nd ((k:Int)+1)) (hp:parent l σ ((k:Int)+1)=0) (hv:(l.node ((k:Int)+1)).1.level=lv)
  (hz:(F ((k:Int)+1)).list[q]! =(z:Int)) (hq:q<(F ((k:Int)+1)).list.length) (hzD:z<D.size):zhU Rs Rs.size ((F ((k:Int)+1)).list.take (q+1)) (D.setIfInBounds z (D[z]!+1)):=by
 have e:(F ((k:Int)+1)).list[q]=(z:Int):=by rw [←hz,getElem!_pos _ q hq]
 rw [List.take_succ_eq_append_getElem hq,e]
 refine h.next hzD (fun j hj hc=>?_) fun hc=>?_
 ·obtain ⟨x,a1,a2,a3,a4,a5⟩:=hR.of j hj
  have h1:=hF.cls x a1 _ (a5▸hc)
  have h2:=hF.cls _ hk (z:Int) (by rw [←e]; exact List.getElem_mem _)
  have f1:=hF.first a1 a4; have f2:=hF.first hk hp
  rw [←h1,h2,f2] at f1; omega
 ·have hnd:=hF.nodup _ hk
  obtain ⟨i,hi,he⟩:=List.mem_iff_getElem.1 hc
  rw [List.getElem_take] at he
  have hi2:i<q:=by have:=List.length_take_le q (F ((k:Int)+1)).list; omega
  have:=(List.getElem_inj (h₀:=by omega) (h₁:=hq) hnd).1 (he.trans e.symm)
  omega
structure RsOk (IA:Assn) (W:Array SlV) (Rs:Array T):Prop where
 size:W.size=Rs.size
 at_:∀ j,j<W.size→W[j]!.n=Rs[j]!.size∧W[j]!.n≤W[j]!.c∧∃ b,(0<W[j]!.n→W[j]!.a=some ⟨b,0,none⟩)∧zaZ IA encI 1 b 0 W[j]!.n (fun q=>Rs[j]!.list[q]!)
theorem RsOk.nil {IA:Assn}:RsOk IA #[] #[]:=⟨rfl,fun j hj=>absurd hj (Nat.not_lt_zero _)⟩
theorem zaZ.sub {α:Type} {A C:Assn} {enc:α→List Value} {k b off n:Nat} {f:Nat→α} (h:zaZ A enc k b off n f) (hs:∀ x,C x→∃ y,HF.sub y x∧A y):zaZ C enc k b off n f:=fun x hx i hi=>by
 obtain ⟨y,h1,h2⟩:=hs x hx
 obtain ⟨cs,T,fz,h3,h4⟩:=h y h2 i hi
 exact ⟨cs,T,fz,h1 _ _ h3,h4⟩
def both (A B:Assn):Assn:=fun h=>(∃ f,HF.sub f h∧A f)∧∃ g,HF.sub g h∧B g
theorem RsOk.push {IA B:Assn} {W:Array SlV} {Rs:Array T} (h:RsOk IA W Rs) {s:SlV} {t:T} {b:Nat} (hn:s.n=t.size) (hc:s.n≤s.c) (ha:0<s.n→s.a=some ⟨b,0,none⟩) (hB:zaZ B encI 1 b 0 s.n (fun q=>t.list[q]!)):RsOk (both IA B) (W++#[s]) (Rs++#[t]):=by
 have g2:(Rs++#[t])[Rs.size]! =t:=by simp
 have g3:(W++#[s])[W.size]! =s:=by simp
 have hz:=h.size
 refine ⟨by simp [hz],fun j hj=>?_⟩
 by_cases hj':j<W.size
 ·rw [get!_app hj',get!_app (by omega)]
  obtain ⟨a1,a2,b',a3,a4⟩:=h.at_ j hj'
  exact ⟨a1,a2,b',a3,zaZ.sub a4 fun x hx=>hx.1⟩
 ·obtain rfl:j=W.size:=by simp at hj; omega
  rw [g3,show W.size=Rs.size from hz,g2]
  exact ⟨hn,hc,b,ha,zaZ.sub hB fun x hx=>hx.2⟩
theorem zvr {x y:Int} (h:ab pr x y):¬ab pr y x:=by unfold ab at *; omega
def AtI (m n i at_:Nat):Prop:=i≤n∧at_<n∧(i≤m→at_<m∨at_=0)∧(m<i→at_=m)
theorem AtI.start {m n:Nat} (h:0<n):AtI m n 0 0:=⟨by omega,h,fun _=>.inr rfl,fun h=>by omega⟩
section
variable {a b:T} {x:Int} {m n i q:Nat}
theorem zs1 (hm:m=a.size):(T.node a x b).list[m]! =x:=by
 subst hm; rw [T.list,T.size,getElem!_pos _ _ (by simp)]; simp
theorem zsZ {j:Nat} (h:j<a.size):(T.node a x b).list[j]! =a.list[j]!:=by
 have h':j<a.list.length:=h
 rw [T.list,getElem!_pos _ j (by simp; omega),getElem!_pos _ j h',List.getElem_append_left h']
theorem zs0 {j:Nat} (h:j<b.size):(T.node a x b).list[a.size+1+j]! =b.list[j]!:=by
 have h':j<b.list.length:=h
 have e:a.size+1+j=a.list.length+(j+1):=by unfold T.size; omega
 rw [T.list,e,getElem!_pos _ _ (by simp; omega),getElem!_pos _ j h',List.getElem_append_right (by omega)]
 simp
theorem ztd (hh:heap pr (T.node a x b)) {j:Nat} (hj:j<(T.node a x b).size) (hne:j≠a.size):ab pr x (T.node a x b).list[j]!:=by
 have hs:=T.size_node (a:=a) (b:=b) (x:=x)
 obtain ⟨h1,h2,_⟩:=hh
 by_cases h:j<a.size
 ·rw [zsZ h,getElem!_pos _ j (show j<a.list.length from h)]; exact h1 _ (List.getElem_mem _)
 ·have e:j=a.size+1+(j - (a.size+1)):=by omega
  have hb:j - (a.size+1)<b.list.length:=by show _<b.size; omega
  rw [e,zs0 (by omega),getElem!_pos b.list _ hb]; exact h2 _ (List.getElem_mem _)
theorem AtI.up (hh:heap pr (T.node a x b)) (h:AtI a.size (T.node a x b).size i q) (hi:i<(T.node a x b).size) (hc:ab pr (T.node a x b).list[i]! (T.node a x b).list[q]!):AtI a.size (T.node a x b).size (i+1) i:=by
 have hs:=T.size_node (a:=a) (b:=b) (x:=x)
 obtain ⟨h1,h2,h3,h4⟩:=h
 refine ⟨by omega,hi,fun h=>by omega,fun h=>?_⟩
 by_cases e:i=a.size
 ·exact e
 ·obtain rfl:=h4 (by omega)
  rw [zs1 rfl] at hc
  exact absurd hc (zvr (ztd hh hi e))
theorem AtI.end (h:AtI a.size (T.node a x b).size i q) (hi:¬i<(T.node a x b).size):q=a.size:=by
 have hs:=T.size_node (a:=a) (b:=b) (x:=x)
 exact h.2.2.2 (by have:=h.1; omega)
end
end
structure CelI (l:Lay) (pr:Int→Int) (k:Nat) (A:Array Int) (B:Array Bool):Prop where
 a:A.size=k+1
 b:B.size=k+1
 pv:∀ x:Nat,1≤x→x≤k→A[x]! =pr (x:Int)
 vv:∀ x:Nat,1≤x→x≤k→B[x]! =!(l.node (x:Int)).1.arc
theorem CelI.start {l:Lay} {pr:Int→Int} {a:Int} {b:Bool}:CelI l pr 0 #[a] #[b]:=⟨rfl,rfl,fun x h1 h2=>by omega,fun x h1 h2=>by omega⟩
theorem CelI.push {l:Lay} {pr:Int→Int} {k:Nat} {A:Array Int} {B:Array Bool} {p:Int} {v:Bool} (h:CelI l pr k A B) (hp:p=pr ((k:Int)+1)) (hv:v=!(l.node ((k:Int)+1)).1.arc):CelI l pr (k+1) (A++#[p]) (B++#[v]):=by
 have ha:=h.a; have hb:=h.b
 have e1:(A++#[p])[k+1]! =p:=by have:=get!_app2 (a:=A) (b:=#[p]) (j:=0) (by simp); rw [ha] at this; simpa using this
 have e2:(B++#[v])[k+1]! =v:=by have:=get!_app2 (a:=B) (b:=#[v]) (j:=0) (by simp); rw [hb] at this; simpa using this
 refine ⟨by simp [ha],by simp [hb],fun x h1 h2=>?_,fun x h1 h2=>?_⟩
 ·by_cases e:x=k+1
  ·subst e; rw [e1,hp]; rfl
  ·rw [get!_app (by omega)]; exact h.pv x h1 (by omega)
 ·by_cases e:x=k+1
  ·subst e; rw [e2,hv]; rfl
  ·rw [get!_app (by omega)]; exact h.vv x h1 (by omega)
theorem zmx (x:Int):(encU x).length=1∧∀ u∈encU x,u.oneCell'=true:=⟨rfl,by intro u hu; simp only [encU,List.mem_cons,List.not_mem_nil,or_false] at hu; subst hu; rfl⟩
end Go.Tm
namespace Go.Tm
open MemLike Eng
set_option linter.unusedSectionVars false
set_option linter.unusedVariables false
theorem zhM {s:Int} {P:Int→Prop} {eu ev:Int→Int} {x y:Int}:Conn (fun q=>q=s∨P q) eu ev x y↔Conn P eu ev x y∨(Conn P eu ev x (eu s)∧Conn P eu ev (ev s) y)∨(Conn P eu ev x (ev s)∧Conn P eu ev (eu s) y):=by
 constructor
 ·intro h
  induction h with
  | refl=>exact .inl (.refl _)
  | @step w z hw q hq he ih =>
   rcases hq with rfl | hq
   ·rcases he with ⟨rfl,rfl⟩ | ⟨rfl,rfl⟩
    ·rcases ih with h | ⟨h1,h2⟩ | ⟨h1,h2⟩
     ·exact .inr (.inl ⟨h,.refl _⟩)
     ·exact .inr (.inl ⟨h1,.refl _⟩)
     ·exact .inl h1
    ·rcases ih with h | ⟨h1,h2⟩ | ⟨h1,h2⟩
     ·exact .inr (.inr ⟨h,.refl _⟩)
     ·exact .inl h1
     ·exact .inr (.inr ⟨h1,.refl _⟩)
   ·have st:∀ {a},Conn P eu ev a w→Conn P eu ev a z:=fun c=>.step c q hq he
    rcases ih with h | ⟨h1,h2⟩ | ⟨h1,h2⟩
    ·exact .inl (st h)
    ·exact .inr (.inl ⟨h1,st h2⟩)
    ·exact .inr (.inr ⟨h1,st h2⟩)
 ·have up:∀ {a b},Conn P eu ev a b→Conn (fun q=>q=s∨P q) eu ev a b:=fun c=>c.mono fun q hq=>.inr hq
  have e:Conn (fun q=>q=s∨P q) eu ev (eu s) (ev s):=.step (.refl _) s (.inl rfl) (.inl ⟨rfl,rfl⟩)
  rintro (h | ⟨h1,h2⟩ | ⟨h1,h2⟩)
  ·exact up h
  ·exact ((up h1).trans e).trans (up h2)
  ·exact ((up h1).trans e.symm).trans (up h2)
theorem zf3 {α:Type} {p q r:α→Bool}:∀ {l:List α},(∀ x∈l,r x=(p x || q x))→(∀ x∈l,p x=true→q x=false)→l.countP r=l.countP p+l.countP q
 | [],_,_=>rfl
 | x :: l,h,hd=>by
  have ih:=zf3 (l:=l) (fun y hy=>h y (by simp [hy])) (fun y hy=>hd y (by simp [hy]))
  have h1:=h x (by simp); have h2:=hd x (by simp)
  simp only [List.countP_cons,ih,h1]
  cases hp:p x<;>cases hq:q x<;>simp_all<;>omega
theorem ze6 {α:Type} {p:α→Bool}:∀ {l:List α},(∀ x∈l,p x=false)→l.countP p=0
 | [],_=>rfl
 | x :: l,h=>by rw [List.countP_cons,ze6 fun y hy=>h y (by simp [hy]),h x (by simp)]; rfl
theorem znm {α:Type} {p q:α→Bool} {l:List α} (h:∀ x∈l,p x=q x):l.countP p=l.countP q:=List.countP_congr fun x hx=>by rw [h x hx]
theorem zuo {a b:Prop} [Decidable a] [Decidable b] (h:a↔b):decide a=decide b:=by
 by_cases hb:b<;>simp [h,hb]
section
open Classical
noncomputable def ne (l:Lay) (g:G) (i u:Int):Nat:=(List.range l.S).countP fun q:Nat=>decide (Pg g i q∧Jn g i u (g.u q))
section
variable {l:Lay} (hl:l.Ok) {σ:M} {mk pr:Int→Int} {F:Int→T} {g:G} {L:Int→Int→List Int} {d:Array EdR}
include hl
end
end
section
variable {l:Lay} (hl:l.Ok) {σ:M} {mk pr:Int→Int} {F:Int→T} {g:G} {L:Int→Int→List Int} {d:Array EdR}
include hl
omit hl
def cutW (x y:Int):Nat→List Int→List Int×List Int
 | _,[]=>([],[])
 | s,z :: r=>if z=x∨z=y then cutW x y (s+1) r else if s=1 then (z :: (cutW x y s r).1,(cutW x y s r).2) else ((cutW x y s r).1,z :: (cutW x y s r).2)
theorem NmOk.arcs {l:Lay} (hl:l.Ok) {n:Nm} {x:Int} (h:NmOk l n x) (hk:¬n.k=1):n.k=2∧l.okA n.a n.b n.c∧x=l.arc n.a n.b n.c∧(l.node x).1.arc=true:=by
 rcases h.as with ⟨h1,_⟩ | ⟨h1,h2,h3⟩
 ·omega
 ·refine ⟨h1,h2,h3.symm,?_⟩
  rw [←h3,(zau hl h2).2]
structure CutI (x y:Int) (r:List Int) (k s:Nat) (I O:List Int):Prop where
 eq:cutW x y 0 r=(I++(cutW x y s (r.drop k)).1,O++(cutW x y s (r.drop k)).2)
 hi:I.length≤k
 ho:O.length≤k
 hs:s≤k
theorem CutI.start {x y:Int} {r:List Int}:CutI x y r 0 0 [] []:=⟨by simp,Nat.le_refl _,Nat.le_refl _,Nat.le_refl _⟩
theorem CutI.arc {x y:Int} {r:List Int} {k s:Nat} {I O:List Int} (h:CutI x y r k s I O) (hk:k<r.length) (hz:r[k]! =x∨r[k]! =y):CutI x y r (k+1) (s+1) I O:=by
 have e:=h.eq
 rw [List.drop_eq_getElem_cons hk,←getElem!_pos r k hk,cutW,if_pos hz] at e
 exact ⟨e,by have:=h.hi; omega,by have:=h.ho; omega,by have:=h.hs; omega⟩
theorem CutI.end {x y:Int} {r:List Int} {k s:Nat} {I O:List Int} (h:CutI x y r k s I O) (hk:¬k<r.length):cutW x y 0 r=(I,O):=by
 have e:=h.eq
 rw [List.drop_of_length_le (by omega)] at e
 simpa [cutW] using e
end
section
variable {l:Lay} (hl:l.Ok) {σ:M} {mk pr:Int→Int} {F:Int→T} {g:G} {L:Int→Int→List Int} {d:Array EdR}
def UsI (d:Array EdR) (k:Nat) (D:Array Int):Prop:=∀ s,s<D.size→D[s]! =if ∃ q,q<k∧d[q]!.slot=(s:Int) then 1 else 0
theorem UsI.start {N:Nat}:UsI d 0 (Array.replicate N 0):=fun s hs=>by
 rw [getElem!_pos _ s hs,if_neg fun ⟨q,h,_⟩=>absurd h (Nat.not_lt_zero _)]; simp
theorem UsI.b {k s:Nat} {D:Array Int} (h:UsI d k D) (hs:s<D.size):0≤D[s]!∧D[s]!≤1:=by rw [h s hs]; split<;>omega
theorem UsI.step (hM:Mt g d) {k s:Nat} {D:Array Int} (h:UsI d k D) (hk:k<d.size) (hs:d[k]!.slot=(s:Int)) (hsD:s<D.size):UsI d (k+1) (D.setIfInBounds s (D[s]!+1)):=fun t ht=>by
 rw [get!_set' hsD]
 by_cases e:s=t
 ·subst e
  rw [if_pos rfl,h s hsD,if_neg fun ⟨q,h1,h2⟩=>by have:=hM.inj q k (by omega) hk (by omega); omega,if_pos ⟨k,by omega,hs⟩]; rfl
 ·rw [if_neg e,h t (by simpa using ht)]
  have:(∃ q,q<k∧d[q]!.slot=(t:Int))↔∃ q,q<k+1∧d[q]!.slot=(t:Int):=⟨fun ⟨q,h1,h2⟩=>⟨q,by omega,h2⟩,fun ⟨q,h1,h2⟩=>⟨q,ltk h1 fun e2=>by subst e2; omega,h2⟩⟩
  simp only [this]
include hl
end
end Go.Tm
namespace Go.Tm
open MemLike Eng
set_option linter.unusedSectionVars false
set_option linter.unusedVariables false
theorem Mt.find {g:G} {d e:Array EdR} (h:Mt g d) (h':Mt g e) {j:Nat} (hj:j<e.size):∃ i:Nat,i<d.size∧slotN (fun i=>d[i]!) e[j]!.slot d.size=(i:Int)∧d[i]! =e[j]!:=by
 obtain ⟨r1,r2,r3,r4,r5⟩:=h'.row j hj
 rcases zeV (f:=fun i=>d[i]!) (s:=e[j]!.slot) (n:=d.size) with ⟨_,h2⟩ | ⟨i,hi,h1,h2⟩
 ·obtain ⟨i,hi,hs⟩:=h.cov _ r1
  exact absurd hs (h2 i hi)
 ·refine ⟨i,hi,h1,?_⟩
  obtain ⟨q1,q2,q3,q4,q5⟩:=h.row i hi
  have h2:d[i]!.slot=e[j]!.slot:=h2
  rw [h2] at q2 q3 q4 q5
  have e1:d[i]!.u=e[j]!.u:=q2.symm.trans r2
  have e2:d[i]!.v=e[j]!.v:=q3.symm.trans r3
  have e3:d[i]!.lv=e[j]!.lv:=q4.symm.trans r4
  have e4:d[i]!.tr=e[j]!.tr:=q5.symm.trans r5
  cases hx:d[i]!; cases hy:e[j]!
  rw [hx,hy] at h2 e1 e2 e3 e4
  simp only at h2 e1 e2 e3 e4
  subst h2 e1 e2 e3 e4; rfl
end Go.Tm
namespace Go.Tm
open MemLike Eng
set_option linter.unusedSectionVars false
set_option linter.unusedVariables false
def upL (P:Nat→Bool):Nat→List Int
 | 0=>[]
 | j+1=>if P j then upL P j++[(j:Int)] else upL P j
theorem upL_T {P:Nat→Bool} {j:Nat} (h:P j=true):upL P (j+1)=upL P j++[(j:Int)]:=by rw [upL,if_pos h]
theorem upL_F {P:Nat→Bool} {j:Nat} (h:P j=false):upL P (j+1)=upL P j:=by rw [upL,if_neg (by rw [h]; decide)]
theorem zku {P:Nat→Bool} {x:Int}:∀ {n:Nat},x∈upL P n↔∃ j:Nat,j<n∧P j=true∧x=(j:Int)
 | 0=>by simp [upL]
 | n+1=>by
  cases h:P n with
  | true =>
   rw [upL_T h,List.mem_append,zku]
   constructor
   ·rintro (⟨j,h1,h2,h3⟩ | h3)
    ·exact ⟨j,by omega,h2,h3⟩
    ·exact ⟨n,by omega,h,List.mem_singleton.1 h3⟩
   ·rintro ⟨j,h1,h2,h3⟩
    by_cases e:j=n
    ·subst e; exact .inr (by simp [h3])
    ·exact .inl ⟨j,by omega,h2,h3⟩
  | false =>
   rw [upL_F h,zku]
   exact ⟨fun ⟨j,h1,h2⟩=>⟨j,by omega,h2⟩,fun ⟨j,h1,h2,h3⟩=>⟨j,ltk h1 fun e=>(by subst e; rw [h] at h2; cases h2),h2,h3⟩⟩
structure UpI (d:Array EdR) (r:List Int) (k:Nat) (D:Array EdR):Prop where
 size:D.size=d.size
 at_:∀ j,j<d.size→D[j]! =if (j:Int)∈r.take k then { d[j]! with lv:=d[j]!.lv+1 } else d[j]!
theorem UpI.start {d:Array EdR} {r:List Int}:UpI d r 0 d:=⟨rfl,fun j hj=>by rw [List.take_zero,if_neg (by simp)]⟩
theorem UpI.step {d:Array EdR} {r:List Int} {k q:Nat} {D:Array EdR} (h:UpI d r k D) (hk:k<r.length) (hq:r[k]! =(q:Int)) (hnd:r.Nodup) (hqd:q<d.size):D[q]! =d[q]!∧UpI d r (k+1) (D.setIfInBounds q { D[q]! with lv:=D[q]!.lv+1 }):=by
 have e:r[k]=(q:Int):=by rw [←hq,getElem!_pos r k hk]
 have hno:(q:Int)∉r.take k:=fun hm=>by
  obtain ⟨i,hi,he⟩:=List.mem_iff_getElem.1 hm
  rw [List.getElem_take] at he
  have hi2:i<k:=by have:=List.length_take_le k r; omega
  have:=(List.getElem_inj (h₀:=by omega) (h₁:=hk) hnd).1 (he.trans e.symm)
  omega
 have h0:D[q]! =d[q]!:=by rw [h.at_ q hqd,if_neg hno]
 refine ⟨h0,by simpa using h.size,fun j hj=>?_⟩
 rw [get!_set' (by rw [h.size]; exact hqd),List.take_succ_eq_append_getElem hk,e]
 by_cases ej:q=j
 ·subst ej; rw [if_pos rfl,if_pos (by simp),h0]
 ·have:((j:Int)∈r.take k++[(q:Int)])↔(j:Int)∈r.take k:=by simp; omega
  rw [if_neg ej,h.at_ j hj]; simp only [this]
section
variable {l:Lay} (hl:l.Ok) {pr:Int→Int} {σ:M} {g g':G} {d:Array EdR}
theorem Mt.up (hM:Mt g d) {i:Int} {C:Int→Prop} (h:Raised g g' i C) {P:Nat→Bool} (hC:∀ j,j<d.size→(P j=true↔C d[j]!.slot)) {D:Array EdR} {k:Nat} (hU:UpI d (upL P d.size) k D) (hk:(upL P d.size).length≤k):Mt g' D:=by
 have at_:∀ j,j<d.size→D[j]! =if P j then { d[j]! with lv:=d[j]!.lv+1 } else d[j]!:=fun j hj=>by
  rw [hU.at_ j hj,List.take_of_length_le hk]
  have:((j:Int)∈upL P d.size)↔P j=true:=by
   rw [zku]
   constructor
   ·rintro ⟨j',h1,h2,h3⟩
    obtain rfl:j=j':=by omega
    exact h2
   ·exact fun h=>⟨j,hj,h,rfl⟩
  by_cases hp:P j=true
  ·rw [if_pos (this.2 hp),if_pos hp]
  ·rw [if_neg fun h=>hp (this.1 h),if_neg hp]
 have sl:∀ j,j<d.size→D[j]!.slot=d[j]!.slot∧D[j]!.u=d[j]!.u∧D[j]!.v=d[j]!.v∧D[j]!.tr=d[j]!.tr:=fun j hj=>by
  rw [at_ j hj]; split<;>exact ⟨rfl,rfl,rfl,rfl⟩
 have hz:=hU.size
 refine ⟨fun j hj=>?_,fun s hs=>?_,fun a b ha hb he=>?_⟩
 ·have hj:j<d.size:=by omega
  obtain ⟨s1,s2,s3,s4⟩:=sl j hj
  obtain ⟨r1,r2,r3,r4,r5⟩:=hM.row j hj
  rw [s1,s2,s3,s4,h.has,h.u,h.v,h.tr]
  refine ⟨r1,r2,r3,?_,r5⟩
  rw [at_ j hj]
  by_cases hp:P j=true
  ·rw [if_pos hp]
   obtain ⟨c1,c2,c3⟩:=h.up _ ((hC j hj).1 hp)
   rw [c3]; show _=d[j]!.lv+1; omega
  ·rw [if_neg hp,h.st _ fun c=>hp ((hC j hj).2 c)]; exact r4
 ·rw [h.has] at hs
  obtain ⟨j,hj,e⟩:=hM.cov s hs
  exact ⟨j,by omega,by rw [(sl j hj).1]; exact e⟩
 ·rw [(sl a (by omega)).1,(sl b (by omega)).1] at he
  exact hM.inj a b (by omega) (by omega) he
end
noncomputable def trP (d:Array EdR) (lv v:Int) (j:Nat):Bool:=d[j]!.tr && decide (d[j]!.lv=lv) && zbC d lv d[j]!.u v
theorem Rel.trees {l:Lay} (hl:l.Ok) {pr:Int→Int} {σ:M} {d:Array EdR} (h:Rel l pr σ d) {lv v:Int} (hv:l.okV lv v) (hi:lv+1<l.lev):∃ σ',Go.Tm.trees l P1 561 σ lv v=some σ' ∧
  ∀ D k,UpI d (upL (trP d lv v) d.size) k D→(upL (trP d lv v) d.size).length≤k→Rel l pr σ' D:=by
 obtain ⟨g,hR,hM⟩:=h
 obtain ⟨σ',g',e,hR',hRa⟩:=hR.trees hl (zhX hl) hv hi (k:=561) (by decide)
 refine ⟨σ',e,fun D k hU hk=>⟨g',hR',hM.up hRa (fun j hj=>?_) hU hk⟩⟩
 obtain ⟨r1,r2,r3,r4,r5⟩:=hM.row j hj
 unfold trP
 rw [Bool.and_eq_true,Bool.and_eq_true,decide_eq_true_iff,zdT hl hR hM,r5,r4,r2]
 exact ⟨fun ⟨⟨a,b⟩,c⟩=>⟨r1,a,b,c.symm⟩,fun ⟨_,a,b,c⟩=>⟨⟨a,b⟩,c.symm⟩⟩
end Go.Tm
namespace Go.Tm
open MemLike Eng
set_option linter.unusedSectionVars false
set_option linter.unusedVariables false
theorem zaw.edges {l:Lay} {pr:Int→Int} {σ:M} {g:G} (h:zaw l pr σ g):EdgeOk l σ g:=by
 obtain ⟨F,mk,L,hI⟩:=h; exact hI.edges
theorem Mt.size_has {g g':G} {d e:Array EdR} (h:Mt g d) (h':Mt g' e) (hh:g'.has=g.has):d.size=e.size:=by
 have key:∀ {g g':G} {d e:Array EdR},Mt g d→Mt g' e→g'.has=g.has→d.size≤e.size:=fun {g g' d e} h h' hh=>by
  have:=zfk ((List.range d.size).map fun i=>d[i]!.slot) ((List.range e.size).map fun i=>e[i]!.slot) (List.pairwise_map.2 (List.nodup_range.imp_of_mem fun {a b} ha hb hne he=>hne (h.inj a b (List.mem_range.1 ha) (List.mem_range.1 hb) he))) fun s hs=>by
   obtain ⟨i,hi,rfl⟩:=List.mem_map.1 hs
   obtain ⟨j,hj,e1⟩:=h'.cov _ (by rw [hh]; exact (h.row i (List.mem_range.1 hi)).1)
   exact List.mem_map.2 ⟨j,List.mem_range.2 hj,e1⟩
  simpa using this
 exact Nat.le_antisymm (key h h' hh) (key h' h hh.symm)
theorem Mt.slotN {g:G} {d:Array EdR} (h:Mt g d) {s:Int} (hs:g.has s=true):∃ q:Nat,q<d.size∧slotN (fun i=>d[i]!) s d.size=(q:Int)∧d[q]!.slot=s:=by
 rcases zeV (f:=fun i=>d[i]!) (s:=s) (n:=d.size) with ⟨_,h2⟩ | ⟨i,hi,h1,h2⟩
 ·obtain ⟨i,hi,he⟩:=h.cov _ hs
  exact absurd he (h2 i hi)
 ·exact ⟨i,hi,h1,h2⟩
structure SeekF (d E:Array EdR) (lv v:Int) (r:Int×Bool) (q j:Nat):Prop where
 a:(d[q]!.tr=true∨¬d[q]!.lv=lv)→E[j]! =d[q]!
 b:d[q]!.tr=false→d[q]!.lv=lv→¬E[j]! =d[q]!→E[j]! ={ d[q]! with lv:=d[q]!.lv+1 }∧zbC d lv d[q]!.u v=true∧zbC d lv d[q]!.v v=true
 c:d[q]!.tr=false→d[q]!.lv=lv→E[j]! =d[q]!→r.2=false→zbC d lv d[q]!.u v=false∧zbC d lv d[q]!.v v=false
 d:d[q]!.tr=false→d[q]!.lv=lv→E[j]! =d[q]!→r.2=true→E[j]!.slot=r.1→(zbC d lv d[q]!.u v == zbC d lv d[q]!.v v)=false
structure SeekOk (d E:Array EdR) (lv v:Int) (r:Int×Bool):Prop where
 size:d.size=E.size
 ed:∀ j,j<E.size→∃ q:Nat,q<d.size∧Go.Tm.slotN (fun i=>d[i]!) E[j]!.slot d.size=(q:Int)∧SeekF d E lv v r q j
 t:r.2=true→∃ q:Nat,q<E.size∧Go.Tm.slotN (fun i=>E[i]!) r.1 E.size=(q:Int)∧E[q]!.tr=false∧E[q]!.lv=lv
 f:r.2=false→r.1=0
theorem Rel.seek {l:Lay} (hl:l.Ok) {pr:Int→Int} {σ:M} {d:Array EdR} (h:Rel l pr σ d) {lv v:Int} (hv:l.okV lv v) (hi:lv+1<l.lev):∃ r σ' g',Go.Tm.seek l 561 σ lv v=some (r,σ')∧zaw l pr σ' g'∧∀ E,Mt g' E→SeekOk d E lv v r:=by
 obtain ⟨g,hR,hM⟩:=h
 obtain ⟨r,σ',g',C,e,hR',hRa,hC,hFo⟩:=hR.seek hl hv hi (k:=561) (by decide)
 refine ⟨r,σ',g',e,hR',fun E hE=>?_⟩
 have fb:∀ {x:Int},zbC d lv x v=true↔Jn g lv v x:=fun {x}=>(zdT hl hR hM).trans ⟨fun c=>c.symm,fun c=>c.symm⟩
 have jn:∀ {x y:Int},Jn g' lv x y↔Jn g lv x y:=hRa.jn hl (Int.le_refl _)
 refine ⟨hM.size_has hE hRa.has,fun j hj=>?_,fun ht=>?_,fun hf=>?_⟩
 ·obtain ⟨r1,r2,r3,r4,r5⟩:=hE.row j hj
  obtain ⟨q,hq,h1,h2⟩:=hM.slotN (s:=E[j]!.slot) (by rw [←hRa.has]; exact r1)
  obtain ⟨q1,q2,q3,q4,q5⟩:=hM.row q hq
  rw [hRa.u] at r2; rw [hRa.v] at r3; rw [hRa.tr] at r5
  rw [h2] at q2 q3 q4 q5
  have eq_of:g'.lv E[j]!.slot=g.lv E[j]!.slot→E[j]! =d[q]!:=fun hlv=>by
   have e1:d[q]!.u=E[j]!.u:=q2.symm.trans r2
   have e2:d[q]!.v=E[j]!.v:=q3.symm.trans r3
   have e3:d[q]!.lv=E[j]!.lv:=by rw [←q4,←r4,hlv]
   have e4:d[q]!.tr=E[j]!.tr:=q5.symm.trans r5
   cases hx:d[q]!; cases hy:E[j]!
   rw [hx,hy] at h2 e1 e2 e3 e4
   simp only at h2 e1 e2 e3 e4
   subst h2 e1 e2 e3 e4; rfl
  have lv_of:E[j]! =d[q]!→g'.lv E[j]!.slot=g.lv E[j]!.slot:=fun he=>by rw [r4,q4,he]
  refine ⟨q,hq,h1,fun ha=>?_,fun ht hl1 hne=>?_,fun ht hl1 he hf=>?_,fun ht hl1 he hf hs=>?_⟩
  ·refine eq_of (hRa.st _ fun c=>?_)
   have c1:=(hC _ c).1; have c2:=(hRa.up _ c).2.1
   rcases ha with ha | ha
   ·rw [q5,ha] at c1; cases c1
   ·exact ha (q4.symm.trans c2)
  ·by_cases c:C E[j]!.slot
   ·obtain ⟨c1,c2,c3⟩:=hC _ c
    refine ⟨?_,fb.2 (by rw [←q2]; exact c2),fb.2 (by rw [←q3]; exact c3)⟩
    have e1:d[q]!.u=E[j]!.u:=q2.symm.trans r2
    have e2:d[q]!.v=E[j]!.v:=q3.symm.trans r3
    have e3:d[q]!.lv+1=E[j]!.lv:=by rw [←r4,(hRa.up _ c).2.2,hl1]
    have e4:d[q]!.tr=E[j]!.tr:=q5.symm.trans r5
    cases hx:d[q]!; cases hy:E[j]!
    rw [hx,hy] at h2 e1 e2 e3 e4
    simp only at h2 e1 e2 e3 e4
    subst h2 e1 e2 e3 e4; rfl
   ·exact absurd (eq_of (hRa.st _ c)) hne
  ·rcases hFo with ⟨_,h4⟩ | ⟨h4,_⟩
   ·obtain ⟨n1,n2⟩:=h4 E[j]!.slot r1 (by rw [hRa.tr,q5]; exact ht) (by rw [lv_of he,q4]; exact hl1)
    rw [jn,hRa.u,q2] at n1; rw [jn,hRa.v,q3] at n2
    exact ⟨Bool.eq_false_iff.2 fun h=>n1 (fb.1 h),Bool.eq_false_iff.2 fun h=>n2 (fb.1 h)⟩
   ·rw [hf] at h4; cases h4
  ·rcases hFo with ⟨h4,_⟩ | ⟨_,h5,h6,h7,h8,h9⟩
   ·rw [h4] at hf; cases hf
   ·rw [←hs] at h8 h9
    rw [jn,hRa.u,hRa.v,q2,q3] at h8
    rw [jn,jn,hRa.u,hRa.v,q2,q3] at h9
    have hx:=fb (x:=d[q]!.u); have hy:=fb (x:=d[q]!.v)
    cases hA:zbC d lv d[q]!.u v<;>cases hB:zbC d lv d[q]!.v v
    ·rcases h9 with h | h
     ·rw [hx.2 h] at hA; cases hA
     ·rw [hy.2 h] at hB; cases hB
    ·rfl
    ·rfl
    ·exact absurd ((hx.1 hA).symm.trans (hy.1 hB)) h8
 ·rcases hFo with ⟨h4,_⟩ | ⟨_,h5,h6,h7,h8,h9⟩
  ·rw [h4] at ht; cases ht
  ·obtain ⟨q,hq,h1,h2⟩:=hE.slotN h5
   obtain ⟨r1,r2,r3,r4,r5⟩:=hE.row q hq
   rw [h2] at r4 r5
   exact ⟨q,hq,h1,by rw [←r5]; exact h6,by rw [←r4]; exact h7⟩
 ·rcases hFo with ⟨h4,_⟩ | ⟨h4,_⟩
  ·rw [h4]
  ·rw [hf] at h4; cases h4
end Go.Tm
namespace Go.Tm
open MemLike Eng
set_option linter.unusedSectionVars false
set_option linter.unusedVariables false
section
variable {l:Lay} (hl:l.Ok) {p:Pen} (hp:PenOk p) {pr:Int→Int} {σ:M} {g:G} {d:Array EdR}
include hl hp
theorem zaw.fell_back (h:zaw l pr σ g) {s:Int} (hh:g.has s=true) (ht:g.tr s=true) {k:Nat} (hk:560<k) :
  ∃ σ1,Go.Tm.fell l p k σ s=some σ1∧(∀ i,0≤i∧i<l.lev→ziY l k σ1 i s=some (false,σ1)∧Go.Tm.same l k σ1 i (g.u s) (g.v s)=some (false,σ1))∧∃ σ2,Go.Tm.plant l p k (zgr l σ1 s 0) s=some σ2∧zaw l pr σ2 (g.lift s 0):=by
 obtain ⟨F,mk,L,h⟩:=h
 have lb:=zcF hl
 have hr:=h.edges.rng s hh
 have hbr:¬Conn (fun q=>Pg g 0 q∧q≠s) g.u g.v (g.u s) (g.v s):=(h.tours 0 (by omega)).bridge hl (by omega) h.lm.forest ⟨hh,ht,hr.2.2.1⟩
 obtain ⟨σ1,F1,mk1,e1,h1⟩:=h.fell hl hp hh (fun a _ ha=>⟨hh,ht,ha⟩) hk
 have hno:∀ i,0≤i→¬(Pg g i s∧¬(s=s∧0≤i∧i≤g.lv s)):=fun i hi hc=>hc.2 ⟨rfl,hi,hc.1.2.2⟩
 have hcn:∀ i,0≤i→¬Conn (fun q=>Pg g i q∧¬(q=s∧0≤i∧i≤g.lv s)) g.u g.v (g.u s) (g.v s):=fun i hi c=>hbr (c.mono fun q hq=>⟨⟨hq.1.1,hq.1.2.1,by have:=hq.1.2.2; omega⟩,fun e=>by subst e; exact hq.2 ⟨rfl,hi,hq.1.2.2⟩⟩)
 refine ⟨σ1,e1,fun i hi=>?_,?_⟩
 ·have hF:=h1.lm.forest
  have hT:=h1.tours i hi
  have o0:l.okA s i 0:=⟨hr.1,hi,by omega⟩
  have o1:l.okA s i 1:=⟨hr.1,hi,by omega⟩
  have n0:=(zau hl o0).1; have n1:=(zau hl o1).1
  have n01:l.arc s i 1≠l.arc s i 0:=fun he=>by have:=((zbl hl o1 o0).1 he).2.2; omega
  constructor
  ·unfold ziY
   rw [hF.root hl n0 hk]
   dsimp only [Option.bind_some]
   rw [hF.root hl n1 hk]
   dsimp only [Option.bind_some]
   rw [decide_eq_false]
   intro he
   have hFF:=(hF.roots hl n0 n1).1 he
   have s0:=hT.single s 0 o0 (hno i hi.1)
   have m1:=hF.mem _ n1
   rw [←hFF,s0] at m1
   exact n01 (List.mem_singleton.1 m1)
  ·have ou:l.okV i (g.u s):=⟨hi,by omega⟩
   have ov:l.okV i (g.v s):=⟨hi,by omega⟩
   obtain ⟨b,e,hb⟩:=hF.same hl ou ov hk
   rw [e]
   have:b=false:=Bool.eq_false_iff.2 fun hbt=>hcn i hi.1 ((hT.row_iff hl hi ou ov).1 (hb.1 hbt))
   rw [this]
 ·have h2:=h1.lift hl hh (fun hB=>by have:=hB.2; rw [ht] at this; cases this) (i:=0) (by omega)
  have el:(g.lift s 0).lv s=0:=by unfold G.lift updI; simp
  obtain ⟨σ2,F2,mk2,e2,h3⟩:=h2.plant hl hp (s:=s) hh (fun a ha ha'=>⟨hno a ha,hcn a ha⟩) hk
  have hg:(g.lift s 0).turn s true=g.lift s 0:=by
   unfold G.lift G.turn updB
   simp only [G.mk.injEq,true_and]
   funext q
   by_cases hq:q=s<;>simp [hq,ht]
  rw [hg,el] at h3
  refine ⟨σ2,e2,F2,mk2,L,h3.iff hl (fun i q hi=>?_) (fun i q hq=>hq.1) (fun q=>?_) (fun q i hq=>?_)⟩
  ·unfold Pg G.lift updI; dsimp only
   by_cases hq:q=s
   ·subst hq; rw [if_pos rfl]
    constructor
    ·rintro (⟨⟨a1,a2,a3⟩,a4⟩ | ⟨_,a5⟩)
     ·exact absurd ⟨rfl,hi.1,a3⟩ a4
     ·exact ⟨hh,ht,a5.2⟩
    ·rintro ⟨a1,a2,a3⟩; exact .inr ⟨rfl,hi.1,a3⟩
   ·rw [if_neg hq]
    exact ⟨fun a=>a.elim (fun a=>a.1) (fun a=>absurd a.1 hq),fun a=>.inl ⟨a,fun b=>hq b.1⟩⟩
  ·exact Iff.rfl
  ·have hi0:=hq.2.1
   unfold Kg G.lift updI; dsimp only
   by_cases hq:q=s
   ·subst hq; rw [if_pos rfl]
    by_cases h0:i=0
    ·subst h0; simp [hh,ht]
    ·rw [if_neg (fun c=>h0 c.2)]
     refine ⟨fun a=>?_,fun a=>absurd a.2.2.symm h0⟩
     split at a
     ·exact absurd a id
     next hc=>exact absurd ⟨rfl,hi0.1,by rw [a.2.2]; exact Int.le_refl _⟩ hc
   ·rw [if_neg (fun c=>hq c.1),if_neg (fun c=>hq c.1),if_neg hq]
omit hp
theorem Rel.back (h:Rel l pr σ d) {i:Nat} (hi:i<d.size) (ht:d[i]!.tr=true):∃ σ1 σ2,Go.Tm.fell l P1 561 σ d[i]!.slot=some σ1∧(∀ a,0≤a∧a<l.lev→ziY l 561 σ1 a d[i]!.slot=some (false,σ1)∧Go.Tm.same l 561 σ1 a d[i]!.u d[i]!.v=some (false,σ1))∧Go.Tm.plant l P1 561 (zgr l σ1 d[i]!.slot 0) d[i]!.slot=some σ2∧Rel l pr σ2 (d.setIfInBounds i { d[i]! with lv:=0 }):=by
 obtain ⟨g,hR,hM⟩:=h
 obtain ⟨r1,r2,r3,r4,r5⟩:=hM.row i hi
 obtain ⟨σ1,e1,hq,σ2,e2,hR2⟩:=hR.fell_back hl (zhX hl) r1 (r5.trans ht) (k:=561) (by decide)
 rw [r2,r3] at hq
 exact ⟨σ1,σ2,e1,hq,e2,_,hR2,hM.lift hl hi⟩
end
end Go.Tm
namespace Go.Tm
open MemLike Eng
set_option linter.unusedSectionVars false
set_option linter.unusedVariables false
theorem zla {l:Lay} (hl:l.Ok) {i:Nat}:((i:Int)<l.lev→1≤l.V / 2 ^ i)∧(l.lev≤(i:Int)+1→l.V / 2 ^ i≤1):=by
 have hb1:=hl.1; have hb2:=hl.2.1
 have lb:=zcF hl
 have key:∀ V:Nat,V≤16→1≤V→(∀ i:Nat,i<6→(((i:Int)<levI V→1≤V / 2 ^ i)∧(levI V≤(i:Int)+1→V / 2 ^ i≤1))):=by decide
 have h:=key l.V (by omega) (by omega)
 by_cases hi:i<6
 ·exact h i hi
 ·refine ⟨fun h=>by omega,fun _=>?_⟩
  have h1:l.V<2 ^ 6:=by have:(2:Nat) ^ 6=64:=rfl; omega
  have h2:(2:Nat) ^ 6≤2 ^ i:=Nat.pow_le_pow_right (by decide) (by omega)
  rw [Nat.div_eq_of_lt (by omega)]; omega
theorem Jn.down {g:G} {i j x y:Int} (h:Jn g i x y) (hj:j≤i):Jn g j x y:=h.mono fun q hq=>⟨hq.1,hq.2.1,by have:=hq.2.2; omega⟩
theorem Jn.trans {g:G} {i x y z:Int} (h:Jn g i x y) (h':Jn g i y z):Jn g i x z:=Conn.trans h h'
theorem Jn.congr {g g':G} {i x y:Int} (hP:∀ q,Pg g' i q↔Pg g i q) (he:∀ q,Pg g i q→g'.u q=g.u q∧g'.v q=g.v q):Jn g' i x y↔Jn g i x y :=
 ⟨fun c=>(c.mono fun q hq=>(hP q).1 hq).ends fun q hq=>he q hq,fun c=>(c.ends fun q hq=>⟨(he q hq).1.symm,(he q hq).2.symm⟩).mono fun q hq=>(hP q).2 hq⟩
section
open Classical
variable {l:Lay} {g g':G}
theorem zb6 {i u:Int} (h:∀ w,Jn g' i u w↔Jn g i u w):nv l g' i u=nv l g i u:=by
 unfold nv; exact znm fun w _=>zuo (h w)
theorem zsY {i u:Int}:nv l g i u≤l.V:=by
 unfold nv; have:=List.countP_le_length (p:=fun w:Nat=>decide (Jn g i u w)) (l:=List.range l.V); simpa using this
theorem zcH {α:Type} {p q:α→Bool}:∀ {r:List α},(∀ x∈r,p x=true→q x=true)→r.countP p≤r.countP q
 | [],_=>Nat.le_refl _
 | x :: r,h=>by
  have ih:=zcH (p:=p) (q:=q) (r:=r) fun y hy=>h y (by simp [hy])
  have h1:=h x (by simp)
  simp only [List.countP_cons]
  cases hp:p x<;>cases hq:q x<;>simp_all<;>omega
theorem zop {i u i' u':Int} (h:∀ w,Jn g i u w→Jn g' i' u' w):nv l g i u≤nv l g' i' u':=by
 unfold nv; exact zcH fun w _ hw=>decide_eq_true (h w (of_decide_eq_true hw))
theorem zrU {i u v:Int} (hu:0≤u∧u<l.V) (hv:0≤v∧v<l.V) (hne:u≠v) (h:Jn g i u v):2≤nv l g i u:=by
 have:=zf3 (p:=fun w:Nat=>decide ((w:Int)=u)) (q:=fun w:Nat=>decide ((w:Int)=v)) (r:=fun w:Nat=>decide ((w:Int)=u) || decide ((w:Int)=v)) (l:=List.range l.V) (fun _ _=>rfl) (fun x _ hx=>decide_eq_false fun e=>hne (by have:=of_decide_eq_true hx; omega))
 have one:∀ u:Int,0≤u∧u<l.V→(List.range l.V).countP (fun w:Nat=>decide ((w:Int)=u))=1:=fun u hu=>by
  have:=zdG (p:=fun _:Nat=>false) (q:=fun w:Nat=>decide ((w:Int)=u)) (r:=List.range l.V) (s:=u.toNat) (fun x hx hne=>decide_eq_false fun c=>hne (by omega)) (List.mem_range.2 (by omega)) rfl (decide_eq_true (by omega)) List.nodup_range
  rw [this,ze6 fun _ _=>rfl]
 rw [one u hu,one v hv] at this
 rw [show 2=1+1 from rfl,←this]
 unfold nv
 exact zcH fun w _ hw=>by
  rcases (Bool.or_eq_true_iff).1 hw with hw | hw
  ·rw [of_decide_eq_true hw]; exact decide_eq_true (Conn.refl _)
  ·rw [of_decide_eq_true hw]; exact decide_eq_true h
theorem zuQ {i u v:Int} (hno:¬Jn g i u v) {x:Int} (h:∀ w,Jn g i u w∨Jn g i v w→Jn g' i x w):nv l g i u+nv l g i v≤nv l g' i x:=by
 have:=zf3 (p:=fun w:Nat=>decide (Jn g i u w)) (q:=fun w:Nat=>decide (Jn g i v w)) (r:=fun w:Nat=>decide (Jn g i u w) || decide (Jn g i v w)) (l:=List.range l.V) (fun _ _=>rfl) (fun x _ hx=>decide_eq_false fun c=>hno ((of_decide_eq_true hx).trans c.symm))
 unfold nv
 rw [←this]
 exact zcH fun w _ hw=>by
  rcases (Bool.or_eq_true_iff).1 hw with hw | hw
  ·exact decide_eq_true (h w (.inl (of_decide_eq_true hw)))
  ·exact decide_eq_true (h w (.inr (of_decide_eq_true hw)))
theorem nv_or {i u v x:Int} (h:∀ w,Jn g' i x w→Jn g i u w∨Jn g i v w):nv l g' i x≤nv l g i u+nv l g i v:=by
 have key:∀ (r:List Nat),r.countP (fun w:Nat=>decide (Jn g' i x w))≤r.countP (fun w:Nat=>decide (Jn g i u w))+r.countP fun w:Nat=>decide (Jn g i v w):=fun r=>by
  induction r with
  | nil=>exact Nat.le_refl _
  | cons a r ih =>
   simp only [List.countP_cons]
   have:=h a
   by_cases h1:Jn g' i x a<;>by_cases h2:Jn g i u a<;>by_cases h3:Jn g i v a<;>simp_all<;>omega
 exact key _
end
structure Hdt (l:Lay) (g:G):Prop where
 sz:∀ i:Nat,(i:Int)<l.lev→∀ u:Int,0≤u∧u<l.V→nv l g i u≤l.V / 2 ^ i
 nt:∀ q,g.has q=true→g.tr q=false→Jn g (g.lv q) (g.u q) (g.v q)
structure DelI (l:Lay) (g:G) (u v i:Int):Prop where
 sz:∀ j:Nat,(j:Int)<l.lev→∀ x:Int,0≤x∧x<l.V→nv l g j x≤l.V / 2 ^ j
 pr:∀ j:Nat,(j:Int)≤i→(j:Int)<l.lev→nv l g j u+nv l g j v≤l.V / 2 ^ j
 hi:∀ q,g.has q=true→g.tr q=false→i<g.lv q→Jn g (g.lv q) (g.u q) (g.v q)
 lo:∀ q,g.has q=true→g.tr q=false→g.lv q≤i→Jn g (g.lv q) (g.u q) (g.v q)∨(Jn g (g.lv q) (g.u q) u∧Jn g (g.lv q) (g.v q) v)∨(Jn g (g.lv q) (g.u q) v∧Jn g (g.lv q) (g.v q) u)
 no:¬Jn g 0 u v
section
variable {l:Lay} (hl:l.Ok) {p:Pen} (hp:PenOk p) {pr:Int→Int} {σ:M} {g g':G}
theorem Hdt.g0 (hl:l.Ok):Hdt l G0:=⟨fun i hi u hu=>by
 classical
 have:nv l G0 i u≤1:=by
  have h1:=zdG (p:=fun _:Nat=>false) (q:=fun w:Nat=>decide ((w:Int)=u)) (r:=List.range l.V) (s:=u.toNat) (fun x hx hne=>decide_eq_false fun c=>hne (by omega)) (List.mem_range.2 (by omega)) rfl (decide_eq_true (by omega)) List.nodup_range
  rw [ze6 fun _ _=>rfl] at h1
  unfold nv
  refine Nat.le_trans (zcH fun w _ hw=>?_) (Nat.le_of_eq h1)
  refine decide_eq_true ?_
  have hj:Jn G0 i u w:=of_decide_eq_true hw
  have:∀ {x y:Int},Jn G0 i x y→x=y:=fun {x y} c=>by
   induction c with
   | refl=>rfl
   | step _ s hs=>cases hs.1
  exact (this hj).symm
 exact Nat.le_trans this ((zla hl).1 hi),fun q hq=>by cases hq⟩
theorem Hdt.put_add (h:Hdt l g) {s a b:Int} (hno:g.has s=false) (hj:Jn g 0 a b):Hdt l (g.put s a b 0 false):=by
 have hs:∀ q,g.has q=true→q≠s:=fun q hq e=>by subst e; rw [hno] at hq; cases hq
 have hP:∀ i q,Pg (g.put s a b 0 false) i q↔Pg g i q:=fun i q=>by
  unfold Pg G.put updB updI; dsimp only
  by_cases e:q=s
  ·subst e; simp [hno]
  ·simp [e]
 have he:∀ i q,Pg g i q→(g.put s a b 0 false).u q=g.u q∧(g.put s a b 0 false).v q=g.v q:=fun i q hq=>by
  have:=hs q hq.1; unfold G.put updI; simp [this]
 have jn:∀ {i x y},Jn (g.put s a b 0 false) i x y↔Jn g i x y:=fun {i x y}=>Jn.congr (hP i) (he i)
 refine ⟨fun i hi u hu=>by rw [zb6 fun w=>jn]; exact h.sz i hi u hu,fun q hq ht=>?_⟩
 rw [jn]
 by_cases e:q=s
 ·subst e; unfold G.put updI; simpa using hj
 ·have:g.has q=true:=by unfold G.put updB at hq; simpa [e] using hq
  have h2:=h.nt q this (by unfold G.put updB at ht; simpa [e] using ht)
  unfold G.put updI; simpa [e] using h2
theorem Hdt.put_plant (h:Hdt l g) {s a b:Int} (hno:g.has s=false):Hdt l (g.put s a b 0 true):=by
 have hs:∀ q,g.has q=true→q≠s:=fun q hq e=>by subst e; rw [hno] at hq; cases hq
 have he:∀ i q,Pg g i q→(g.put s a b 0 true).u q=g.u q∧(g.put s a b 0 true).v q=g.v q:=fun i q hq=>by
  have:=hs q hq.1; unfold G.put updI; simp [this]
 have up:∀ {i x y},Jn g i x y→Jn (g.put s a b 0 true) i x y:=fun {i x y} c=>(c.ends fun q hq=>⟨(he i q hq).1.symm,(he i q hq).2.symm⟩).mono fun q hq=>by
  have:=hs q hq.1
  unfold Pg at hq; unfold Pg G.put updB updI; simpa [this] using hq
 refine ⟨fun i hi u hu=>?_,fun q hq ht=>?_⟩
 ·by_cases hi0:i=0
  ·subst hi0; simpa using zsY (l:=l) (g:=g.put s a b 0 true) (i:=((0:Nat):Int)) (u:=u)
  ·have hP:∀ q,Pg (g.put s a b 0 true) i q↔Pg g i q:=fun q=>by
    unfold Pg G.put updB updI; dsimp only
    by_cases e:q=s
    ·subst e; simp [hno]; omega
    ·simp [e]
   rw [zb6 fun w=>Jn.congr hP (he i)]; exact h.sz i hi u hu
 ·have e:q≠s:=fun e=>by subst e; unfold G.put updB at ht; simp at ht
  have:g.has q=true:=by unfold G.put updB at hq; simpa [e] using hq
  have h2:=up (h.nt q this (by unfold G.put updB at ht; simpa [e] using ht))
  unfold G.put updI at *; simpa [e] using h2
theorem Hdt.top (hl:l.Ok) (hE:∀ s,g.has s=true→(0≤g.u s∧g.u s<g.v s∧g.v s<l.V)∧0≤g.lv s) (h:Hdt l g) {q:Int} (hq:g.has q=true):g.lv q+1<l.lev∧2≤l.V / 2 ^ (g.lv q).toNat:=by
 obtain ⟨h1,h2⟩:=hE q hq
 have hj:Jn g (g.lv q) (g.u q) (g.v q):=by
  cases ht:g.tr q with
  | true=>exact .step (.refl _) q ⟨hq,ht,Int.le_refl _⟩ (.inl ⟨rfl,rfl⟩)
  | false=>exact h.nt q hq ht
 have e:(((g.lv q).toNat:Nat):Int)=g.lv q:=by omega
 have h3:=zrU (l:=l) (g:=g) (i:=g.lv q) ⟨h1.1,by omega⟩ ⟨by omega,h1.2.2⟩ (by omega) hj
 have hlt:g.lv q<l.lev:=by
  rcases Int.lt_or_le (g.lv q) l.lev with hc | hc
  ·exact hc
  ·exfalso
   have h5:∀ {x y},Jn g (g.lv q) x y→Jn g (l.lev - 1) x y:=fun c=>c.down (by omega)
   have lb:=zcF hl
   have:=h.sz (l.lev - 1).toNat (by omega) (g.u q) ⟨h1.1,by omega⟩
   have h6:=zrU (l:=l) (g:=g) (i:=(((l.lev - 1).toNat:Nat):Int)) ⟨h1.1,by omega⟩ ⟨by omega,h1.2.2⟩ (by omega) (by rw [show (((l.lev - 1).toNat:Nat):Int)=l.lev - 1 by omega]; exact h5 hj)
   have h7:=(zla hl (i:=(l.lev - 1).toNat)).2 (by omega)
   omega
 have h4:=h.sz (g.lv q).toNat (by omega) (g.u q) ⟨h1.1,by omega⟩
 rw [e] at h4
 refine ⟨?_,by omega⟩
 rcases Int.lt_or_le (g.lv q+1) l.lev with h | h
 ·exact h
 ·have:=(zla hl (i:=(g.lv q).toNat)).2 (by omega); omega
theorem Hdt.del (h:Hdt l g) {s:Int} (hs:g.tr s=false):Hdt l (g.del s):=by
 have hP:∀ i q,Pg (g.del s) i q↔Pg g i q:=fun i q=>by
  unfold Pg G.del updB; dsimp only
  by_cases e:q=s
  ·subst e; simp [hs]
  ·simp [e]
 have jn:∀ {i x y},Jn (g.del s) i x y↔Jn g i x y:=fun {i x y}=>Jn.congr (hP i) fun q _=>⟨rfl,rfl⟩
 refine ⟨fun i hi u hu=>by rw [zb6 fun w=>jn]; exact h.sz i hi u hu,fun q hq ht=>?_⟩
 rw [jn]
 have e:q≠s:=fun e=>by subst e; unfold G.del updB at hq; simp at hq
 exact h.nt q (by unfold G.del updB at hq; simpa [e] using hq) ht
theorem DelI.start (h:Hdt l g) {s:Int} (hh:g.has s=true) (ht:g.tr s=true) (hE:(0≤g.u s∧g.u s<l.V)∧0≤g.v s∧g.v s<l.V) (h0:0≤g.lv s) (hb:¬Conn (fun q=>Pg g 0 q∧q≠s) g.u g.v (g.u s) (g.v s)):DelI l (g.del s) (g.u s) (g.v s) (g.lv s):=by
 have hPe:∀ i q,Pg (g.del s) i q↔(Pg g i q∧q≠s):=fun i q=>by
  unfold Pg G.del updB; dsimp only
  by_cases e:q=s
  ·subst e; simp
  ·simp [e]
 have dn:∀ {i x y},Jn (g.del s) i x y→Jn g i x y:=fun {i x y} c=>Conn.mono c fun q hq=>((hPe i q).1 hq).1
 have hi:∀ {i x y},g.lv s<i→(Jn (g.del s) i x y↔Jn g i x y):=fun {i x y} hlt=>Jn.congr (g:=g) (g':=g.del s) (fun q=>(hPe i q).trans ⟨fun a=>a.1,fun a=>⟨a,fun e=>by subst e; have:=a.2.2; omega⟩⟩) fun q _=>⟨rfl,rfl⟩
 have lo:∀ {i x y},i≤g.lv s→(Jn g i x y↔Jn (g.del s) i x y∨(Jn (g.del s) i x (g.u s)∧Jn (g.del s) i (g.v s) y)∨(Jn (g.del s) i x (g.v s)∧Jn (g.del s) i (g.u s) y)):=fun {i x y} hle=>by
  refine Iff.trans ?_ (zhM (s:=s) (P:=Pg (g.del s) i) (eu:=g.u) (ev:=g.v))
  unfold Jn
  exact ⟨fun c=>c.mono fun q hq=>if e:q=s then .inl e else .inr ((hPe i q).2 ⟨hq,e⟩),fun c=>c.mono fun q hq=>hq.elim (fun e=>by subst e; exact ⟨hh,ht,hle⟩) fun a=>((hPe i q).1 a).1⟩
 have no:¬Jn (g.del s) 0 (g.u s) (g.v s):=fun c=>hb (Conn.mono c fun q hq=>(hPe 0 q).1 hq)
 have hq':∀ q,(g.del s).has q=true→q≠s∧g.has q=true:=fun q hq=>by
  have e:q≠s:=fun e=>by subst e; unfold G.del updB at hq; simp at hq
  exact ⟨e,by unfold G.del updB at hq; simpa [e] using hq⟩
 refine ⟨fun j hj x hx=>Nat.le_trans (zop fun w c=>dn c) (h.sz j hj x hx),fun j hj hj2=>?_,fun q hq hqt hlt=>?_,fun q hq hqt hle=>?_,no⟩
 ·refine Nat.le_trans (zuQ (g':=g) (x:=g.u s) (fun c=>no (c.down (by omega))) fun w c=>?_) (h.sz j hj2 (g.u s) hE.1)
  rcases c with c | c
  ·exact dn c
  ·exact (lo hj).2 (.inr (.inl ⟨.refl _,c⟩))
 ·exact (hi hlt).2 (h.nt q (hq' q hq).2 hqt)
 ·rcases (lo hle).1 (h.nt q (hq' q hq).2 hqt) with c | ⟨c1,c2⟩ | ⟨c1,c2⟩
  ·exact .inl c
  ·exact .inr (.inl ⟨c1,c2.symm⟩)
  ·exact .inr (.inr ⟨c1,c2.symm⟩)
structure Ext (g g':G):Prop where
 has:g'.has=g.has
 u:g'.u=g.u
 v:g'.v=g.v
 lv:∀ q,g.lv q≤g'.lv q
theorem Ext.refl:Ext g g:=⟨rfl,rfl,rfl,fun _=>Int.le_refl _⟩
theorem Ext.trans {g'':G} (h:Ext g g') (h':Ext g' g''):Ext g g'':=⟨h'.has.trans h.has,h'.u.trans h.u,h'.v.trans h.v,fun q=>Int.le_trans (h.lv q) (h'.lv q)⟩
theorem Raised.ext {i:Int} {C:Int→Prop} (h:Raised g g' i C):Ext g g':=⟨h.has,h.u,h.v,fun q=>by
 by_cases c:C q
 ·have:=h.up q c; omega
 ·rw [h.st q c]; exact Int.le_refl _⟩
theorem Raised.up_jn {i:Int} {C:Int→Prop} (h:Raised g g' i C) {j x y:Int} (c:Jn g j x y):Jn g' j x y:=by
 unfold Jn; rw [h.u,h.v]
 exact Conn.mono c fun q hq=>⟨by rw [h.has]; exact hq.1,by rw [h.tr]; exact hq.2.1,Int.le_trans hq.2.2 (h.ext.lv q)⟩
include hl hp
theorem zaw.replant (h:zaw l pr σ g) {q:Int} (hh:g.has q=true) (ht:g.tr q=false) (hc:∀ a,0≤a→a≤g.lv q→¬Jn g a (g.u q) (g.v q)) {k:Nat} (hk:560<k):∃ σ1 σ2,Go.Tm.remove l k σ q=some σ1∧Go.Tm.plant l p k σ1 q=some σ2∧zaw l pr σ2 (g.turn q true):=by
 obtain ⟨F,mk,L,h⟩:=h
 obtain ⟨σ1,mk1,L1,e1,h1⟩:=h.remove hl ⟨hh,ht⟩ hk
 obtain ⟨σ2,F2,mk2,e2,h2⟩:=h1.plant hl hp hh (fun a ha ha'=>⟨fun hP=>(by have:=hP.2.1; rw [ht] at this; cases this),hc a ha ha'⟩) hk
 refine ⟨σ1,σ2,e1,e2,F2,mk2,L1,h2.iff hl (fun i s hi=>?_) (fun i s hs=>hs.1) (fun s=>?_) (fun s i hs=>?_)⟩
 ·unfold Pg G.turn updB; dsimp only
  by_cases e:s=q
  ·subst e; rw [if_pos rfl]
   exact ⟨fun a=>a.elim (fun a=>by have:=a.2.1; rw [ht] at this; cases this) fun a=>⟨hh,rfl,a.2.2⟩,fun a=>.inr ⟨rfl,hi.1,a.2.2⟩⟩
  ·rw [if_neg e]; exact ⟨fun a=>a.elim id fun a=>absurd a.1 e,.inl⟩
 ·unfold Bg G.turn updB; dsimp only
  by_cases e:s=q
  ·subst e; simp
  ·simp [e]
 ·unfold Kg G.turn updB; dsimp only
  by_cases e:s=q
  ·subst e
   rw [if_pos rfl]
   by_cases e2:i=g.lv s
   ·subst e2; simp [hh]
   ·rw [if_neg (fun c=>e2 c.2)]
    exact ⟨fun a=>(by have:=a.2.1; rw [ht] at this; cases this),fun a=>absurd a.2.2.symm e2⟩
  ·rw [if_neg (fun c=>e c.1),if_neg e]
theorem zjJ (hR:zaw l pr σ g) {u v i:Int} (hD:DelI l g u v i) (hi:0≤i) (hi2:i+1<l.lev) (hu:0≤u∧u<l.V) (hv:0≤v∧v<l.V) {k:Nat} (hk:560<k) :
  ∃ r σ' g',replace l p k σ i u v=some (r,σ')∧zaw l pr σ' g'∧Ext g g'∧((r=(0,false)∧g'.tr=g.tr∧DelI l g' u v (i - 1))∨(r.2=true∧Hdt l g'∧Jn g' 0 u v∧g.has r.1=true∧g.tr r.1=false∧g'.tr=updB g.tr r.1 true)):=by
 have lb:=zcF hl
 have ei:((i.toNat:Nat):Int)=i:=by omega
 have ou:l.okV i u:=⟨⟨hi,by omega⟩,hu⟩
 have ov:l.okV i v:=⟨⟨hi,by omega⟩,hv⟩
 obtain ⟨w,hw,hwuv,hwn⟩:∃ w,(if nv l g i v<nv l g i u then v else u)=w∧(w=u∨w=v)∧2 * nv l g i w≤nv l g i u+nv l g i v:=by
  split
  ·exact ⟨v,rfl,.inr rfl,by omega⟩
  ·exact ⟨u,rfl,.inl rfl,by omega⟩
 have ow:l.okV i w:=by rcases hwuv with rfl | rfl<;>assumption
 have e1:=hR.smaller hl ou ov hk
 rw [hw] at e1
 obtain ⟨σ1,g1,e2,hR1,hA1⟩:=hR.trees hl hp ow hi2 hk
 obtain ⟨r,σ2,g2,C,e3,hR2,hA2,hC,hFo⟩:=hR1.seek hl ow hi2 hk
 have jn1:∀ {j x y},j≤i→(Jn g1 j x y↔Jn g j x y):=fun hj=>hA1.jn hl hj
 have jn2:∀ {j x y},j≤i→(Jn g2 j x y↔Jn g j x y):=fun hj=>(hA2.jn hl hj).trans (jn1 hj)
 have E2:Ext g g2:=hA1.ext.trans hA2.ext
 have tr2:g2.tr=g.tr:=hA2.tr.trans hA1.tr
 have up1:∀ {x},Jn g i w x→Jn g1 (i+1) w x:=fun {x} c=>by
  unfold Jn at c
  induction c with
  | refl=>exact .refl _
  | @step y z hy s hs he ih =>
   have he':=he
   refine .step ih s ⟨by rw [hA1.has]; exact hs.1,by rw [hA1.tr]; exact hs.2.1,?_⟩ (by rw [hA1.u,hA1.v]; exact he)
   by_cases e:g.lv s=i
   ·have hy':Jn g i w (g.u s):=by
     rcases he with ⟨h1,_⟩ | ⟨_,h2⟩
     ·rw [h1]; exact hy
     ·rw [h2]; exact .step hy s hs he'
    rw [(hA1.up s ⟨hs.1,hs.2.1,e,hy'⟩).2.2]; exact Int.le_refl _
   ·rw [hA1.st s fun c=>e c.2.2.1]; have:=hs.2.2; omega
 have dn1:∀ {x y},Jn g1 (i+1) x y→Jn g (i+1) x y∨(Jn g i w x∧Jn g i w y):=fun {x y} c=>by
  unfold Jn at c
  induction c with
  | refl=>exact .inl (.refl _)
  | @step y z hy s hs he ih =>
   rw [hA1.u,hA1.v] at he
   have hs1:g.has s=true:=by rw [←hA1.has]; exact hs.1
   have hs2:g.tr s=true:=by rw [←hA1.tr]; exact hs.2.1
   by_cases cC:g.has s=true∧g.tr s=true∧g.lv s=i∧Jn g i w (g.u s)
   ·have hv':Jn g i w (g.v s):=.step cC.2.2.2 s ⟨hs1,hs2,by rw [cC.2.2.1]; exact Int.le_refl _⟩ (.inl ⟨rfl,rfl⟩)
    have hyz:Jn g i w y∧Jn g i w z:=by
     rcases he with ⟨h1,h2⟩ | ⟨h1,h2⟩
     ·rw [←h1,←h2]; exact ⟨cC.2.2.2,hv'⟩
     ·rw [←h1,←h2]; exact ⟨hv',cC.2.2.2⟩
    rcases ih with ih | ⟨ih1,_⟩
    ·exact .inr ⟨hyz.1.trans (Conn.symm (Jn.down ih (by omega))),hyz.2⟩
    ·exact .inr ⟨ih1,hyz.2⟩
   ·have hlv:=hs.2.2
    rw [hA1.st s cC] at hlv
    have st:Jn g (i+1) y z:=.step (.refl _) s ⟨hs1,hs2,hlv⟩ he
    rcases ih with ih | ⟨ih1,ih2⟩
    ·exact .inl (ih.trans st)
    ·exact .inr ⟨ih1,ih2.trans (st.down (by omega))⟩
 have hiA:∀ {j x y},i+1<j→(Jn g1 j x y↔Jn g j x y):=fun {j x y} hj=>by
  refine Jn.congr (g:=g) (g':=g1) (fun q=>?_) fun q _=>by rw [hA1.u,hA1.v]; exact ⟨rfl,rfl⟩
  unfold Pg; rw [hA1.has,hA1.tr]
  by_cases c:g.has q=true∧g.tr q=true∧g.lv q=i∧Jn g i w (g.u q)
  ·have:=hA1.up q c
   exact ⟨fun a=>by have:=a.2.2; omega,fun a=>by have:=a.2.2; omega⟩
  ·rw [hA1.st q c]
 have jn12:∀ {j x y},Jn g2 j x y↔Jn g1 j x y:=fun {j x y}=>by
  refine Jn.congr (g:=g1) (g':=g2) (fun q=>?_) fun q _=>by rw [hA2.u,hA2.v]; exact ⟨rfl,rfl⟩
  unfold Pg; rw [hA2.has,hA2.tr]
  by_cases c:C q
  ·have:=(hC q c).1
   exact ⟨fun a=>(by rw [this] at a; cases a.2.1),fun a=>(by rw [this] at a; cases a.2.1)⟩
  ·rw [hA2.st q c]
 have sz2:∀ j:Nat,(j:Int)<l.lev→∀ x:Int,0≤x∧x<l.V→nv l g2 j x≤l.V / 2 ^ j:=fun j hj x hx=>by
  rw [zb6 fun w=>jn12]
  rcases Int.lt_or_le i j with h | h
  ·by_cases e:(j:Int)=i+1
   ·by_cases c:Jn g i w x
    ·have h1:nv l g1 j x≤nv l g i w:=zop fun y hy=>by
      rw [e] at hy
      rcases dn1 hy with h | ⟨_,h⟩
      ·exact c.trans (h.down (by omega))
      ·exact h
     have h2:=hD.pr i.toNat (by omega) (by omega)
     rw [ei] at h2
     have h3:l.V / 2 ^ j=l.V / 2 ^ i.toNat / 2:=by rw [show j=i.toNat+1 by omega,Nat.pow_succ,Nat.div_div_eq_div_mul]
     rw [h3]; omega
    ·rw [zb6 fun y=>?_]
     ·exact hD.sz j hj x hx
     ·rw [e]; exact ⟨fun hy=>(dn1 hy).elim id fun a=>absurd a.1 c,fun hy=>hA1.up_jn hy⟩
   ·rw [zb6 fun y=>hiA (by omega)]; exact hD.sz j hj x hx
  ·rw [zb6 fun y=>jn1 h]; exact hD.sz j hj x hx
 have pr2:∀ j:Nat,(j:Int)≤i→(j:Int)<l.lev→nv l g2 j u+nv l g2 j v≤l.V / 2 ^ j:=fun j h1 h2=>by
  rw [zb6 fun y=>jn2 h1,zb6 fun y=>jn2 h1]; exact hD.pr j h1 h2
 have no2:¬Jn g2 0 u v:=fun c=>hD.no ((jn2 hi).1 c)
 have hi2':∀ q,g2.has q=true→g2.tr q=false→i<g2.lv q→Jn g2 (g2.lv q) (g2.u q) (g2.v q):=fun q hq ht hlt=>by
  rw [E2.has] at hq; rw [tr2] at ht; rw [E2.u,E2.v]
  have n1:¬(g.has q=true∧g.tr q=true∧g.lv q=i∧Jn g i w (g.u q)):=fun c=>by rw [ht] at c; cases c.2.1
  by_cases c:C q
  ·have h1:=(hA2.up q c).2.2
   obtain ⟨_,c2,c3⟩:=hC q c
   rw [hA1.u,jn1 (Int.le_refl _)] at c2; rw [hA1.v,jn1 (Int.le_refl _)] at c3
   rw [h1,jn12]
   exact (Conn.symm (up1 c2)).trans (up1 c3)
  ·have h1:g2.lv q=g.lv q:=(hA2.st q c).trans (hA1.st q n1)
   rw [h1] at hlt ⊢
   rw [jn12]; exact hA1.up_jn (hD.hi q hq ht hlt)
 have lo2:∀ q,g2.has q=true→g2.tr q=false→g2.lv q≤i→Jn g2 (g2.lv q) (g2.u q) (g2.v q)∨(Jn g2 (g2.lv q) (g2.u q) u∧Jn g2 (g2.lv q) (g2.v q) v)∨(Jn g2 (g2.lv q) (g2.u q) v∧Jn g2 (g2.lv q) (g2.v q) u):=fun q hq ht hle=>by
  rw [E2.has] at hq; rw [tr2] at ht; rw [E2.u,E2.v]
  have n1:¬(g.has q=true∧g.tr q=true∧g.lv q=i∧Jn g i w (g.u q)):=fun c=>by rw [ht] at c; cases c.2.1
  have n2:¬C q:=fun c=>by have:=(hA2.up q c).2.2; omega
  have h1:g2.lv q=g.lv q:=(hA2.st q n2).trans (hA1.st q n1)
  rw [h1] at hle ⊢
  simp only [jn2 hle]
  exact hD.lo q hq ht hle
 have wr:IntKind.i64.wrap (i+1)=i+1:=za1 (by omega)
 unfold replace
 rw [wr,if_neg (by omega),e1]
 dsimp only [Option.bind_some]
 rw [e2]
 dsimp only [Option.bind_some]
 rw [e3]
 dsimp only [Option.bind_some]
 rcases hFo with ⟨hr,hno⟩ | ⟨hr,hq,ht,hlv,hnj,hone⟩
 ·rw [hr]
  refine ⟨_,σ2,g2,rfl,hR2,E2,.inl ⟨rfl,tr2,sz2,fun j h1 h2=>pr2 j (by omega) h2,fun q hq ht hlt=>?_,fun q hq ht hle=>lo2 q hq ht (by omega),no2⟩⟩
  rcases Int.lt_or_le i (g2.lv q) with h | h
  ·exact hi2' q hq ht h
  ·have e:g2.lv q=i:=by omega
   obtain ⟨n1,n2⟩:=hno q hq ht e
   rcases lo2 q hq ht h with c | ⟨c1,c2⟩ | ⟨c1,c2⟩
   ·exact c
   ·rw [e] at c1 c2
    rcases hwuv with rfl | rfl
    ·exact absurd (Conn.symm c1) n1
    ·exact absurd (Conn.symm c2) n2
   ·rw [e] at c1 c2
    rcases hwuv with rfl | rfl
    ·exact absurd (Conn.symm c2) n2
    ·exact absurd (Conn.symm c1) n1
 ·rw [hr,if_pos rfl]
  have hcr:(Jn g2 i (g2.u r.1) u∧Jn g2 i (g2.v r.1) v)∨(Jn g2 i (g2.u r.1) v∧Jn g2 i (g2.v r.1) u):=by
   rcases lo2 r.1 hq ht (by omega) with c | c | c
   ·rw [hlv] at c; exact absurd c hnj
   ·rw [hlv] at c; exact .inl c
   ·rw [hlv] at c; exact .inr c
  obtain ⟨σ3,σ4,e4,e5,hR4⟩:=hR2.replant hl hp hq ht (fun a ha ha' c=>no2 (by
   rw [hlv] at ha'
   rcases hcr with ⟨c1,c2⟩ | ⟨c1,c2⟩
   ·exact Jn.down (g:=g2) (i:=a) ((Conn.symm (c1.down ha')).trans (c.trans (c2.down ha'))) ha
   ·exact Jn.down (g:=g2) (i:=a) ((Conn.symm (c2.down ha')).trans ((Conn.symm c).trans (c1.down ha'))) ha)) hk
  rw [e4]
  dsimp only [Option.bind_some]
  rw [e5]
  dsimp only [Option.bind_some]
  have hP:∀ j q,Pg (g2.turn r.1 true) j q↔(q=r.1∧j≤i)∨Pg g2 j q:=fun j q=>by
   unfold Pg G.turn updB; dsimp only
   by_cases e:q=r.1
   ·rw [e,if_pos rfl,ht,hlv,hq]; simp
   ·rw [if_neg e]; exact ⟨.inr,fun a=>a.elim (fun a=>absurd a.1 e) id⟩
  have up3:∀ {j x y},Jn g2 j x y→Jn (g2.turn r.1 true) j x y:=fun {j x y} c=>Conn.mono c fun q hq=>(hP j q).2 (.inr hq)
  have hi3:∀ {j x y},i<j→(Jn (g2.turn r.1 true) j x y↔Jn g2 j x y):=fun {j x y} hj=>Jn.congr (g:=g2) (g':=g2.turn r.1 true) (fun q=>(hP j q).trans ⟨fun a=>a.elim (fun a=>by have:=a.2; omega) id,.inr⟩) fun q _=>⟨rfl,rfl⟩
  have lo3:∀ {j x y},j≤i→(Jn (g2.turn r.1 true) j x y↔Jn g2 j x y∨(Jn g2 j x (g2.u r.1)∧Jn g2 j (g2.v r.1) y)∨(Jn g2 j x (g2.v r.1)∧Jn g2 j (g2.u r.1) y)):=fun {j x y} hj=>by
   refine Iff.trans ?_ (zhM (s:=r.1) (P:=Pg g2 j) (eu:=g2.u) (ev:=g2.v))
   unfold Jn
   exact ⟨fun c=>c.mono fun q hq=>((hP j q).1 hq).imp (fun a=>a.1) id,fun c=>c.mono fun q hq=>(hP j q).2 (hq.imp (fun a=>⟨a,hj⟩) id)⟩
  have uv3:∀ {j},j≤i→Jn (g2.turn r.1 true) j u v:=fun {j} hj=>by
   refine (lo3 hj).2 ?_
   rcases hcr with ⟨c1,c2⟩ | ⟨c1,c2⟩
   ·exact .inr (.inl ⟨Conn.symm (c1.down hj),c2.down hj⟩)
   ·exact .inr (.inr ⟨Conn.symm (c2.down hj),c1.down hj⟩)
  refine ⟨_,σ4,g2.turn r.1 true,rfl,hR4,⟨E2.has,E2.u,E2.v,E2.lv⟩,.inr ⟨rfl,⟨fun j hj x hx=>?_,fun q hq' ht'=>?_⟩,uv3 hi,by rw [←E2.has]; exact hq,by rw [←tr2]; exact ht,by rw [←tr2]; rfl⟩⟩
  ·rcases Int.lt_or_le i j with h | h
   ·rw [zb6 fun y=>hi3 h]; exact sz2 j hj x hx
   ·by_cases c:Jn g2 j x (g2.u r.1)∨Jn g2 j x (g2.v r.1)
    ·refine Nat.le_trans (nv_or (u:=u) (v:=v) fun y hy=>?_) (pr2 j h hj)
     have cu:Jn g2 j (g2.u r.1) y∨Jn g2 j (g2.v r.1) y:=by
      rcases (lo3 h).1 hy with h1 | h1 | h1
      ·exact c.imp (fun c=>(Conn.symm c).trans h1) fun c=>(Conn.symm c).trans h1
      ·exact .inr h1.2
      ·exact .inl h1.2
     rcases hcr with ⟨c1,c2⟩ | ⟨c1,c2⟩
     ·exact cu.imp (fun a=>(Conn.symm (c1.down h)).trans a) fun a=>(Conn.symm (c2.down h)).trans a
     ·exact cu.elim (fun a=>.inr ((Conn.symm (c1.down h)).trans a)) fun a=>.inl ((Conn.symm (c2.down h)).trans a)
    ·rw [zb6 fun y=>(lo3 h).trans ⟨fun a=>a.elim id fun a=>a.elim (fun a=>absurd (.inl a.1) c) fun a=>absurd (.inr a.1) c,.inl⟩]; exact sz2 j hj x hx
  ·have e:q≠r.1:=fun e=>by subst e; unfold G.turn updB at ht'; simp at ht'
   have ht2:g2.tr q=false:=by unfold G.turn updB at ht'; simpa [e] using ht'
   show Jn (g2.turn r.1 true) (g2.lv q) (g2.u q) (g2.v q)
   rcases Int.lt_or_le i (g2.lv q) with h | h
   ·exact up3 (hi2' q hq' ht2 h)
   ·rcases lo2 q hq' ht2 h with c | ⟨c1,c2⟩ | ⟨c1,c2⟩
    ·exact up3 c
    ·exact (up3 c1).trans ((uv3 h).trans (Conn.symm (up3 c2)))
    ·exact (up3 c1).trans ((Conn.symm (uv3 h)).trans (Conn.symm (up3 c2)))
end
end Go.Tm
namespace Go.Tm
open MemLike Eng
set_option linter.unusedSectionVars false
set_option linter.unusedVariables false
section
variable {l:Lay} (hl:l.Ok) {p:Pen} (hp:PenOk p) {pr:Int→Int} {σ:M} {g g':G}
theorem DelI.end {u v:Int} (h:DelI l g u v (-1)) (hE:∀ s,g.has s=true→0≤g.lv s):Hdt l g:=⟨h.sz,fun q hq ht=>h.hi q hq ht (by have:=hE q hq; omega)⟩
structure Sought (l:Lay) (g g':G) (u v:Int) (r:Int×Bool):Prop where
 ext:Ext g g'
 hdt:Hdt l g'
 no:r.2=false→r.1=0∧g'.tr=g.tr∧¬Jn g' 0 u v
 yes:r.2=true→Jn g' 0 u v∧g.has r.1=true∧g.tr r.1=false∧g'.tr=updB g.tr r.1 true
include hl hp
theorem zfe {u v:Int} (hu:0≤u∧u<l.V) (hv:0≤v∧v<l.V) {m:Nat} (hm:560<m):∀ (n k:Nat) {σ:M} {g:G} {i:Int} {b:Int×Bool},i=(n:Int) - 1→n<k→i+1<l.lev→zaw l pr σ g→DelI l g u v i→b=(0,false) →
  ∃ r σ' g',zb4 l p u v k m σ i b=some (r,σ')∧zaw l pr σ' g'∧Sought l g g' u v r
 | 0,k+1,σ,g,i,b,hi,_,_,hR,hD,hb=>by
  rw [zb4,if_neg (by omega),hb]
  have:i=-1:=by omega
  subst this
  exact ⟨_,σ,g,rfl,hR,Ext.refl,hD.end fun s hs=>(hR.edges.rng s hs).2.2.1,fun _=>⟨rfl,rfl,hD.no⟩,fun h=>(by cases h)⟩
 | n+1,k+1,σ,g,i,b,hi,hk,hi2,hR,hD,hb=>by
  obtain ⟨r,σ1,g1,e,hR1,hE,hc⟩:=zjJ hl hp hR hD (by omega) hi2 hu hv hm
  rw [zb4,if_pos (by omega),e]
  dsimp only [Option.bind_some]
  rcases hc with ⟨hr,ht,hD1⟩ | ⟨hr,hH,hj,h1,h2,h3⟩
  ·rw [hr,if_neg (by decide),za1 (by have:=zcF hl; omega)]
   obtain ⟨r2,σ2,g2,e2,hR2,hS⟩:=zfe hu hv hm n k (i:=i - 1) (by omega) (by omega) (by omega) hR1 hD1 (rfl:((0:Int),false)=(0,false))
   exact ⟨r2,σ2,g2,e2,hR2,hE.trans hS.ext,hS.hdt,fun h=>(by obtain ⟨a,b,c⟩:=hS.no h; exact ⟨a,b.trans ht,c⟩),fun h=>by obtain ⟨a,b,c,d⟩:=hS.yes h; exact ⟨a,by rw [←hE.has]; exact b,by rw [←ht]; exact c,by rw [d,ht]⟩⟩
  ·rw [hr,if_pos rfl]
   exact ⟨r,σ1,g1,rfl,hR1,hE,hH,fun h=>(by rw [hr] at h; cases h),fun _=>⟨hj,h1,h2,h3⟩⟩
theorem zgd (hR:zaw l pr σ g) (hH:Hdt l g) {s:Int} (hh:g.has s=true) {k:Nat} (hk:560<k):∃ b o σ' g',zda l p k σ s=some ((g.tr s,b,o),σ')∧zaw l pr σ' g'∧Sought l (g.del s) g' (g.u s) (g.v s) (b,o) ∨
  ∃ σ',g.tr s=false∧zda l p k σ s=some ((false,0,false),σ')∧zaw l pr σ' (g.del s)∧Hdt l (g.del s):=by
 have hr:=hR.rng hl hh
 have e:=hR.eget hl hh
 unfold zda
 dsimp only
 rw [e]
 dsimp only
 cases ht:g.tr s with
 | false =>
  refine ⟨0,false,σ,g,.inr ?_⟩
  obtain ⟨σ1,e1,hR1⟩:=hR.remove_del hl hh ht hk
  rw [if_neg (by decide),show zeL l σ s=σ from rfl,e1]
  exact ⟨_,rfl,rfl,hR1,hH.del ht⟩
 | true =>
  obtain ⟨σ1,e1,hR1⟩:=hR.fell_del hl hp hh ht hk
  have htop:=(hH.top hl (fun q hq=>by have:=hR.rng hl hq; exact ⟨this.2.1,this.2.2.1⟩) hh).1
  have hb:¬Conn (fun q=>Pg g 0 q∧q≠s) g.u g.v (g.u s) (g.v s):=by
   obtain ⟨F,mk,L,hI⟩:=hR
   exact (hI.tours 0 (by have:=zcF hl; omega)).bridge hl (by have:=zcF hl; omega) hI.lm.forest ⟨hh,ht,hr.2.2.1⟩
  have hD:=DelI.start hH hh ht ⟨⟨hr.2.1.1,by omega⟩,by omega,hr.2.1.2.2⟩ hr.2.2.1 hb
  obtain ⟨r,σ2,g2,e2,hR2,hS⟩:=zfe hl hp ⟨hr.2.1.1,by omega⟩ ⟨by omega,hr.2.1.2.2⟩ hk ((g.lv s).toNat+1) k (i:=g.lv s) (by omega) (by have:=zcF hl; omega) htop hR1 hD (rfl:((0:Int),false)=(0,false))
  refine ⟨r.1,r.2,σ2,g2,.inl ?_⟩
  rw [if_pos rfl,show zeL l σ s=σ from rfl,e1]
  dsimp only [Option.bind_some]
  rw [e2]
  exact ⟨rfl,hR2,hS⟩
theorem zgc (hR:zaw l pr σ g) (hH:Hdt l g) {s a b:Int} (hsr:0≤s∧s<l.S) (ha:0≤a∧a<l.V) (hb:0≤b∧b<l.V) (hne:a≠b) (hno:g.has s=false) (hfree:∀ s,g.has s=true→¬(g.u s=min a b∧g.v s=max a b)) {k:Nat} (hk:560<k) :
  ∃ t σ',zcL l p k σ s a b=some (t,σ')∧(t=false↔Jn g 0 a b)∧zaw l pr σ' (g.put s (min a b) (max a b) 0 t)∧Hdt l (g.put s (min a b) (max a b) 0 t):=by
 have lb:=zcF hl
 obtain ⟨j,e,hj⟩:=hR.same hl (i:=0) (u:=a) (v:=b) ⟨by omega,ha⟩ ⟨by omega,hb⟩ hk
 have hmm:Jn g 0 (min a b) (max a b)↔Jn g 0 a b:=by
  rcases Int.lt_or_le a b with h | h
  ·rw [Int.min_eq_left (by omega),Int.max_eq_right (by omega)]
  ·rw [Int.min_eq_right h,Int.max_eq_left h]; exact ⟨fun c=>c.symm,fun c=>c.symm⟩
 unfold zcL
 rw [e]
 dsimp only [Option.bind_some]
 cases j with
 | true =>
  obtain ⟨σ',e1,hR1⟩:=hR.put_add hl hp hsr (a:=a) (b:=b) (by omega) (by omega) (by omega) hno hfree hk
  rw [if_pos rfl,e1]
  exact ⟨false,σ',rfl,⟨fun _=>hj.1 rfl,fun _=>rfl⟩,hR1,hH.put_add hno (hmm.2 (hj.1 rfl))⟩
 | false =>
  have hnj:¬Jn g 0 a b:=fun c=>by have:=hj.2 c; cases this
  obtain ⟨σ',e1,hR1⟩:=hR.put_plant hl hp hsr (a:=a) (b:=b) (by omega) (by omega) (by omega) hno hfree (fun c=>hnj (hmm.1 c)) hk
  rw [if_neg (by decide),e1]
  exact ⟨true,σ',rfl,⟨fun h=>(by cases h),fun c=>absurd c hnj⟩,hR1,hH.put_plant hno⟩
end
end Go.Tm
namespace Go.Tm
open MemLike Eng
set_option linter.unusedSectionVars false
set_option linter.unusedVariables false
def fsN (P:Nat→Bool):Nat→Int
 | 0=>-1
 | n+1=>if 0≤fsN P n then fsN P n else if P n then n else -1
theorem zoZ {P:Nat→Bool} {n:Nat}:(fsN P n=-1∧∀ j,j<n→P j=false)∨∃ i:Nat,i<n∧fsN P n=(i:Int)∧P i=true∧∀ j,j<i→P j=false:=by
 induction n with
 | zero=>exact .inl ⟨rfl,fun j hj=>absurd hj (Nat.not_lt_zero j)⟩
 | succ n ih =>
  rcases ih with ⟨h1,h2⟩ | ⟨i,h1,h2,h3,h4⟩
  ·cases hp:P n with
   | true=>exact .inr ⟨n,by omega,by rw [fsN,h1,if_neg (by decide),hp]; rfl,hp,h2⟩
   | false=>exact .inl ⟨by rw [fsN,h1,if_neg (by decide),hp]; rfl,fun j hj=>if e:j=n then e▸hp else h2 j (by omega)⟩
  ·exact .inr ⟨i,by omega,by rw [fsN,h2,if_pos (by omega)],h3,h4⟩
structure Dc (g:G) (d:Array EdR):Prop where
 row:∀ i,i<d.size→g.has d[i]!.slot=true∧g.u d[i]!.slot=d[i]!.u∧g.v d[i]!.slot=d[i]!.v∧d[i]!.lv=0∧d[i]!.tr=false
 cov:∀ s,g.has s=true→∃ i,i<d.size∧d[i]!.slot=s
 inj:∀ i j,i<d.size→j<d.size→d[i]!.slot=d[j]!.slot→i=j
theorem Dc.nil:Dc G0 #[]:=⟨fun i hi=>absurd hi (Nat.not_lt_zero i),fun s (hs:false=true)=>(by cases hs),fun i j hi=>absurd hi (Nat.not_lt_zero i)⟩
theorem Dc.ext {g g':G} {d:Array EdR} (h:Dc g d) (hh:g'.has=g.has) (hu:g'.u=g.u) (hv:g'.v=g.v):Dc g' d:=⟨fun i hi=>by rw [hh,hu,hv]; exact h.row i hi,fun s hs=>h.cov s (by rw [←hh]; exact hs),h.inj⟩
theorem Dc.put {g:G} {d:Array EdR} (h:Dc g d) {s u v:Int} {t:Bool} (hno:g.has s=false):Dc (g.put s u v 0 t) (d++#[⟨s,u,v,0,false⟩]):=by
 have g1:∀ j,j<d.size→(d++#[(⟨s,u,v,0,false⟩:EdR)])[j]! =d[j]!:=fun j hj=>get!_app hj
 have g2:(d++#[(⟨s,u,v,0,false⟩:EdR)])[d.size]! =⟨s,u,v,0,false⟩:=by simp
 have hs:∀ j,j<d.size→d[j]!.slot≠s:=fun j hj e=>by have:=(h.row j hj).1; rw [e,hno] at this; cases this
 refine ⟨fun i hi=>?_,fun q hq=>?_,fun i j hi hj e=>?_⟩
 ·by_cases hi':i<d.size
  ·rw [g1 i hi']
   have:=hs i hi'
   unfold G.put updB updI; simpa [this] using h.row i hi'
  ·obtain rfl:i=d.size:=by simp at hi; omega
   rw [g2]; unfold G.put updB updI; simp
 ·by_cases e:q=s
  ·exact ⟨d.size,by simp,by rw [g2]; exact e.symm⟩
  ·obtain ⟨i,hi,he⟩:=h.cov q (by unfold G.put updB at hq; simpa [e] using hq)
   exact ⟨i,by simp; omega,by rw [g1 i hi]; exact he⟩
 ·simp at hi hj
  by_cases hi':i<d.size<;>by_cases hj':j<d.size
  ·rw [g1 i hi',g1 j hj'] at e; exact h.inj i j hi' hj' e
  ·obtain rfl:j=d.size:=by omega
   rw [g1 i hi',g2] at e; exact absurd e (hs i hi')
  ·obtain rfl:i=d.size:=by omega
   rw [g1 j hj',g2] at e; exact absurd e.symm (hs j hj')
  ·omega
theorem Dc.del {l:Lay} (hl:l.Ok) {g:G} {d:Array EdR} (h:Dc g d) {i:Nat} (hi:i<d.size):Dc (g.del d[i]!.slot) (cutA d i):=by
 have hz:=zkg hl hi
 have hg:∀ j,j<d.size - 1→(cutA d i)[j]! =if j<i then d[j]! else d[j+1]!:=fun j hj=>zeG hl hi hj
 have hne:∀ j,j<d.size→j≠i→d[j]!.slot≠d[i]!.slot:=fun j hj hji e=>hji (h.inj j i hj hi e)
 have row:∀ j,j<d.size→j≠i→(g.del d[i]!.slot).has d[j]!.slot=true∧(g.del d[i]!.slot).u d[j]!.slot=d[j]!.u∧(g.del d[i]!.slot).v d[j]!.slot=d[j]!.v∧d[j]!.lv=0∧d[j]!.tr=false:=fun j hj hji=>by
  have:=hne j hj hji
  unfold G.del updB; simpa [this] using h.row j hj
 refine ⟨fun j hj=>?_,fun q hq=>?_,fun a b ha hb e=>?_⟩
 ·rw [hz] at hj; rw [hg j hj]
  split
  ·exact row j (by omega) (by omega)
  ·exact row (j+1) (by omega) (by omega)
 ·have e:q≠d[i]!.slot:=fun e=>by subst e; unfold G.del updB at hq; simp at hq
  obtain ⟨j,hj,he⟩:=h.cov q (by unfold G.del updB at hq; simpa [e] using hq)
  have hji:j≠i:=fun h=>e (by rw [←he,h])
  rcases Nat.lt_or_ge j i with hlt | hge
  ·exact ⟨j,by omega,by rw [hg j (by omega),if_pos hlt]; exact he⟩
  ·exact ⟨j - 1,by omega,by rw [hg _ (by omega),if_neg (by omega),show j - 1+1=j by omega]; exact he⟩
 ·rw [hz] at ha hb
  rw [hg a ha,hg b hb] at e
  split at e<;>split at e
  ·exact h.inj a b (by omega) (by omega) e
  ·have:=h.inj a (b+1) (by omega) (by omega) e; omega
  ·have:=h.inj (a+1) b (by omega) (by omega) e; omega
  ·have:=h.inj (a+1) (b+1) (by omega) (by omega) e; omega
end Go.Tm
namespace Go.Tm
open MemLike Eng
set_option linter.unusedSectionVars false
set_option linter.unusedVariables false
def prN (f:Nat→EdR):Nat→Array (Int×Int)
 | 0=>#[]
 | n+1=>prN f n++#[((f n).u,(f n).v)]
theorem zgz {f:Nat→EdR}:∀ {n:Nat},(prN f n).size=n
 | 0=>rfl
 | n+1=>by rw [prN]; have:=zgz (f:=f) (n:=n); simp [this]
theorem ziI {f:Nat→EdR}:∀ {n k:Nat},k<n→(prN f n)[k]! =((f k).u,(f k).v)
 | n+1,k,h=>by
  rw [prN]
  by_cases hk:k<n
  ·rw [get!_app (by rw [zgz]; exact hk)]; exact ziI hk
  ·obtain rfl:k=n:=by omega
   have:=get!_app2 (a:=prN f k) (b:=#[((f k).u,(f k).v)]) (j:=0) (by simp)
   rw [zgz] at this
   rw [Nat.add_zero] at this; rw [this]; rfl
noncomputable def jdB (d:Array EdR) (u v:Int):Bool:=zoK (fun k=>(prN (fun i=>d[i]!) d.size)[k]!) (prN (fun i=>d[i]!) d.size).size u v
def bwB (d:Array EdR) (u v:Int) (i:Nat):Bool:=decide (d[i]!.u=min u v∧d[i]!.v=max u v)
structure R14 (l:Lay) (pr:Int→Int) (σ:M) (g:G) (d:Array EdR):Prop where
 rt:zaw l pr σ g
 hd:Hdt l g
 dc:Dc g d
section
variable {l:Lay} (hl:l.Ok) {pr:Int→Int} {σ σ':M} {g g':G} {d:Array EdR}
include hl
theorem R14.size (h:R14 l pr σ g d):d.size≤l.S:=by
 have:=zc6 l.S ((List.range d.size).map fun i=>d[i]!.slot+1) (by
  refine List.Pairwise.map _ (fun i j hij=>hij) (List.Pairwise.imp_of_mem (R:=fun i j=>i≠j) (fun {i j} hi hj hij he=>?_) List.nodup_range)
  exact hij (h.dc.inj i j (List.mem_range.1 hi) (List.mem_range.1 hj) (by omega))) (fun x hx=>by
  obtain ⟨i,hi,rfl⟩:=List.mem_map.1 hx
  have:=(h.rt.rng hl (h.dc.row i (List.mem_range.1 hi)).1).1
  omega)
 simpa using this
theorem R14.rng (h:R14 l pr σ g d) {i:Nat} (hi:i<d.size):(0≤d[i]!.slot∧d[i]!.slot<l.S)∧(0≤d[i]!.u∧d[i]!.u<d[i]!.v∧d[i]!.v<l.V):=by
 obtain ⟨h1,h2,h3,h4,h5⟩:=h.dc.row i hi
 have:=h.rt.rng hl h1
 rw [h2,h3] at this; exact ⟨this.1,this.2.1⟩
def Wh (g:G) (u v:Int):Prop:=Conn (fun q=>g.has q=true) g.u g.v u v
omit hl in
theorem Wh.jn (hH:Hdt l g) (hr:∀ q,g.has q=true→0≤g.lv q) {u v:Int}:Wh g u v↔Jn g 0 u v:=by
 constructor
 ·intro c
  induction c with
  | refl=>exact .refl _
  | @step w x _ q hq he ih =>
   have hj:Jn g 0 (g.u q) (g.v q):=by
    cases ht:g.tr q with
    | true=>exact .step (.refl _) q ⟨hq,ht,hr q hq⟩ (.inl ⟨rfl,rfl⟩)
    | false=>exact (hH.nt q hq ht).down (hr q hq)
   rcases he with ⟨e1,e2⟩ | ⟨e1,e2⟩
   ·rw [←e1] at ih; rw [←e2]; exact ih.trans hj
   ·rw [←e1] at ih; rw [←e2]; exact ih.trans hj.symm
 ·intro c
  exact c.mono fun q hq=>hq.1
theorem R14.wh (h:R14 l pr σ g d) {u v:Int}:Wh g u v↔Jn g 0 u v:=Wh.jn h.hd fun q hq=>(h.rt.rng hl hq).2.2.1
theorem R14.jd (h:R14 l pr σ g d) {u v:Int}:jdB d u v=true↔Wh g u v:=by
 unfold jdB zoK
 rw [@decide_eq_true_eq _ (Classical.propDecidable _),zgz]
 unfold CN Wh
 constructor
 ·intro c
  induction c with
  | refl=>exact .refl _
  | @step w x _ k hk he ih =>
   have hkn:k.toNat<d.size:=by omega
   dsimp only at he
   rw [ziI hkn] at he
   obtain ⟨r1,r2,r3,_⟩:=h.dc.row _ hkn
   exact .step ih _ r1 (by rw [r2,r3]; exact he)
 ·intro c
  induction c with
  | refl=>exact .refl _
  | @step w x _ q hq he ih =>
   obtain ⟨j,h1,rfl⟩:=h.dc.cov q hq
   obtain ⟨r1,r2,r3,_⟩:=h.dc.row j h1
   rw [r2,r3] at he
   have hr:=(h.rng hl h1).2
   refine .step ih (j:Int) ⟨by omega,by omega,?_⟩ ?_
   ·dsimp only; rw [Int.toNat_natCast,ziI h1]; exact hr.1
   ·dsimp only; rw [Int.toNat_natCast,ziI h1]; exact he
theorem R14.joined (h:R14 l pr σ g d) {u v:Int} (hu:0≤u∧u<l.V) (hv:0≤v∧v<l.V):Go.Tm.same l 561 σ 0 u v=some (jdB d u v,σ):=by
 have lb:=zcF hl
 obtain ⟨b,e,hb⟩:=h.rt.same hl (i:=0) (u:=u) (v:=v) ⟨by omega,hu⟩ ⟨by omega,hv⟩ (k:=561) (by decide)
 rw [e]
 have:b=jdB d u v:=by
  rw [Bool.eq_iff_iff,hb,h.jd hl,h.wh hl]
 rw [this]
theorem R14.nil (hz:zaw l pr σ G0):R14 l pr σ G0 #[]:=⟨hz,Hdt.g0 hl,Dc.nil⟩
def LvUp (g g':G):Prop:=∀ q,g.has q=true→g'.has q=true→g.lv q≤g'.lv q
theorem R14.ins (h:R14 l pr σ g d) {s u v:Int} (hs:0≤s∧s<l.S) (hu:0≤u∧u<l.V) (hv:0≤v∧v<l.V) (hne:u≠v) (hno:∀ j,j<d.size→d[j]!.slot≠s) (hfr:∀ j,j<d.size→bwB d u v j=false) :
  ∃ σ' g',zcL l P1 561 σ s u v=some (!jdB d u v,σ')∧R14 l pr σ' g' (d++#[⟨s,min u v,max u v,0,false⟩])∧LvUp g g'∧g'=g.put s (min u v) (max u v) 0 (!jdB d u v):=by
 have hn:g.has s=false:=by
  cases hc:g.has s with
  | false=>rfl
  | true=>obtain ⟨j,h1,h2⟩:=h.dc.cov s hc; exact absurd h2 (hno j h1)
 have hf:∀ q,g.has q=true→¬(g.u q=min u v∧g.v q=max u v):=fun q hq hc=>by
  obtain ⟨j,h1,rfl⟩:=h.dc.cov q hq
  obtain ⟨r1,r2,r3,_⟩:=h.dc.row j h1
  have:=hfr j h1
  unfold bwB at this
  rw [decide_eq_false_iff_not] at this
  exact this ⟨r2.symm.trans hc.1,r3.symm.trans hc.2⟩
 obtain ⟨t,σ',e,ht,hR,hH⟩:=zgc hl (zhX hl) h.rt h.hd hs hu hv hne hn hf (k:=561) (by decide)
 have et:t=!jdB d u v:=by
  have h1:=h.jd hl (u:=u) (v:=v)
  rw [h.wh hl,←ht] at h1
  cases t<;>cases hj:jdB d u v<;>simp_all
 rw [←et]
 refine ⟨σ',_,e,⟨hR,hH,h.dc.put hn⟩,fun q hq _=>?_,rfl⟩
 have:q≠s:=fun e=>by subst e; rw [hn] at hq; cases hq
 unfold G.put updI; simp [this]
theorem R14.del (h:R14 l pr σ g d) {i:Nat} (hi:i<d.size) :
  ∃ b o σ' g',zda l P1 561 σ d[i]!.slot=some ((g.tr d[i]!.slot,b,o),σ')∧R14 l pr σ' g' (cutA d i)∧LvUp g g'∧o=(g.tr d[i]!.slot && jdB (cutA d i) d[i]!.u d[i]!.v)∧(o=false→b=0)∧(o=true→g.has b=true∧g.tr b=false∧g'.has b=true∧g'.tr b=true) ∧
   g'.has=updB g.has d[i]!.slot false∧g'.u=g.u∧g'.v=g.v:=by
 obtain ⟨r1,r2,r3,r4,r5⟩:=h.dc.row i hi
 have hlv:∀ {g2:G},Ext (g.del d[i]!.slot) g2→LvUp g g2:=fun {g2} hE q hq hq'=>hE.lv q
 obtain ⟨b,o,σ',g',h1 | ⟨σ2,h1,h2,h3,h4⟩⟩:=zgd hl (zhX hl) h.rt h.hd r1 (k:=561) (by decide)
 ·obtain ⟨h1,h2,h3⟩:=h1
  have hR:R14 l pr σ' g' (cutA d i):=⟨h2,h3.hdt,(h.dc.del hl hi).ext h3.ext.has h3.ext.u h3.ext.v⟩
  have hj:=(hR.jd hl (u:=d[i]!.u) (v:=d[i]!.v)).trans (hR.wh hl)
  rw [r2,r3] at h3
  have key:o=true→g.has b=true∧g.tr b=false∧g'.has b=true∧g'.tr b=true:=fun ho=>by
   obtain ⟨_,a,c,e⟩:=h3.yes ho
   refine ⟨?_,c,by rw [h3.ext.has]; exact a,by rw [e]; unfold updB; simp⟩
   unfold G.del updB at a
   dsimp only at a
   split at a
   ·cases a
   ·exact a
  have hso:o=(g.tr d[i]!.slot && jdB (cutA d i) d[i]!.u d[i]!.v):=by
   cases ho:o with
   | true =>
    have hjj:=hj.2 (h3.yes ho).1
    rw [hjj]
    cases ht:g.tr d[i]!.slot with
    | true=>rfl
    | false =>
     exfalso
     unfold zda at h1
     dsimp only at h1
     rw [h.rt.eget hl r1] at h1
     dsimp only at h1
     rw [ht,if_neg (by decide)] at h1
     cases hx:(remove l 561 (zeL l σ d[i]!.slot) d[i]!.slot) with
     | none=>rw [hx] at h1; cases h1
     | some z=>rw [hx] at h1; dsimp only [Option.bind_some] at h1; cases h1; cases ho
   | false =>
    have hjj:jdB (cutA d i) d[i]!.u d[i]!.v=false:=Bool.eq_false_iff.2 fun hc=>(h3.no ho).2.2 (hj.1 hc)
    rw [hjj,Bool.and_false]
  exact ⟨b,o,σ',g',h1,hR,hlv h3.ext,hso,fun ho=>(h3.no ho).1,key,h3.ext.has,h3.ext.u,h3.ext.v⟩
 ·refine ⟨0,false,σ2,g.del d[i]!.slot,by rw [h1]; exact h2,⟨h3,h4,h.dc.del hl hi⟩,hlv Ext.refl,by rw [h1]; rfl,fun _=>rfl,fun h=>(by cases h),rfl,rfl,rfl⟩
end
end Go.Tm
namespace Go.Tm
open MemLike Eng
set_option linter.unusedSectionVars false
set_option linter.unusedVariables false
structure Op3 where
 kind:Int
 u:Int
 v:Int
 deriving Inhabited,DecidableEq
section
variable {l:Lay} (hl:l.Ok) {pr:Int→Int} {σ σ':M} {g g':G} {d:Array EdR}
include hl
theorem R14.born {dn:Nat} {fd:Nat→Int} (hfd:∀ i,i<dn→0≤fd i∧fd i<18446744073709551616) {N:Nat} (hN:(N:Int)=l.cells):R14 l (fun x=>if dn=0 then 0 else fd (x.toNat % dn)) (znp l dn fd l.nodes.toNat (Array.replicate N 0)) G0 #[]:=by
 have hb:=zaD hl
 have:=BI.born hl (zhX hl) hfd hN l.nodes.toNat (by omega)
 rw [show ((l.nodes.toNat:Nat):Int)=l.nodes by omega] at this
 exact R14.nil hl (this.right hl)
omit hl in
theorem zrc {u v:Int}:jdB d u v=jdB d v u:=by
 unfold jdB zoK
 rw [decide_eq_decide]
 exact ⟨fun c=>Conn.symm c,fun c=>Conn.symm c⟩
omit hl in
theorem zoL {u v:Int}:jdB d (min u v) (max u v)=jdB d u v:=by
 rcases Int.lt_or_le u v with h | h
 ·rw [Int.min_eq_left (by omega),Int.max_eq_right (by omega)]
 ·rw [Int.min_eq_right h,Int.max_eq_left h]; exact zrc
omit hl in
theorem zpV {e:EdR}:cutA (d++#[e]) d.size=d:=by
 have h1:(d++#[e]).size - (d.size+1)=0:=by simp
 unfold cutA
 rw [h1]
 refine Array.ext (by simp [zcC]) fun i h2 h3=>?_
 have h4:i<(rngE (fun j=>(d++#[e])[j]!) d.size).size:=by rw [zcC]; exact h3
 rw [Array.getElem_append_left h4]
 have h5:=ziD (fun j=>(d++#[e])[j]!) h3
 rw [getElem!_pos _ i h4] at h5
 rw [h5,get!_app h3,getElem!_pos d i h3]
theorem R14.back (h:R14 l pr σ g d) {s u v:Int} (hs:0≤s∧s<l.S) (hu:0≤u∧u<l.V) (hv:0≤v∧v<l.V) (hne:u≠v) (hno:∀ j,j<d.size→d[j]!.slot≠s) (hfr:∀ j,j<d.size→bwB d u v j=false) :
  ∃ σ1 σ2 g2,zcL l P1 561 σ s u v=some (!jdB d u v,σ1)∧Go.Tm.same l 561 σ1 0 u v=some (true,σ1)∧zda l P1 561 σ1 s=some ((!jdB d u v,0,false),σ2)∧R14 l pr σ2 g2 d:=by
 obtain ⟨σ1,g1,e1,h1,_,hg1⟩:=h.ins hl hs hu hv hne hno hfr
 have hsz:(d++#[(⟨s,min u v,max u v,0,false⟩:EdR)]).size=d.size+1:=by simp
 have hat:(d++#[(⟨s,min u v,max u v,0,false⟩:EdR)])[d.size]! =⟨s,min u v,max u v,0,false⟩:=by simp
 obtain ⟨b,o,σ2,g2,e2,h2,_,ho,hb,_,_⟩:=h1.del hl (i:=d.size) (by omega)
 rw [hat] at e2 ho
 rw [zpV] at h2 ho
 dsimp only at e2 ho
 have ht:g1.tr s=!jdB d u v:=by rw [hg1]; unfold G.put updB; simp
 rw [zoL,ht] at ho
 have ho2:o=false:=by rw [ho]; cases jdB d u v<;>rfl
 rw [ho2,hb ho2,ht] at e2
 refine ⟨σ1,σ2,g2,e1,?_,e2,h2⟩
 rw [h1.joined hl hu hv]
 have:jdB (d++#[⟨s,min u v,max u v,0,false⟩]) u v=true:=by
  rw [←zoL,h1.jd hl,hg1]
  refine Conn.step (.refl _) s (by unfold G.put updB; simp) (.inl ⟨?_,?_⟩)<;>· unfold G.put updI; simp
 rw [this]
open Classical in
noncomputable def zf4 (l:Lay) (g:G):Nat:=(List.range l.V).countP fun x:Nat=>decide (∀ w:Nat,w<x→¬Jn g 0 (w:Int) (x:Int))
noncomputable def trN (g:G) (d:Array EdR):Nat→Nat
 | 0=>0
 | n+1=>trN g d n+(if g.tr d[n]!.slot=true then 1 else 0)
omit hl in
open Classical in
theorem zlA (h:∀ x y,Jn g' 0 x y↔Jn g 0 x y):zf4 l g'=zf4 l g:=by
 unfold zf4
 refine List.countP_congr fun x _=>?_
 simp only [decide_eq_true_eq,h]
omit hl in
theorem zn3 {s a b:Int} (hno:g.has s=false) {x y:Int}:Jn (g.put s a b 0 true) 0 x y↔Jn g 0 x y∨(Jn g 0 x a∧Jn g 0 b y)∨(Jn g 0 x b∧Jn g 0 a y):=by
 have hs:∀ q,g.has q=true→q≠s:=fun q hq e=>by subst e; rw [hno] at hq; cases hq
 have e:∀ {x y},Conn (Pg g 0) (g.put s a b 0 true).u (g.put s a b 0 true).v x y↔Jn g 0 x y:=fun {x y}=>by
  have hq:∀ q,Pg g 0 q→(g.put s a b 0 true).u q=g.u q∧(g.put s a b 0 true).v q=g.v q:=fun q hq=>by
   have:=hs q hq.1; unfold G.put updI; simp [this]
  exact ⟨fun c=>c.ends hq,fun c=>c.ends fun q h=>⟨(hq q h).1.symm,(hq q h).2.symm⟩⟩
 have hP:∀ q,Pg (g.put s a b 0 true) 0 q↔q=s∨Pg g 0 q:=fun q=>by
  unfold Pg G.put updB updI; dsimp only
  by_cases e:q=s
  ·subst e; simp
  ·simp [e]
 unfold Jn at *
 rw [show Conn (Pg (g.put s a b 0 true) 0) (g.put s a b 0 true).u (g.put s a b 0 true).v x y↔Conn (fun q=>q=s∨Pg g 0 q) (g.put s a b 0 true).u (g.put s a b 0 true).v x y from ⟨fun c=>c.mono fun q=>(hP q).1,fun c=>c.mono fun q=>(hP q).2⟩,zhM,e,e,e,e,e]
 have h1:(g.put s a b 0 true).u s=a:=by unfold G.put updI; simp
 have h2:(g.put s a b 0 true).v s=b:=by unfold G.put updI; simp
 rw [h1,h2]
omit hl in
theorem zoG {p:Nat→Prop}:∀ n:Nat,p n→∃ r,p r∧∀ w,p w→r≤w:=fun n=>by
 induction n using Nat.strongRecOn with
 | ind n ih =>
  intro hn
  by_cases h:∃ m,m<n∧p m
  ·obtain ⟨m,h1,h2⟩:=h; exact ih m h1 h2
  ·exact ⟨n,hn,fun w hw=>Nat.le_of_not_lt fun hlt=>h ⟨w,hlt,hw⟩⟩
omit hl in
theorem zmm {a:Int} (ha:0≤a∧a<l.V):∃ r:Nat,r<l.V∧Jn g 0 a (r:Int)∧∀ w:Nat,Jn g 0 a (w:Int)→r≤w:=by
 obtain ⟨r,h1,h2⟩:=zoG (p:=fun r:Nat=>Jn g 0 a (r:Int)) a.toNat (by rw [Int.toNat_of_nonneg ha.1]; exact .refl _)
 have:=h2 a.toNat (by rw [Int.toNat_of_nonneg ha.1]; exact .refl _)
 exact ⟨r,by omega,h1,h2⟩
omit hl in
open Classical in
theorem zpZ {s a b:Int} (hno:g.has s=false) (ha:0≤a∧a<l.V) (hb:0≤b∧b<l.V) (hj:¬Jn g 0 a b):zf4 l g=zf4 l (g.put s a b 0 true)+1:=by
 obtain ⟨ra,hra,ja,ma⟩:=zmm (l:=l) (g:=g) ha
 obtain ⟨rb,hrb,jb,mb⟩:=zmm (l:=l) (g:=g) hb
 have hne:ra≠rb:=fun e=>hj (ja.trans (by rw [e]; exact jb.symm))
 unfold zf4
 refine zdG (s:=max ra rb) (fun x _ hx=>?_) (List.mem_range.2 (by omega)) (decide_eq_false fun h=>?_) (decide_eq_true fun w hw c=>?_) List.nodup_range
 ·rw [decide_eq_decide]
  refine ⟨fun h w hw c=>?_,fun h w hw c=>h w hw ((zn3 hno).2 (.inl c))⟩
  rcases (zn3 hno).1 c with c | ⟨c1,c2⟩ | ⟨c1,c2⟩
  ·exact h w hw c
  ·
   have hx1:rb≤x:=mb x c2
   have hx2:¬rb<x:=fun hlt=>h rb hlt (jb.symm.trans c2)
   have hw1:ra≤w:=ma w c1.symm
   omega
  ·have hx1:ra≤x:=ma x c2
   have hx2:¬ra<x:=fun hlt=>h ra hlt (ja.symm.trans c2)
   have hw1:rb≤w:=mb w c1.symm
   omega
 ·refine h (min ra rb) (by omega) ?_
  rw [zn3 hno]
  rcases Nat.lt_or_ge ra rb with hlt | hge
  ·rw [Nat.min_eq_left (by omega),Nat.max_eq_right (by omega)]; exact .inr (.inl ⟨ja.symm,jb⟩)
  ·rw [Nat.min_eq_right hge,Nat.max_eq_left hge]; exact .inr (.inr ⟨jb.symm,ja⟩)
 ·rcases Nat.lt_or_ge ra rb with hlt | hge
  ·rw [Nat.max_eq_right (by omega)] at hw c
   have:=mb w (jb.trans c.symm); omega
  ·rw [Nat.max_eq_left hge] at hw c
   have:=ma w (ja.trans c.symm); omega
omit hl in
theorem zjx {d':Array EdR}:∀ {n:Nat},(∀ j,j<n→g'.tr d'[j]!.slot=g.tr d[j]!.slot)→trN g' d' n=trN g d n
 | 0,_=>rfl
 | n+1,h=>by rw [trN,trN,zjx fun j hj=>h j (by omega),h n (by omega)]
theorem R14.cnt_put (h:R14 l pr σ g d) {s u v:Int} (hu:0≤u∧u<l.V) (hv:0≤v∧v<l.V) (hno:∀ j,j<d.size→d[j]!.slot≠s) (hc:trN g d d.size+zf4 l g=l.V) (hg':g'=g.put s (min u v) (max u v) 0 (!jdB d u v)) :
  trN g' (d++#[⟨s,min u v,max u v,0,false⟩]) (d++#[(⟨s,min u v,max u v,0,false⟩:EdR)]).size+zf4 l g'=l.V:=by
 have hn:g.has s=false:=by
  cases hc:g.has s with
  | false=>rfl
  | true=>obtain ⟨j,h1,h2⟩:=h.dc.cov s hc; exact absurd h2 (hno j h1)
 have hsz:(d++#[(⟨s,min u v,max u v,0,false⟩:EdR)]).size=d.size+1:=by simp
 have hat:(d++#[(⟨s,min u v,max u v,0,false⟩:EdR)])[d.size]! =⟨s,min u v,max u v,0,false⟩:=by simp
 rw [hsz,trN,hat]
 dsimp only
 have h1:trN g' (d++#[⟨s,min u v,max u v,0,false⟩]) d.size=trN g d d.size:=zjx fun j hj=>by
  rw [get!_app hj,hg']; unfold G.put updB; simp [hno j hj]
 have h2:g'.tr s=!jdB d u v:=by rw [hg']; unfold G.put updB; simp
 rw [h1,h2]
 have hj:=(h.jd hl (u:=min u v) (v:=max u v)).trans (h.wh hl)
 rw [zoL] at hj
 have hm1:0≤min u v∧min u v<l.V:=by omega
 have hm2:0≤max u v∧max u v<l.V:=by omega
 cases hb:jdB d u v with
 | true =>
  have:zf4 l g'=zf4 l g:=zlA fun x y=>by
   rw [hg',hb]
   refine Jn.congr (fun q=>?_) fun q hq=>?_
   ·unfold Pg G.put updB updI; dsimp only
    by_cases e:q=s
    ·subst e; simp [hn]
    ·simp [e]
   ·have:q≠s:=fun e=>by subst e; have:=hq.1; rw [hn] at this; cases this
    unfold G.put updI; simp [this]
  rw [this]; simpa using hc
 | false =>
  have:zf4 l g=zf4 l g'+1:=by
   rw [hg',hb]
   exact zpZ hn hm1 hm2 fun c=>by have:=hj.2 c; rw [hb] at this; cases this
  rw [if_pos (by rfl)]
  omega
end
end Go.Tm
namespace Go.Tm
open MemLike Eng
set_option linter.unusedSectionVars false
set_option linter.unusedVariables false
def Val3 (l:Lay) (o:Op3):Prop:=o.u≠o.v∧0≤o.u∧o.u<l.V∧0≤o.v∧o.v<l.V
def InsR (l:Lay) (o:Op3) (d:Array EdR) (g:G) (d2:Array EdR) (g2:G):Prop :=
 (d2=d∧g2=g∧(¬Val3 l o∨(∃ j,j<d.size∧bwB d o.u o.v j=true)∨d.size=l.S)) ∨
  (Val3 l o∧∃ s:Int,(∀ j,j<d.size→d[j]!.slot≠s)∧d2=d++#[⟨s,min o.u o.v,max o.u o.v,0,false⟩]∧g2=g.put s (min o.u o.v) (max o.u o.v) 0 (!jdB d o.u o.v))
theorem LvUp.refl {g:G}:LvUp g g:=fun _ _ _=>Int.le_refl _
section
variable {l:Lay} (hl:l.Ok) {pr:Int→Int} {σ σ':M} {g g':G} {d:Array EdR}
include hl
omit hl in
theorem R14.edges (h:R14 l pr σ g d):EdgeOk l σ g:=by obtain ⟨F,mk,L,hI⟩:=h.rt; exact hI.edges
theorem R14.is (h:R14 l pr σ g d) {E:Array EdR} (hM:Mt g E):E.size=d.size∧∀ j,j<E.size→∃ i:Nat,i<d.size∧fsN (bwB d E[j]!.u E[j]!.v) d.size=(i:Int)∧d[i]!.slot=E[j]!.slot:=by
 have hle:∀ (a b:Array EdR),(∀ i,i<a.size→∃ j,j<b.size∧b[j]!.slot=a[i]!.slot)→(∀ i j,i<a.size→j<a.size→a[i]!.slot=a[j]!.slot→i=j)→a.size≤b.size:=fun a b hex hinj=>by
  let f:Nat→Nat:=fun i=>if hi:i<a.size then Classical.choose (hex i hi) else 0
  have hf:∀ i,i<a.size→f i<b.size∧b[f i]!.slot=a[i]!.slot:=fun i hi=>by
   show (if hi:i<a.size then Classical.choose (hex i hi) else 0)<b.size∧b[(if hi:i<a.size then Classical.choose (hex i hi) else 0)]!.slot=a[i]!.slot
   rw [dif_pos hi]; exact Classical.choose_spec (hex i hi)
  have:=zc6 b.size ((List.range a.size).map fun i=>(f i:Int)+1) (by
   refine List.Pairwise.map _ (fun i j hij=>hij) (List.Pairwise.imp_of_mem (R:=fun i j=>i≠j) (fun {i j} hi hj hij he=>?_) List.nodup_range)
   have h1:=(hf i (List.mem_range.1 hi)).2; have h2:=(hf j (List.mem_range.1 hj)).2
   have:f i=f j:=by omega
   rw [this] at h1
   exact hij (hinj i j (List.mem_range.1 hi) (List.mem_range.1 hj) (h1.symm.trans h2))) (fun x hx=>by
   obtain ⟨i,hi,rfl⟩:=List.mem_map.1 hx
   have:=(hf i (List.mem_range.1 hi)).1
   omega)
  simpa using this
 have h1:=hle E d (fun i hi=>h.dc.cov _ (hM.row i hi).1) hM.inj
 have h2:=hle d E (fun i hi=>hM.cov _ (h.dc.row i hi).1) h.dc.inj
 refine ⟨by omega,fun j hj=>?_⟩
 obtain ⟨r1,r2,r3,r4,r5⟩:=hM.row j hj
 obtain ⟨i,hi,he⟩:=h.dc.cov _ r1
 obtain ⟨q1,q2,q3,_⟩:=h.dc.row i hi
 have hr:=(h.rng hl hi).2
 rw [he] at q2 q3
 have hu:d[i]!.u=E[j]!.u:=q2.symm.trans r2
 have hv:d[i]!.v=E[j]!.v:=q3.symm.trans r3
 have hb:bwB d E[j]!.u E[j]!.v i=true:=decide_eq_true ⟨by rw [Int.min_eq_left (by omega)]; exact hu,by rw [Int.max_eq_right (by omega)]; exact hv⟩
 rcases zoZ (P:=bwB d E[j]!.u E[j]!.v) (n:=d.size) with ⟨_,hn⟩ | ⟨i',hi',e,hb',_⟩
 ·rw [hn i hi] at hb; cases hb
 ·refine ⟨i',hi',e,?_⟩
  have hc:=of_decide_eq_true hb'
  rw [Int.min_eq_left (by omega),Int.max_eq_right (by omega)] at hc
  obtain ⟨F,mk,L,hI⟩:=h.rt
  obtain ⟨p1,p2,p3,_⟩:=h.dc.row i' hi'
  have:=hI.edges.uniq _ _ p1 q1 (by rw [p2,he,q2,hc.1,hu]) (by rw [p3,he,q3,hc.2,hv])
  rw [this,he]
end
end Go.Tm
namespace Go.Tm
open MemLike Eng
set_option linter.unusedSectionVars false
set_option linter.unusedVariables false
end Go.Tm
namespace Go.Tm
open MemLike Eng
set_option linter.unusedSectionVars false
set_option linter.unusedVariables false
def CntI (l:Lay) (g:G) (d:Array EdR):Prop:=trN g d d.size+zf4 l g=l.V
structure SetI (l:Lay) (fo:Nat→Op3) (ix:Nat→Nat) (d:Array EdR) (i:Nat):Prop where
 of:∀ k,k<d.size→∃ j,j<i∧Val3 l (fo (ix j))∧bwB d (fo (ix j)).u (fo (ix j)).v k=true
 has:d.size<l.S→∀ j,j<i→Val3 l (fo (ix j))→∃ k,k<d.size∧bwB d (fo (ix j)).u (fo (ix j)).v k=true
theorem SetI.start {l:Lay} {fo:Nat→Op3} {ix:Nat→Nat}:SetI l fo ix #[] 0:=⟨fun k hk=>absurd hk (Nat.not_lt_zero k),fun _ j hj=>absurd hj (Nat.not_lt_zero j)⟩
theorem zqc {d:Array EdR} {e:EdR} {u v:Int} {k:Nat} (hk:k<d.size):bwB (d++#[e]) u v k=bwB d u v k:=by unfold bwB; rw [get!_app hk]
section
variable {l:Lay} (hl:l.Ok) {pr:Int→Int} {σ σ':M} {g g' g2:G} {d d2:Array EdR} {fo:Nat→Op3} {ix:Nat→Nat} {i:Nat}
theorem SetI.step (h:SetI l fo ix d i) (hI:InsR l ⟨1,(fo (ix i)).u,(fo (ix i)).v⟩ d g d2 g2):SetI l fo ix d2 (i+1):=by
 have hval:Val3 l ⟨1,(fo (ix i)).u,(fo (ix i)).v⟩↔Val3 l (fo (ix i)):=Iff.rfl
 rcases hI with ⟨rfl,_,hc⟩ | ⟨hv,s,hno,rfl,_⟩
 ·refine ⟨fun k hk=>by obtain ⟨j,hj,h2⟩:=h.of k hk; exact ⟨j,by omega,h2⟩,fun hs j hj hv=>?_⟩
  by_cases e:j=i
  ·subst e
   rcases hc with hc | ⟨k,hk,hb⟩ | hc
   ·exact absurd hv hc
   ·exact ⟨k,hk,hb⟩
   ·omega
  ·exact h.has hs j (by omega) hv
 ·have hsz:(d++#[(⟨s,min (fo (ix i)).u (fo (ix i)).v,max (fo (ix i)).u (fo (ix i)).v,0,false⟩:EdR)]).size=d.size+1:=by simp
  have hat:bwB (d++#[(⟨s,min (fo (ix i)).u (fo (ix i)).v,max (fo (ix i)).u (fo (ix i)).v,0,false⟩:EdR)]) (fo (ix i)).u (fo (ix i)).v d.size=true:=decide_eq_true (by simp)
  refine ⟨fun k hk=>?_,fun hs j hj hvj=>?_⟩
  ·by_cases hk2:k<d.size
   ·obtain ⟨j,hj,h1,h2⟩:=h.of k hk2
    exact ⟨j,by omega,h1,by rw [zqc hk2]; exact h2⟩
   ·obtain rfl:k=d.size:=by rw [hsz] at hk; omega
    exact ⟨i,by omega,hv,hat⟩
  ·by_cases e:j=i
   ·subst e; exact ⟨d.size,by rw [hsz]; omega,hat⟩
   ·obtain ⟨k,hk,hb⟩:=h.has (by rw [hsz] at hs; omega) j (by omega) hvj
    exact ⟨k,by rw [hsz]; omega,by rw [zqc hk]; exact hb⟩
include hl
theorem CntI.step (h:CntI l g d) (hR:R14 l pr σ g d) {o:Op3} (hI:InsR l o d g d2 g2):CntI l g2 d2:=by
 rcases hI with ⟨rfl,rfl,_⟩ | ⟨hv,s,hno,rfl,hg⟩
 ·exact h
 ·exact hR.cnt_put hl ⟨hv.2.1,hv.2.2.1⟩ ⟨hv.2.2.2.1,hv.2.2.2.2⟩ hno h hg
theorem R14.sub (hR:R14 l pr σ g d) {pr':Int→Int} (hR':R14 l pr' σ' g' d2) (h:∀ k,k<d.size→∃ j,j<d2.size∧d2[j]!.u=d[k]!.u∧d2[j]!.v=d[k]!.v) {u v:Int} (c:Wh g u v):Wh g' u v:=by
 unfold Wh at c ⊢
 induction c with
 | refl=>exact .refl _
 | @step w x _ q hq he ih =>
  obtain ⟨k,hk,rfl⟩:=hR.dc.cov q hq
  obtain ⟨_,r2,r3,_⟩:=hR.dc.row k hk
  obtain ⟨j,hj,h1,h2⟩:=h k hk
  obtain ⟨p1,p2,p3,_⟩:=hR'.dc.row j hj
  rw [r2,r3] at he
  exact .step ih _ p1 (by rw [p2,p3,h1,h2]; exact he)
omit hl in
theorem SetI.sub {ix':Nat→Nat} {n:Nat} (h:SetI l fo ix d n) (h':SetI l fo ix' d2 n) (hs:d2.size<l.S) (hix:∀ j,j<n→∃ j',j'<n∧ix' j'=ix j):∀ k,k<d.size→∃ j,j<d2.size∧d2[j]!.u=d[k]!.u∧d2[j]!.v=d[k]!.v:=fun k hk=>by
 obtain ⟨j,hj,hv,hb⟩:=h.of k hk
 obtain ⟨j',hj',e⟩:=hix j hj
 obtain ⟨k',hk',hb'⟩:=h'.has hs j' hj' (by rw [e]; exact hv)
 rw [e] at hb'
 have h1:=of_decide_eq_true hb; have h2:=of_decide_eq_true hb'
 exact ⟨k',hk',by rw [h1.1,h2.1],by rw [h1.2,h2.2]⟩
end
end Go.Tm
namespace Go.Tm
open MemLike
set_option linter.unusedSectionVars false
set_option linter.unusedVariables false
def lowc (l:Lay) (j:Int):Prop:=(∃ s,j=l.ends s∨j=l.level s)∨(∃ a b,j=l.edge a b)∨(∃ s d,j=l.next s d∨j=l.prev s d)∨∃ v i,j=l.head v i
section
variable {S:Type} [MemLike S] {l:Lay} {p:Pen} {σ0 σ:S}
inductive Rch (l:Lay) (p:Pen) (σ0:S):S→Prop
 | refl:Rch l p σ0 σ0
 | ld {σ:S} (i:Int) (h:Rch l p σ0 σ):Rch l p σ0 (ld σ i)
 | nf {σ:S} {x f v:Int} (h:Rch l p σ0 σ) (hf:f=3∨f=4∨f=6):Rch l p σ0 (st σ (l.field x f) v)
 | par {σ:S} {x v:Int} (h:Rch l p σ0 σ) (hs:zcz l x=false):Rch l p σ0 (st σ (l.field x 2) v)
 | wr {σ:S} {x q:Int} (h:Rch l p σ0 σ) (hs:zcz l x=true):Rch l p σ0 (p.write σ (l.field x 2) q)
 | low {σ:S} {j v:Int} (h:Rch l p σ0 σ) (hj:lowc l j):Rch l p σ0 (st σ j v)
theorem zb2 {x f:Int} (h:Rch l p σ0 σ):Rch l p σ0 (zdM l σ x f):=h.ld _
theorem znF {x f v:Int} (h:Rch l p σ0 σ) (hf:f=3∨f=4∨f=6):Rch l p σ0 (tput l σ x f v):=h.nf hf
theorem zc4 {x:Int} (h:Rch l p σ0 σ):Rch l p σ0 (zb5 l σ x):=h.ld _
theorem zj3 {x q:Int} (h:Rch l p σ0 σ):Rch l p σ0 (hang l p σ x q):=by
 unfold hang
 split
 ·exact h
 ·split
  ·next hs=>exact h.wr hs
  ·next hs=>exact h.par (by simpa using hs)
theorem zbA {x:Int} (h:Rch l p σ0 σ):Rch l p σ0 (zb1 l σ x):=by
 unfold zb1; split
 ·exact h
 ·exact h.ld _
theorem ziS {x:Int} (h:Rch l p σ0 σ):Rch l p σ0 (zft l σ x):=zbA h
theorem zl4 {x m:Int}:∀ {n:Nat},Rch l p σ0 σ→Rch l p σ0 (zdk l σ x m n).2
 | 0,h=>h
 | n+1,h=>zbA (zb2 (zl4 h))
theorem zkT {x m:Int} (h:Rch l p σ0 σ):Rch l p σ0 (zgo l σ x m):=(zl4 h).nf (.inr (.inr rfl))
theorem zqn {x:Int} (h:Rch l p σ0 σ):Rch l p σ0 (alone l p σ x):=(zj3 (znF (znF h (.inl rfl)) (.inr (.inl rfl)))).nf (.inr (.inr rfl))
theorem zlZ {x f c:Int} (h:Rch l p σ0 σ) (hf:f=3∨f=4∨f=6):Rch l p σ0 (setC l p σ x f c):=zkT (ziS (zj3 (znF h hf)))
theorem zkC:∀ {k:Nat} {σ:S} {x n:Int} {r:(Int×Int)×S},split l p k σ x n=some r→Rch l p σ0 σ→Rch l p σ0 r.2
 | 0,_,_,_,_,e,_=>by simp [split] at e
 | k+1,σ,x,n,r,e,h=>by
  rw [split] at e
  split at e
  ·cases e; exact h
  ·dsimp only at e
   split at e
   ·obtain ⟨a,h1,h2⟩:=Option.bind_eq_some_iff.1 e
    cases h2
    exact zlZ (zkC h1 (zbA (zb2 h))) (.inl rfl)
   ·obtain ⟨a,h1,h2⟩:=Option.bind_eq_some_iff.1 e
    cases h2
    exact zlZ (zkC h1 (zb2 (zbA (zb2 h)))) (.inr (.inl rfl))
theorem zfa {k:Nat} {x n:Int} {r:(Int×Int)×S} (e:zee l p k σ x n=some r) (h:Rch l p σ0 σ):Rch l p σ0 r.2:=by
 obtain ⟨a,h1,h2⟩:=Option.bind_eq_some_iff.1 e
 cases h2
 exact zj3 (zj3 (zkC h1 (zbA h)))
theorem zmJ {x y:Int} (h:Rch l p σ0 σ):Rch l p σ0 (zkp l σ x y):=(h.ld _).ld _
theorem zk0:∀ {k:Nat} {σ:S} {a b:Int} {r:Int×S},merge l p k σ a b=some r→Rch l p σ0 σ→Rch l p σ0 r.2
 | 0,_,_,_,_,e,_=>by simp [merge] at e
 | k+1,σ,a,b,r,e,h=>by
  rw [merge] at e
  split at e
  ·cases e; exact h
  ·split at e
   ·cases e; exact h
   ·dsimp only at e
    split at e
    ·obtain ⟨c,h1,h2⟩:=Option.bind_eq_some_iff.1 e
     cases h2
     exact zlZ (zk0 h1 (zb2 (zmJ h))) (.inr (.inl rfl))
    ·obtain ⟨c,h1,h2⟩:=Option.bind_eq_some_iff.1 e
     cases h2
     exact zlZ (zk0 h1 (zb2 (zmJ h))) (.inl rfl)
theorem zfo {k:Nat} {a b:Int} {r:Int×S} (e:zej l p k σ a b=some r) (h:Rch l p σ0 σ):Rch l p σ0 r.2:=by
 obtain ⟨c,h1,h2⟩:=Option.bind_eq_some_iff.1 e
 cases h2
 exact zj3 (zk0 h1 h)
theorem zmh:∀ {k:Nat} {σ:S} {q:Int} {r:S},zbK l k σ q=some r→Rch l p σ0 σ→Rch l p σ0 r
 | 0,_,_,_,e,_=>by simp [zbK] at e
 | k+1,σ,q,r,e,h=>by
  rw [zbK] at e
  split at e
  ·exact zmh e (zc4 (zkT (ziS h)))
  ·cases e; exact h
theorem zox {k:Nat} {x m:Int} {on:Bool} {r:S} (e:zgp l k σ x m on=some r) (h:Rch l p σ0 σ):Rch l p σ0 r:=zmh e (zc4 (zkT (ziS h)))
theorem zi5 {m:Int}:∀ {k:Nat} {σ:S} {x:Int} {r:Int×S},zd7 l m k σ x=some r→Rch l p σ0 σ→Rch l p σ0 r.2
 | 0,_,_,_,e,_=>by simp [zd7] at e
 | k+1,σ,x,r,e,h=>by
  rw [zd7] at e
  dsimp only at e
  split at e
  ·exact zi5 e (zbA (zb2 h))
  ·split at e
   ·cases e; exact zbA (zbA (zb2 h))
   ·exact zi5 e (zb2 (zbA (zbA (zb2 h))))
theorem ztg {k:Nat} {x m:Int} {r:Int×S} (e:first l k σ x m=some r) (h:Rch l p σ0 σ):Rch l p σ0 r.2:=by
 unfold first at e
 split at e
 ·exact zi5 e (zbA h)
 ·cases e; exact zbA h
theorem zg6:∀ {k:Nat} {σ:S} {x:Int} {r:Int×S},root l k σ x=some r→Rch l p σ0 σ→Rch l p σ0 r.2
 | 0,_,_,_,e,_=>by simp [root] at e
 | k+1,σ,x,r,e,h=>by
  rw [root] at e
  split at e
  ·split at e
   ·cases e; exact zc4 h
   ·exact zg6 e (zc4 h)
  ·cases e; exact h
theorem zi0:∀ {k:Nat} {σ:S} {x n:Int} {r:Int×S},zbW l k σ x n=some r→Rch l p σ0 σ→Rch l p σ0 r.2
 | 0,_,_,_,_,e,_=>by simp [zbW] at e
 | k+1,σ,x,n,r,e,h=>by
  rw [zbW] at e
  split at e
  ·cases e; exact zc4 h
  ·dsimp only at e
   split at e
   ·exact zi0 e (zbA (zb2 (zb2 (zc4 h))))
   ·exact zi0 e (zb2 (zc4 h))
theorem zld {k:Nat} {x:Int} {r:Int×S} (e:index l k σ x=some r) (h:Rch l p σ0 σ):Rch l p σ0 r.2:=zi0 e (zbA (zb2 h))
theorem zqf {k:Nat} {i u:Int} {r:Int×S} (e:zgl l p k σ i u=some r) (h:Rch l p σ0 σ):Rch l p σ0 r.2:=by
 obtain ⟨a,h1,e⟩:=Option.bind_eq_some_iff.1 e
 obtain ⟨b,h2,e⟩:=Option.bind_eq_some_iff.1 e
 obtain ⟨c,h3,e⟩:=Option.bind_eq_some_iff.1 e
 exact zfo e (zfa h3 (zld h2 (zg6 h1 h)))
theorem znS {k:Nat} {i u v:Int} {r:Bool×S} (e:same l k σ i u v=some r) (h:Rch l p σ0 σ):Rch l p σ0 r.2:=by
 obtain ⟨a,h1,e⟩:=Option.bind_eq_some_iff.1 e
 obtain ⟨b,h2,e⟩:=Option.bind_eq_some_iff.1 e
 cases e
 exact zg6 h2 (zg6 h1 h)
theorem zpY {k:Nat} {i u:Int} {r:Int×S} (e:count l k σ i u=some r) (h:Rch l p σ0 σ):Rch l p σ0 r.2:=by
 obtain ⟨a,h1,e⟩:=Option.bind_eq_some_iff.1 e
 cases e
 exact zbA (zg6 h1 h)
theorem zrX {k:Nat} {i s u v:Int} {r:Int×S} (e:link l p k σ i s u v=some r) (h:Rch l p σ0 σ):Rch l p σ0 r.2:=by
 obtain ⟨a,h1,e⟩:=Option.bind_eq_some_iff.1 e
 obtain ⟨b,h2,e⟩:=Option.bind_eq_some_iff.1 e
 obtain ⟨c,h3,e⟩:=Option.bind_eq_some_iff.1 e
 obtain ⟨d,h4,e⟩:=Option.bind_eq_some_iff.1 e
 exact zfo e (zfo h4 (zqf h3 (zfo h2 (zqf h1 h))))
theorem cut_r {k:Nat} {i s:Int} {r:(Int×Int)×S} (e:cut l p k σ i s=some r) (h:Rch l p σ0 σ):Rch l p σ0 r.2:=by
 obtain ⟨a,h1,e⟩:=Option.bind_eq_some_iff.1 e
 obtain ⟨b,h2,e⟩:=Option.bind_eq_some_iff.1 e
 obtain ⟨c,h3,e⟩:=Option.bind_eq_some_iff.1 e
 obtain ⟨d,h4,e⟩:=Option.bind_eq_some_iff.1 e
 obtain ⟨f,h5,e⟩:=Option.bind_eq_some_iff.1 e
 obtain ⟨g,h6,e⟩:=Option.bind_eq_some_iff.1 e
 obtain ⟨q,h7,e⟩:=Option.bind_eq_some_iff.1 e
 obtain ⟨t,h8,e⟩:=Option.bind_eq_some_iff.1 e
 cases e
 exact zfo h8 (zqn (zqn (zfa h7 (zfa h6 (zfa h5 (zfa h4 (zg6 h3 (zld h2 (zld h1 h)))))))))
theorem zsc {s u v i:Int} {t:Bool} (h:Rch l p σ0 σ):Rch l p σ0 (eput l σ s u v i t):=((h.low (.inl ⟨s,.inl rfl⟩)).low (.inl ⟨s,.inr rfl⟩)).low (.inr (.inl ⟨u,v,rfl⟩))
theorem zkc {u v:Int} (h:Rch l p σ0 σ):Rch l p σ0 (zcr l σ u v):=h.low (.inr (.inl ⟨u,v,rfl⟩))
theorem zd1 {s:Int} (h:Rch l p σ0 σ):Rch l p σ0 (zeL l σ s):=((h.ld _).ld _).ld _
theorem zul {s:Int} {t:Bool} (h:Rch l p σ0 σ):Rch l p σ0 (zhJ l σ s t):=(h.ld _).low (.inr (.inl ⟨_,_,rfl⟩))
theorem zpS {s i:Int} (h:Rch l p σ0 σ):Rch l p σ0 (zgr l σ s i):=h.low (.inl ⟨s,.inr rfl⟩)
theorem zfv {v i:Int}:lowc l (l.head v i):=.inr (.inr (.inr ⟨v,i,rfl⟩))
theorem zfu {x:Int}:lowc l (za0 l x):=.inr (.inr (.inl ⟨_,_,.inl rfl⟩))
theorem zel {x:Int}:lowc l (zaH l x):=.inr (.inr (.inl ⟨_,_,.inr rfl⟩))
theorem zqm {k:Nat} {v i:Int} {r:S} (e:zf8 l k σ v i=some r) (h:Rch l p σ0 σ):Rch l p σ0 r:=by
 unfold zf8 at e
 dsimp only at e
 split at e
 ·exact zox e (zbA (h.ld _))
 ·cases e; exact zbA (h.ld _)
theorem zrS {k:Nat} {x v i:Int} {r:S} (e:push l k σ x v i=some r) (h:Rch l p σ0 σ):Rch l p σ0 r:=by
 unfold push at e
 dsimp only at e
 refine zqm e (Rch.low ?_ zfv)
 split
 ·exact (((h.ld _).low zfu).low zel).low zel
 ·exact ((h.ld _).low zfu).low zel
theorem zrT {k:Nat} {x v i:Int} {r:S} (e:pull l k σ x v i=some r) (h:Rch l p σ0 σ):Rch l p σ0 r:=by
 unfold pull at e
 dsimp only at e
 refine zqm e ?_
 have key:∀ τ:S,Rch l p σ0 τ→Rch l p σ0 (if aget (ld σ (zaH l x)) (za0 l x)≠0 then st τ (zaH l (aget (ld σ (zaH l x)) (za0 l x))) (IntKind.u64.wrap (aget σ (zaH l x))) else τ):=fun τ hτ=>by
  split
  ·exact hτ.low zel
  ·exact hτ
 refine key _ ?_
 split
 ·exact ((h.ld _).ld _).low zfv
 ·exact ((h.ld _).ld _).low zfu
theorem zvp {k:Nat} {s:Int} {r:S} (e:add l k σ s=some r) (h:Rch l p σ0 σ):Rch l p σ0 r:=by
 obtain ⟨a,h1,e⟩:=Option.bind_eq_some_iff.1 e
 exact zrS e (zrS h1 (zd1 h))
theorem ziG {k:Nat} {s:Int} {r:S} (e:remove l k σ s=some r) (h:Rch l p σ0 σ):Rch l p σ0 r:=by
 obtain ⟨a,h1,e⟩:=Option.bind_eq_some_iff.1 e
 exact zrT e (zrT h1 (zd1 h))
theorem zk8 {k:Nat} {s i:Int} {on:Bool} {r:S} (e:lmark l k σ s i on=some r) (h:Rch l p σ0 σ):Rch l p σ0 r:=zox e h
theorem zl6 {s u v:Int} {m:Nat}:∀ {k:Nat} {σ:S} {i n:Int} {r:S},zcM l p s u v k m σ i n=some r→Rch l p σ0 σ→Rch l p σ0 r
 | 0,_,_,_,_,e,_=>by simp [zcM] at e
 | k+1,σ,i,n,r,e,h=>by
  rw [zcM] at e
  split at e
  ·obtain ⟨a,h1,e⟩:=Option.bind_eq_some_iff.1 e
   exact zl6 e (zrX h1 h)
  ·cases e; exact h
theorem zof {k:Nat} {s:Int} {r:S} (e:plant l p k σ s=some r) (h:Rch l p σ0 σ):Rch l p σ0 r:=by
 obtain ⟨a,h1,e⟩:=Option.bind_eq_some_iff.1 e
 exact zk8 e (zl6 h1 (zul (zd1 h)))
theorem zo5 {s:Int} {m:Nat}:∀ {k:Nat} {σ:S} {i n:Int} {r:S},zhr l p s k m σ i n=some r→Rch l p σ0 σ→Rch l p σ0 r
 | 0,_,_,_,_,e,_=>by simp [zhr] at e
 | k+1,σ,i,n,r,e,h=>by
  rw [zhr] at e
  split at e
  ·obtain ⟨a,h1,e⟩:=Option.bind_eq_some_iff.1 e
   exact zo5 e (cut_r h1 h)
  ·cases e; exact h
theorem zu0 {k:Nat} {s:Int} {r:S} (e:fell l p k σ s=some r) (h:Rch l p σ0 σ):Rch l p σ0 r:=zo5 e (zd1 h)
theorem zqD {k:Nat} {s:Int} {r:S} (e:treeUp l p k σ s=some r) (h:Rch l p σ0 σ):Rch l p σ0 r:=by
 obtain ⟨a,h1,e⟩:=Option.bind_eq_some_iff.1 e
 obtain ⟨b,h2,e⟩:=Option.bind_eq_some_iff.1 e
 exact zk8 e (zrX h2 (zpS (zk8 h1 (zd1 h))))
theorem zsQ {k:Nat} {s:Int} {r:S} (e:plain l k σ s=some r) (h:Rch l p σ0 σ):Rch l p σ0 r:=by
 obtain ⟨a,h1,e⟩:=Option.bind_eq_some_iff.1 e
 exact zvp e (zpS (ziG h1 (zd1 h)))
theorem zgG {k:Nat} {i v m:Int} {r:Int×S} (e:lfirst l k σ i v m=some r) (h:Rch l p σ0 σ):Rch l p σ0 r.2:=by
 obtain ⟨a,h1,e⟩:=Option.bind_eq_some_iff.1 e
 exact ztg e (zg6 h1 h)
theorem zlR {i v:Int} {m:Nat}:∀ {k:Nat} {σ:S} {x:Int} {r:S},zd3 l p i v k m σ x=some r→Rch l p σ0 σ→Rch l p σ0 r
 | 0,_,_,_,e,_=>by simp [zd3] at e
 | k+1,σ,x,r,e,h=>by
  rw [zd3] at e
  split at e
  ·obtain ⟨a,h1,e⟩:=Option.bind_eq_some_iff.1 e
   obtain ⟨b,h2,e⟩:=Option.bind_eq_some_iff.1 e
   exact zlR e (zgG h2 (zqD h1 h))
  ·cases e; exact h
theorem zst {k:Nat} {i v:Int} {r:S} (e:trees l p k σ i v=some r) (h:Rch l p σ0 σ):Rch l p σ0 r:=by
 obtain ⟨a,h1,e⟩:=Option.bind_eq_some_iff.1 e
 exact zlR e (zgG h1 h)
theorem znR {i v:Int} {m:Nat}:∀ {k:Nat} {σ:S} {x:Int} {r:(Int×Bool)×S},zfd l i v k m σ x=some r→Rch l p σ0 σ→Rch l p σ0 r.2
 | 0,_,_,_,e,_=>by simp [zfd] at e
 | k+1,σ,x,r,e,h=>by
  rw [zfd] at e
  split at e
  ·obtain ⟨a,h1,e⟩:=Option.bind_eq_some_iff.1 e
   have h0:=znS (p:=p) h1 (zd1 (h.ld _))
   split at e
   ·obtain ⟨b,h2,e⟩:=Option.bind_eq_some_iff.1 e
    obtain ⟨c,h3,e⟩:=Option.bind_eq_some_iff.1 e
    exact znR e (zgG h3 (zsQ h2 h0))
   ·cases e; exact h0
  ·cases e; exact h
theorem zuJ {k:Nat} {i v:Int} {r:(Int×Bool)×S} (e:seek l k σ i v=some r) (h:Rch l p σ0 σ):Rch l p σ0 r.2:=by
 obtain ⟨a,h1,e⟩:=Option.bind_eq_some_iff.1 e
 exact znR e (zgG h1 h)
theorem znL {k:Nat} {i u v:Int} {r:Int×S} (e:smaller l k σ i u v=some r) (h:Rch l p σ0 σ):Rch l p σ0 r.2:=by
 obtain ⟨a,h1,e⟩:=Option.bind_eq_some_iff.1 e
 obtain ⟨b,h2,e⟩:=Option.bind_eq_some_iff.1 e
 cases e
 have h0:=zpY (p:=p) h2 (zpY h1 h)
 exact h0
theorem zoT {k:Nat} {s u v:Int} {r:Bool×S} (e:zcL l p k σ s u v=some r) (h:Rch l p σ0 σ):Rch l p σ0 r.2:=by
 obtain ⟨a,h1,e⟩:=Option.bind_eq_some_iff.1 e
 dsimp only at e
 split at e
 ·obtain ⟨b,h2,e⟩:=Option.bind_eq_some_iff.1 e
  cases e; exact zvp h2 (zsc (znS h1 h))
 ·obtain ⟨b,h2,e⟩:=Option.bind_eq_some_iff.1 e
  cases e; exact zof h2 (zsc (znS h1 h))
theorem zjK {k:Nat} {i u v:Int} {r:(Int×Bool)×S} (e:Go.Tm.replace l p k σ i u v=some r) (h:Rch l p σ0 σ):Rch l p σ0 r.2:=by
 unfold Go.Tm.replace at e
 split at e
 ·cases e; exact h
 ·obtain ⟨a,h1,e⟩:=Option.bind_eq_some_iff.1 e
  obtain ⟨b,h2,e⟩:=Option.bind_eq_some_iff.1 e
  obtain ⟨c,h3,e⟩:=Option.bind_eq_some_iff.1 e
  have h0:=zuJ (p:=p) h3 (zst h2 (znL h1 h))
  split at e
  ·obtain ⟨d,h4,e⟩:=Option.bind_eq_some_iff.1 e
   obtain ⟨f,h5,e⟩:=Option.bind_eq_some_iff.1 e
   cases e; exact zof h5 (ziG h4 h0)
  ·cases e; exact h0
theorem zh6 {u v:Int} {m:Nat}:∀ {k:Nat} {σ:S} {i:Int} {b:Int×Bool} {r:(Int×Bool)×S},zb4 l p u v k m σ i b=some r→Rch l p σ0 σ→Rch l p σ0 r.2
 | 0,_,_,_,_,e,_=>by simp [zb4] at e
 | k+1,σ,i,b,r,e,h=>by
  rw [zb4] at e
  split at e
  ·obtain ⟨a,h1,e⟩:=Option.bind_eq_some_iff.1 e
   split at e
   ·cases e; exact zjK h1 h
   ·exact zh6 e (zjK h1 h)
  ·cases e; exact h
theorem zj5 {k:Nat} {s:Int} {r:(Bool×Int×Bool)×S} (e:zda l p k σ s=some r) (h:Rch l p σ0 σ):Rch l p σ0 r.2:=by
 unfold zda at e
 dsimp only at e
 split at e
 ·obtain ⟨a,h1,e⟩:=Option.bind_eq_some_iff.1 e
  obtain ⟨b,h2,e⟩:=Option.bind_eq_some_iff.1 e
  cases e; exact zh6 h2 (zkc (zu0 h1 (zd1 h)))
 ·obtain ⟨a,h1,e⟩:=Option.bind_eq_some_iff.1 e
  cases e; exact zkc (ziG h1 (zd1 h))
end
end Go.Tm
namespace Go.Tm
open MemLike Eng
set_option linter.unusedSectionVars false
set_option linter.unusedVariables false
theorem zaB {σ:M} {i v j:Int} (h:j≠i):get (st σ i v:M) j=get σ j:=by
 rw [zfF,zfF,zjo]
 by_cases hi:0≤i∧i<σ.size
 ·rw [if_pos hi,Array.size_setIfInBounds]
  by_cases h2:0≤j∧j<σ.size
  ·rw [if_pos h2,if_pos h2]
   have h1:j.toNat<σ.size:=by omega
   rw [getElem!_pos (σ.setIfInBounds i.toNat _) j.toNat (by simpa using h1),Array.getElem_setIfInBounds_ne _ (by omega),getElem!_pos σ j.toNat h1]
  ·rw [if_neg h2,if_neg h2]
 ·rw [if_neg hi]
theorem zrP {σ:M} {j v:Int} (h:j<0):(st σ j v:M)=σ:=by rw [zjo,if_neg (by omega)]
section
variable {l:Lay} (hl:l.Ok) {p:Pen} {σ0 σ:M}
def zma (l:Lay) (j:Int):Prop:=(0≤j∧j≤l.T)∨(∃ s:Int,(0≤s∧s<l.S)∧j=l.of s 0)∨∃ x f,l.nd x∧(f=0∨f=1∨f=5)∧j=l.field x f
include hl
theorem zdU {x f:Int} (hf:0≤f∧f<7):l.field x f=-1∨∃ y,l.nd y∧l.field x f=l.field y f∧l.node x=l.node y:=by
 have hn:=zaD hl
 obtain ⟨w,hw⟩:∃ w,IntKind.i64.wrap (x - 1)=w:=⟨_,rfl⟩
 by_cases h:below w l.nodes
 ·have hw2:IntKind.i64.wrap (w+1 - 1)=w:=by
   unfold below at h; rw [za1 (by omega)]; omega
  refine .inr ⟨w+1,⟨by unfold below at h; omega,by unfold below at h; omega⟩,?_,?_⟩
  ·unfold Lay.field; rw [hw,hw2]
  ·unfold Lay.node; rw [hw,hw2]
 ·refine .inl ?_
  unfold Lay.field
  rw [hw,if_neg fun c=>h c.1]
theorem zbL {j:Int} (h:lowc l j) {x f:Int} (hx:l.nd x) (hf:0≤f∧f<7):j≠l.field x f:=fun e=>by
 have hb:=zaS hl hx hf
 have ho:=zce hl
 rw [←e] at hb
 have hlow:j<l.base:=by
  rcases h with ⟨s,h⟩ | ⟨a,b,h⟩ | ⟨s,d,h⟩ | ⟨v,i,h⟩
  ·by_cases hs:0≤s∧s<l.S
   ·have:=zhl hl hs; omega
   ·unfold Lay.ends Lay.level Lay.of at h; rw [if_neg hs,if_neg hs] at h; omega
  ·subst h
   unfold Lay.edge at *
   dsimp only at *
   split at hb
   ·omega
   ·next hc =>
    have hc:¬(min a b=max a b)∧(0≤min a b∧min a b<l.V)∧(0≤max a b∧max a b<l.V):=by
     unfold below at hc
     refine ⟨fun h=>hc (.inl h),?_,?_⟩
     ·exact Classical.byContradiction fun h=>hc (.inr (.inl h))
     ·exact Classical.byContradiction fun h=>hc (.inr (.inr h))
    have:=zdo hl (a:=min a b) (b:=max a b) ⟨hc.2.1.1,by omega⟩ hc.2.2.2
    have:=(zf2 hl (a:=min a b) (b:=max a b) ⟨hc.2.1.1,by omega⟩ hc.2.2.2).1
    unfold tri at this
    omega
  ·by_cases hs:0≤s∧s<l.S
   ·by_cases hd:0≤d∧d<2
    ·have h1:=ziQ hl hs hd; have h2:=ziH hl hs hd
     have hh:l.heads=l.T+1+l.S * 7:=rfl
     rcases h with h | h<;>omega
    ·unfold Lay.next Lay.prev at h; rw [if_neg hd,if_neg hd] at h; omega
   ·unfold Lay.next Lay.prev Lay.of at h
    rw [if_neg hs,if_neg hs] at h
    rcases h with h | h<;>· split at h<;>omega
  ·by_cases hv:(0≤v∧v<l.V)∧(0≤i∧i<l.lev)
   ·have:=zdC hl hv.1 hv.2; omega
   ·unfold Lay.head at h; rw [if_neg (fun c=>hv c)] at h; omega
 omega
theorem zfQ {j:Int} (h:lowc l j) {q:Int} (hq:zma l q):q≠j:=fun e=>by
 subst e
 rcases hq with hq | ⟨s0,hs0,hq⟩ | ⟨x,f,hx,hf,hq⟩
 ·have ho:=zce hl
  have hh:l.heads=l.T+1+l.S * 7:=rfl
  rcases h with ⟨s,h⟩ | ⟨a,b,h⟩ | ⟨s,d,h⟩ | ⟨v,i,h⟩
  ·by_cases hs:0≤s∧s<l.S
   ·have h1:=zes hl hs; have h2:=zcw hl hs; omega
   ·unfold Lay.ends Lay.level Lay.of at h; rw [if_neg hs,if_neg hs] at h; omega
  ·unfold Lay.edge at h
   dsimp only at h
   split at h
   ·omega
   ·next hc =>
    have hc:¬(min a b=max a b)∧(0≤min a b∧min a b<l.V)∧(0≤max a b∧max a b<l.V):=by
     unfold below at hc
     refine ⟨fun h=>hc (.inl h),?_,?_⟩
     ·exact Classical.byContradiction fun h=>hc (.inr (.inl h))
     ·exact Classical.byContradiction fun h=>hc (.inr (.inr h))
    have:=zdo hl (a:=min a b) (b:=max a b) ⟨hc.2.1.1,by omega⟩ hc.2.2.2
    have:=(zf2 hl (a:=min a b) (b:=max a b) ⟨hc.2.1.1,by omega⟩ hc.2.2.2).1
    unfold tri at this
    have hle:l.heads≤l.edges:=ho.2.1
    omega
  ·by_cases hs:0≤s∧s<l.S
   ·by_cases hd:0≤d∧d<2
    ·have h1:=ziQ hl hs hd; have h2:=ziH hl hs hd
     rcases h with h | h<;>omega
    ·unfold Lay.next Lay.prev at h; rw [if_neg hd,if_neg hd] at h; omega
   ·unfold Lay.next Lay.prev Lay.of at h
    rw [if_neg hs,if_neg hs] at h
    rcases h with h | h<;>· split at h<;>omega
  ·by_cases hv:(0≤v∧v<l.V)∧(0≤i∧i<l.lev)
   ·have:=zdC hl hv.1 hv.2; omega
   ·unfold Lay.head at h; rw [if_neg (fun c=>hv c)] at h; omega
 ·have ho:=zce hl
  have hh:l.heads=l.T+1+l.S * 7:=rfl
  rw [zjQ hl hs0] at hq
  rcases h with ⟨s,h⟩ | ⟨a,b,h⟩ | ⟨s,d,h⟩ | ⟨v,i,h⟩
  ·by_cases hs:0≤s∧s<l.S
   ·have h1:=zes hl hs; have h2:=zcw hl hs; omega
   ·unfold Lay.ends Lay.level Lay.of at h; rw [if_neg hs,if_neg hs] at h; omega
  ·unfold Lay.edge at h
   dsimp only at h
   split at h
   ·omega
   ·next hc =>
    have hc:¬(min a b=max a b)∧(0≤min a b∧min a b<l.V)∧(0≤max a b∧max a b<l.V):=by
     unfold below at hc
     refine ⟨fun h=>hc (.inl h),?_,?_⟩
     ·exact Classical.byContradiction fun h=>hc (.inr (.inl h))
     ·exact Classical.byContradiction fun h=>hc (.inr (.inr h))
    have:=zdo hl (a:=min a b) (b:=max a b) ⟨hc.2.1.1,by omega⟩ hc.2.2.2
    have:=(zf2 hl (a:=min a b) (b:=max a b) ⟨hc.2.1.1,by omega⟩ hc.2.2.2).1
    unfold tri at this
    omega
  ·by_cases hs:0≤s∧s<l.S
   ·by_cases hd:0≤d∧d<2
    ·have h1:=ziQ hl hs hd; have h2:=ziH hl hs hd
     rcases h with h | h<;>omega
    ·unfold Lay.next Lay.prev at h; rw [if_neg hd,if_neg hd] at h; omega
   ·unfold Lay.next Lay.prev Lay.of at h
    rw [if_neg hs,if_neg hs] at h
    rcases h with h | h<;>· split at h<;>omega
  ·by_cases hv:(0≤v∧v<l.V)∧(0≤i∧i<l.lev)
   ·have:=zdC hl hv.1 hv.2; omega
   ·unfold Lay.head at h; rw [if_neg (fun c=>hv c)] at h; omega
 ·exact zbL hl h hx (by omega) hq
theorem Rch.other (h:Rch l p σ0 σ) {j:Int} (hj:zma l j):get σ j=get σ0 j:=by
 have ne:∀ {x f:Int},(f=2∨f=3∨f=4∨f=6)→j≠l.field x f:=fun {x f} hf e=>by
  rcases zdU hl (x:=x) (f:=f) (by omega) with h | ⟨y,hy,h,_⟩
  ·rcases hj with hj | ⟨s,hs,hj⟩ | ⟨z,g,hz,hg,hj⟩
   ·omega
   ·rw [zjQ hl hs] at hj; omega
   ·have:=zaS hl hz (f:=g) (by omega); omega
  ·rw [h] at e
   have hb:=zaS hl hy (f:=f) (by omega)
   have ho:=zce hl
   have hh:l.heads=l.T+1+l.S * 7:=rfl
   rcases hj with hj | ⟨s,hs,hj⟩ | ⟨z,g,hz,hg,hj⟩
   ·omega
   ·rw [zjQ hl hs] at hj; omega
   ·rw [hj,zan hl hz (by omega) hy (by omega)] at e; omega
 induction h with
 | refl=>rfl
 | ld i _ ih=>exact ih
 | nf _ hf ih=>rw [zaB (ne (by omega)),ih]
 | par _ _ ih=>rw [zaB (ne (by omega)),ih]
 | wr _ _ ih =>
  unfold Pen.write
  split
  ·split
   ·rw [zaB (ne (by omega))]; exact ih
   ·exact ih
  ·exact ih
 | low _ hj' ih=>rw [zaB (zfQ hl hj' hj),ih]
omit hl in
theorem Rch.size (h:Rch l p σ0 σ):σ.size=σ0.size:=by
 induction h with
 | refl=>rfl
 | ld i _ ih=>exact ih
 | nf _ _ ih=>rw [zaz,ih]
 | par _ _ ih=>rw [zaz,ih]
 | wr _ _ ih =>
  unfold Pen.write
  split
  ·split
   ·rw [zaz]; exact ih
   ·exact ih
  ·exact ih
 | low _ _ ih=>rw [zaz,ih]
def Snap (l:Lay) (p:Pen) (par0:Int→Int) (σ:M):Prop:=∀ x,l.nd x→zcz l x=true→(zaf (gf l σ x 2)).2=true ∧
 ((zaf (gf l σ x 2)).1.thread=0∧(zaf (gf l σ x 2)).1.new=par0 x∨(zaf (gf l σ x 2)).1.thread=p.thread∧(zaf (gf l σ x 2)).1.tag=p.tag∧(zaf (gf l σ x 2)).1.old=par0 x)
theorem Rch.snap (h:Rch l p σ0 σ) (hp:PenOk p) (hz:σ0.size=l.cells) {par0:Int→Int} (hS:Snap l p par0 σ0):Snap l p par0 σ:=by
 induction h with
 | refl=>exact hS
 | ld i _ ih=>exact ih
 | @nf σ x f v h hf ih =>
  intro y hy hs
  have:gf l (st σ (l.field x f) v) y 2=gf l σ y 2:=zaB fun e=>by
   rcases zdU hl (x:=x) (f:=f) (by omega) with h | ⟨z,hz,h,_⟩
   ·have:=zaS hl hy (f:=2) (by decide); omega
   ·rw [h,zan hl hy (by decide) hz (by omega)] at e; omega
  rw [this]; exact ih y hy hs
 | @par σ x v h hsx ih =>
  intro y hy hs
  have:gf l (st σ (l.field x 2) v) y 2=gf l σ y 2:=zaB fun e=>by
   rcases zdU hl (x:=x) (f:=2) (by omega) with h | ⟨z,hz,h,hn⟩
   ·have:=zaS hl hy (f:=2) (by decide); omega
   ·rw [h,zan hl hy (by decide) hz (by omega)] at e
    rw [e.1] at hs
    unfold zcz at hs hsx
    rw [hn,hs] at hsx; cases hsx
  rw [this]; exact ih y hy hs
 | @low σ j v h hj ih =>
  intro y hy hs
  have:gf l (st σ j v) y 2=gf l σ y 2:=zaB fun e=>zbL hl hj hy (by decide) e.symm
  rw [this]; exact ih y hy hs
 | @wr σ x q h hsx ih =>
  unfold Pen.write
  split
  ·next hu =>
   split
   ·next hr =>
    intro y hy hs
    rcases zdU hl (x:=x) (f:=2) (by omega) with h1 | ⟨z,hz',h1,hn⟩
    ·have:gf l (st (MemLike.ld σ (l.field x 2)) (l.field x 2) (p.to q (zaf (get σ (l.field x 2))).1).pack) y 2=gf l σ y 2:=by rw [h1,zrP (by omega)]; rfl
     rw [this]; exact ih y hy hs
    ·by_cases e:y=z
     ·subst e
      have hto:=zdz.1 hr
      have hg:gf l (st (MemLike.ld σ (l.field x 2)) (l.field x 2) (p.to q (zaf (get σ (l.field x 2))).1).pack) y 2=zfg (p.to q (zaf (gf l σ y 2)).1):=by
       rw [h1] at hto ⊢
       rw [zeh hto]
       show get (st σ (l.field y 2) _:M) (l.field y 2)=_
       rw [za4 hl (by rw [h.size]; exact hz) hy (by decide) (zc5 hto),if_pos rfl]
      rw [h1] at hto
      rw [hg,zbU hto]
      obtain ⟨i1,i2⟩:=ih y hy hs
      refine ⟨rfl,.inr ⟨rfl,rfl,?_⟩⟩
      show (if (zaf (gf l σ y 2)).1.thread≠p.thread∨(zaf (gf l σ y 2)).1.tag≠p.tag then (zaf (gf l σ y 2)).1.new else (zaf (gf l σ y 2)).1.old)=par0 y
      have:=hp.t
      rcases i2 with ⟨i2,i3⟩ | ⟨i2,i3,i4⟩
      ·rw [if_pos (.inl (by omega)),i3]
      ·rw [if_neg (by omega),i4]
     ·have:gf l (st (MemLike.ld σ (l.field x 2)) (l.field x 2) (p.to q (zaf (get σ (l.field x 2))).1).pack) y 2=gf l σ y 2:=zaB fun e2=>by
       rw [h1,zan hl hy (by decide) hz' (by decide)] at e2; exact e e2.1
      rw [this]; exact ih y hy hs
   ·exact ih
  ·exact ih
end
end Go.Tm
namespace Go.Tm
open MemLike Eng
set_option linter.unusedSectionVars false
set_option linter.unusedVariables false
theorem zgY {tag:Int} (h:0≤tag∧tag≤16777215) (dn:Bool):zbx tag dn=tag * 2+bit dn:=by
 have e:shlU (IntKind.u64.wrap tag) 1=tag * 2:=by
  rw [zdJ (by omega)]
  have:=zcP (a:=tag) 1 (by decide) h.1 (by omega)
  rw [show (1:Int)=((1:Nat):Int) from rfl,this]; omega
 unfold zbx
 rw [e]
 cases dn with
 | false=>simp [bit]
 | true =>
  have:=(zeY (a:=tag) (b:=1) 1 (by decide) h.1 (by omega) (by omega)).1
  rw [if_pos rfl,show tag * 2=tag * 2 ^ 1 by omega,this]; simp [bit]
theorem zkz {tag:Int} (h:0≤tag∧tag≤16777215) (dn:Bool):tagV (zbx tag dn)=(tag,dn,true):=by
 have hb:0≤bit dn∧bit dn≤1:=by cases dn<;>decide
 rw [zgY h]
 unfold tagV
 have e1:shrU (tag * 2+bit dn) 1=tag:=by
  rw [show (1:Int)=((1:Nat):Int) from rfl,zdN 1 (by decide)]; omega
 have e2:andU (tag * 2+bit dn) 1=bit dn:=by
  have:=zdq (a:=tag * 2+bit dn) 1 (by decide) ⟨by omega,by omega⟩
  rw [show (1:Int)=2 ^ 1 - 1 by decide,this]; omega
 rw [e1,e2,if_neg (by omega),za1 (by omega)]
 cases dn<;>rfl
theorem zfL {tag:Int} (h:0≤tag∧tag≤16777215) (dn:Bool):0≤zbx tag dn∧zbx tag dn<18446744073709551616:=by
 have hb:0≤bit dn∧bit dn≤1:=by cases dn<;>decide
 rw [zgY h]; omega
section
variable {l:Lay} (hl:l.Ok) {p:Pen} {σ σ':M}
def V0 (l:Lay) (x:Int):Prop:=l.nd x∧zcz l x=true
include hl
theorem zcu {t:Int} (ht:1≤t∧t≤l.T):l.state t=t - 1:=by
 have hb:(l.T:Int)≤8:=by have:=hl.2.2.2.2; omega
 unfold Lay.state
 rw [za1 (by omega),if_pos ⟨by omega,by omega⟩]
theorem zh3 {par0:Int→Int} (hS:Snap l p par0 σ) (hp:PenOk p) (hpt:p.thread≤l.T) {dn:Bool} (hst:get σ (l.state p.thread)=zbx p.tag dn) {x:Int} (hx:V0 l x) :
  zaX l σ (l.field x 2)=if dn then parent l σ x else par0 x:=by
 obtain ⟨h1,h2⟩:=hS x hx.1 hx.2
 have e1:parent l σ x=(zaf (gf l σ x 2)).1.new:=by unfold parent pnew; rw [if_pos hx.2]
 unfold zaX
 dsimp only
 have ht:=hp.t
 rcases h2 with ⟨h2,h3⟩ | ⟨h2,h3,h4⟩
 ·rw [if_pos (.inr h2)]
  cases dn with
  | false=>exact h3
  | true=>exact e1.symm
 ·rw [if_neg (by rw [h1,h2]; simp; omega)]
  unfold zd4
  rw [h2,hst,zkz hp.g,if_pos rfl]
  unfold zmg
  dsimp only
  rw [h2,h3]
  cases dn with
  | false=>rw [if_neg (by simp; omega)]; exact h4
  | true=>rw [if_pos (.inr (.inr ⟨rfl,rfl⟩))]; exact e1.symm
inductive Up (par:Int→Int) (P:Int→Prop):Nat→Int→Int→Prop
 | top {x:Int} (hx:P x) (h0:par x=0):Up par P 1 x x
 | step {h:Nat} {x r:Int} (hx:P x) (h0:par x≠0) (hr:Up par P h (par x) r):Up par P (h+1) x r
omit hl
theorem Up.mono {par:Int→Int} {P Q:Int→Prop} {h:Nat} {x r:Int} (u:Up par P h x r) (hPQ:∀ y,P y→Q y):Up par Q h x r:=by
 induction u with
 | top hx h0=>exact .top (hPQ _ hx) h0
 | step hx h0 _ ih=>exact .step (hPQ _ hx) h0 ih
theorem Up.congr {par par':Int→Int} {P:Int→Prop} {h:Nat} {x r:Int} (u:Up par P h x r) (he:∀ y,P y→par' y=par y):Up par' P h x r:=by
 induction u with
 | top hx h0=>exact .top hx (by rw [he _ hx]; exact h0)
 | step hx h0 _ ih=>exact .step hx (by rw [he _ hx]; exact h0) (by rw [he _ hx]; exact ih)
theorem Up.first {par:Int→Int} {P:Int→Prop} {h:Nat} {x r:Int} (u:Up par P h x r):P x:=by
 cases u with
 | top hx _=>exact hx
 | step hx _ _=>exact hx
theorem Up.last {par:Int→Int} {P:Int→Prop} {h:Nat} {x r:Int} (u:Up par P h x r):P r∧par r=0:=by
 induction u with
 | top hx h0=>exact ⟨hx,h0⟩
 | step _ _ _ ih=>exact ih
theorem Up.pos {par:Int→Int} {P:Int→Prop} {h:Nat} {x r:Int} (u:Up par P h x r):1≤h:=by
 cases u<;>omega
theorem Up.uniq {par:Int→Int} {P:Int→Prop} {h h':Nat} {x r r':Int} (u:Up par P h x r) (u':Up par P h' x r'):h=h'∧r=r':=by
 induction u generalizing h' r' with
 | top hx h0 =>
  cases u' with
  | top=>exact ⟨rfl,rfl⟩
  | step _ h1 _=>exact absurd h0 h1
 | step hx h0 _ ih =>
  cases u' with
  | top _ h1=>exact absurd h1 h0
  | step _ _ h2=>have:=ih h2; exact ⟨by omega,this.2⟩
include hl
theorem zuI {mk:Int→Int} {s t:T} {o:Nat} (h:Sub s t o) (h0:s.root≠0) (hr:repU l mk σ t):t.root≠0∧∃ d,d+s.size≤t.size∧∀ (k:Nat) (r:Int) (P:Int→Prop),(∀ y∈t.list,P y)→Up (parent l σ) P k t.root r→Up (parent l σ) P (k+d) s.root r:=by
 induction h with
 | refl=>exact ⟨h0,0,by omega,fun _ _ _ _ u=>u⟩
 | @left a b x o h ih =>
  obtain ⟨h1,h2,h3,h4,h5,h6,h7,h8,h9⟩:=hr
  obtain ⟨ha0,d,hd,hk⟩:=ih h6
  have hx0:x≠0:=by unfold Lay.nd at h1; omega
  refine ⟨hx0,d+1,by rw [T.size_node]; omega,fun k r P hP u=>?_⟩
  have:k+(d+1)=k+1+d:=by omega
  rw [this]
  refine hk _ r P (fun y hy=>hP y (by simp [T.list,hy])) (.step (hP _ (by simp [T.list,h6.root_mem ha0])) ?_ ?_)
  ·rw [h8 ha0]; exact hx0
  ·rw [h8 ha0]; exact u
 | @right a b x o h ih =>
  obtain ⟨h1,h2,h3,h4,h5,h6,h7,h8,h9⟩:=hr
  obtain ⟨ha0,d,hd,hk⟩:=ih h7
  have hx0:x≠0:=by unfold Lay.nd at h1; omega
  refine ⟨hx0,d+1,by rw [T.size_node]; omega,fun k r P hP u=>?_⟩
  have:k+(d+1)=k+1+d:=by omega
  rw [this]
  refine hk _ r P (fun y hy=>hP y (by simp [T.list,hy])) (.step (hP _ (by simp [T.list,h7.root_mem ha0])) ?_ ?_)
  ·rw [h9 ha0]; exact hx0
  ·rw [h9 ha0]; exact u
theorem Forest.up {pr mk:Int→Int} {F:Int→T} (hF:Forest l pr mk σ F) {x:Int} (hx:l.nd x):∃ h:Nat,(h:Int)≤l.nodes∧Up (parent l σ) (·∈(F x).list) h x (F x).root:=by
 obtain ⟨c,d,o,hs,_⟩:=zhk (hF.mem x hx)
 have hr:=hF.rep x hx
 have hx0:x≠0:=by unfold Lay.nd at hx; omega
 obtain ⟨h0,n,hn,hu⟩:=zuI hl hs hx0 hr
 have hsz:=T.size_node (a:=c) (b:=d) (x:=x)
 have hlen:((F x).size:Int)≤l.nodes:=by
  have hb:=zaD hl
  have:=zc6 l.nodes.toNat (F x).list (hF.nodup x hx) fun y hy=>by have:=hr.nd y hy; unfold Lay.nd at this; omega
  unfold T.size; omega
 exact ⟨1+n,by omega,hu 1 _ _ (fun y hy=>hy) (.top (hr.root_mem h0) (hF.top x hx))⟩
structure SeenF (l:Lay) (σ:M) (par rt:Int→Int):Prop where
 word:∀ x f,V0 l x→(f=1∨f=2)→(zaf (gf l σ x f)).2=true∧((zaf (gf l σ x f)).1.thread=0∨1≤(zaf (gf l σ x f)).1.thread∧(zaf (gf l σ x f)).1.thread≤l.T)
 mn:∀ x,V0 l x→zaX l σ (l.field x 2)=par x
 up:∀ x,V0 l x→∃ h:Nat,(h:Int)≤l.nodes∧Up par (V0 l) h x (rt x)
theorem zaw.rows {pr:Int→Int} {g:G} (hR:zaw l pr σ g):∃ F:Int→T,(∀ x,l.nd x→x∈(F x).list∧∀ y∈(F x).list,l.nd y∧F y=F x)∧(∀ x,V0 l x→(∀ y∈(F x).list,V0 l y)∧∃ h:Nat,(h:Int)≤l.nodes∧Up (parent l σ) (V0 l) h x (F x).root) ∧
  (∀ u v:Int,0≤u∧u<l.V→0≤v∧v<l.V→((F (l.vertex 0 u)).root=(F (l.vertex 0 v)).root↔Jn g 0 u v))∧∀ x,V0 l x→((F x).root=x↔parent l σ x=0):=by
 obtain ⟨F,mk,L,hI⟩:=hR
 have hF:=hI.lm.forest
 have lb:=zcF hl
 have hT:=hI.tours 0 (by omega)
 have hv:∀ x,V0 l x→∀ y∈(F x).list,V0 l y:=fun x hx y hy=>⟨(hF.rep x hx.1).nd y hy,decide_eq_true (hT.lev x hx.1 (of_decide_eq_true hx.2) y hy)⟩
 have hup:∀ x,V0 l x→∃ h:Nat,(h:Int)≤l.nodes∧Up (parent l σ) (V0 l) h x (F x).root:=fun x hx=>by
  obtain ⟨h,h1,h2⟩:=hF.up hl hx.1
  exact ⟨h,h1,h2.mono (hv x hx)⟩
 refine ⟨F,fun x hx=>⟨hF.mem x hx,fun y hy=>⟨(hF.rep x hx).nd y hy,hF.cls x hx y hy⟩⟩,fun x hx=>⟨hv x hx,hup x hx⟩,fun u v hu hv=>?_,fun x hx=>⟨fun h=>?_,fun h=>?_⟩⟩
 ·have ou:l.okV 0 u:=⟨by omega,hu⟩
  have ov:l.okV 0 v:=⟨by omega,hv⟩
  rw [hF.roots hl (zad hl ou).1 (zad hl ov).1]
  exact hT.row_iff hl (by omega) ou ov
 ·obtain ⟨_,_,u⟩:=hup x hx
  have:=u.last.2; rw [h] at this; exact this
 ·obtain ⟨_,_,u⟩:=hup x hx
  exact (u.uniq (.top hx h)).2
end
end Go.Tm
namespace Go.Tm
open MemLike Eng
set_option linter.unusedSectionVars false
set_option linter.unusedVariables false
def runN (l:Lay) (σ:M):Nat→ClimbS→ClimbS
 | 0,c=>c
 | n+1,c=>runN l σ n (c.stp l σ)
structure CInv (l:Lay) (σ:M) (c:ClimbS):Prop where
 nd:c.done=false
 v0:V0 l c.node
 cell:c.look.cell=l.field c.node (if c.top then 1 else 2)
 ld:c.look.done=false
 half:c.look.half=true→(1≤c.look.word.thread∧c.look.word.thread≤l.T)∧zd4 c.look.word (get σ (l.state c.look.word.thread))=zaX l σ c.look.cell
structure Ends (l:Lay) (σ:M) (c:ClimbS) (N:Nat) (r v:Int):Prop where
 go:∀ k,k<N→(runN l σ k c).done=false
 dn:(runN l σ N c).done=true
 root:(runN l σ N c).node=r
 ver:(runN l σ N c).version=v
 stp:∀ k,k≤N→(runN l σ k c).step=c.step+k
section
variable {l:Lay} (hl:l.Ok) {σ:M} {par rt:Int→Int} {c:ClimbS}
theorem Ends.cons {N:Nat} {r v:Int} (hd:c.done=false) (hs:(c.stp l σ).step=c.step+1) (h:Ends l σ (c.stp l σ) N r v):Ends l σ c (N+1) r v:=by
 refine ⟨fun k hk=>?_,h.dn,h.root,h.ver,fun k hk=>?_⟩
 ·cases k with
  | zero=>exact hd
  | succ k=>exact h.go k (by omega)
 ·cases k with
  | zero=>simp [runN]
  | succ k=>rw [show runN l σ (k+1) c=runN l σ k (c.stp l σ) from rfl,h.stp k (by omega),hs]; omega
theorem Ends.zero (hd:c.done=true):Ends l σ c 0 c.node c.version:=⟨fun k hk=>absurd hk (Nat.not_lt_zero k),hd,rfl,rfl,fun k hk=>by
 have:k=0:=by omega
 subst this; simp [runN]⟩
include hl
theorem zfw (hS:SeenF l σ par rt) (h:CInv l σ c) (hv:c.top=true→V0 l c.node) :
  ((c.look.step l σ).done=true∧(c.look.step l σ).value=zaX l σ c.look.cell) ∨
  (c.look.half=false∧(c.look.step l σ).done=false∧(c.look.step l σ).cell=c.look.cell∧(c.look.step l σ).half=true∧(c.look.step l σ).word=(zaf (get σ c.look.cell)).1∧(1≤(c.look.step l σ).word.thread∧(c.look.step l σ).word.thread≤l.T)∧zd4 (c.look.step l σ).word (get σ (l.state (c.look.step l σ).word.thread))=zaX l σ c.look.cell):=by
 have hw:=hS.word c.node (if c.top then 1 else 2) h.v0 (by cases c.top<;>simp)
 have hw:(zaf (get σ c.look.cell)).2=true∧((zaf (get σ c.look.cell)).1.thread=0∨1≤(zaf (get σ c.look.cell)).1.thread∧(zaf (get σ c.look.cell)).1.thread≤l.T):=by
  rw [h.cell]; exact hw
 unfold LookS.step
 rw [if_neg (by rw [h.ld]; decide)]
 by_cases hh:c.look.half=true
 ·obtain ⟨h1,h2⟩:=h.half hh
  refine .inl ?_
  unfold LookS.got LookS.at
  rw [if_pos hh,if_pos hh]
  exact ⟨rfl,h2⟩
 ·have hf:c.look.half=false:=by simpa using hh
  unfold LookS.got LookS.at
  rw [if_neg hh,if_neg hh]
  by_cases h0:(zaf (get σ c.look.cell)).1.thread=0
  ·rw [if_pos (.inr h0)]
   refine .inl ⟨rfl,?_⟩
   unfold zaX
   dsimp only
   rw [if_pos (.inr h0)]
  ·rw [if_neg (by rw [hw.1]; simp; exact h0)]
   refine .inr ⟨hf,h.ld,rfl,rfl,rfl,?_,?_⟩
   ·show 1≤(zaf (get σ c.look.cell)).1.thread∧_
    have:=hw.2; exact ⟨by omega,by show (zaf (get σ c.look.cell)).1.thread≤_; omega⟩
   ·show zd4 (zaf (get σ c.look.cell)).1 _=_
    unfold zaX
    dsimp only
    rw [if_neg (by rw [hw.1]; simp; exact h0)]
theorem zgu (h:CInv l σ c) (hb:0≤c.step∧c.step≤1000000000) (hd:(c.look.step l σ).done=false):c.stp l σ={ c with step:=c.step+1,look:=c.look.step l σ }:=by
 unfold ClimbS.stp ClimbS.next
 rw [if_neg (by rw [h.nd]; decide),if_pos (by exact hd),za1 (by omega)]
theorem zgv (h:CInv l σ c) (hb:0≤c.step∧c.step≤1000000000) (hd:(c.look.step l σ).done=true):c.stp l σ=(let x:=(c.look.step l σ).value
  if c.top then { c with step:=c.step+1,look:=c.look.step l σ,version:=x,done:=true }
  else if 0<x∧x≤l.nodes then { c with step:=c.step+1,node:=x,look:=zk5 (l.field x 2) }
  else { c with step:=c.step+1,look:=zk5 (l.field c.node 1),top:=true }):=by
 unfold ClimbS.stp ClimbS.next
 rw [if_neg (by rw [h.nd]; decide),if_neg (by show ¬(c.look.step l σ).done=false; rw [hd]; decide),za1 (by omega)]
theorem V0.nd0 {x:Int} (h:V0 l x):1≤x∧x≤l.nodes:=h.1
theorem zbv {v:Int} (hv:0≤v∧v<l.V):CInv l σ (zbd l v)∧V0 l (l.vertex 0 v):=by
 have lb:=zcF hl
 have ov:l.okV 0 v:=⟨by omega,hv⟩
 have hs:=zad hl ov
 have hV:V0 l (l.vertex 0 v):=⟨hs.1,by unfold zcz; rw [hs.2.1]; rfl⟩
 exact ⟨⟨rfl,hV,rfl,rfl,fun h=>(by cases h)⟩,hV⟩
end
end Go.Tm
