/- Functions of the program, and what they come to. -/
import Derived.Test.YtolmneojjjpnjaaGreatSpoiltF0
namespace Go.Tf
noncomputable section
open Go.Proofs Go.Proofs.Tryz IntKind
set_option synthInstance.maxHeartbeats 400000
set_option synthInstance.maxSize 10000
set_option linter.unusedVariables false
set_option linter.unusedSimpArgs false
set_option maxRecDepth 100000
def yKC:Code:=(f144.body).getD .skip
def yK0:Env:=zkw TT [(195,yx5)] []
theorem yEb:FrOk prog ⟨yK0,25,fun _=>none⟩ yKC:=zkA mixed yc ⟨yNp,trivial⟩
abbrev yp0:List Par:= [.rd tS]
abbrev yqh:List OT:= [⟨false,tL,(.ow .fz)⟩]
def ywv (a0:dS):Option (zaY yqh×zak yp0) :=let r1:=yat a0;bif(!r1)then some ((([]:List Int),()),()) else some ((([21317,a0.1,a0.2.1,a0.2.2.1,a0.2.2.2.1,a0.2.2.2.2.1,a0.2.2.2.2.2.1,(i64.wrap (a0.2.2.2.2.2.2.1+1)),a0.2.2.2.2.2.2.2]:List Int),()),())
theorem yG0:ConOk prog 144 ⟨yp0,yqh,fun x=>ywv x.1⟩:=zkI (yEb) func144 ntmps144.symm fun x=>by kernel_rfl
def yx (a0:dS):(List Int) :=let r1:=yat a0;bif(!r1)then ([]:List Int) else ([21317,a0.1,a0.2.1,a0.2.2.1,a0.2.2.2.1,a0.2.2.2.2.1,a0.2.2.2.2.2.1,(i64.wrap (a0.2.2.2.2.2.2.1+1)),a0.2.2.2.2.2.2.2]:List Int)
def ymH:Con:=⟨yp0,yqh,fun x=>(fun n=>some ((n,()),())) (yx x.1)⟩
theorem yJx (a0:dS):ywv a0=(fun n=>some ((n,()),())) (yx a0):=zkV (p:=fun(n:(List Int))=>((n,()),())) (zkG (p:=fun(n:(List Int))=>((n,()),())) rfl rfl)
theorem yyS:ConOk prog 144 ymH:=(yG0).mono (fun x r _ h=>(yJx x.1).trans h)
abbrev yb (a:dA):Bool:=a.2.2.2.2.2.2.2.2.2.2.1
def ySc (a:dA) (f:Int) (d:Bool):dA:=(a.1,a.2.1,a.2.2.1,a.2.2.2.1,a.2.2.2.2.1,a.2.2.2.2.2.1,a.2.2.2.2.2.2.1,a.2.2.2.2.2.2.2.1,a.2.2.2.2.2.2.2.2.1,f,d,a.2.2.2.2.2.2.2.2.2.2.2)
def opA (a:dA):Bool×dA:=bif yb a then(false,a)else bif a.2.2.2.2.2.2.2.2.2.1==0 then(false,ySc a (-1) true)else bif ltb 0 a.2.2.2.2.2.2.2.2.2.1 then(true,ySc a (i64.wrap (a.2.2.2.2.2.2.2.2.2.1-1)) (yb a))else(true,a)
def ycX (a:dA) (m:Int) (x:dM):dA:=(a.1,a.2.1,a.2.2.1.set m.toNat x,a.2.2.2)
def yce (a:dA) (m n:Int) (s:List Int):dA:=bif(nth a.2.2.1 m yf).2.2.1 then a else bif(opA a).1 then ycX (opA a).2 m (yX (nth a.2.2.1 m yf) n s).1 else(opA a).2
def yI (a:dA) (i:Nat):dA:=bif(nth a.2.2.1 i yf).2.2.1 then a else bif(opA a).1 then ycX (opA a).2 i (yr (nth a.2.2.1 i yf))else(opA a).2
def yq (a:dA):dA:=(List.range a.2.2.1.length).foldl yI a
def yFp (a:dA) (i:Int):dS:=(a.1,a.2.2.2.2.2.2.2.1,i,a.2.1.1,a.2.1.2,a.2.2.2.2.2.2.1,a.2.2.2.1,a.2.2.2.2.1)
def yY (a:dA) (i:Nat):dA:=yce a i (a.2.2.2.2.2.2.2.1.tmod 2) (yx (yFp a i))
def yaj (a:dA):dA:=(a.1,a.2.1,a.2.2.1,a.2.2.2.1,a.2.2.2.2.1,a.2.2.2.2.2.1,a.2.2.2.2.2.2.1,i64.wrap (a.2.2.2.2.2.2.2.1+1),a.2.2.2.2.2.2.2.2)
def yab (a:dA):dA:=yq ((List.range a.2.2.1.length).foldl yY (yaj a))
theorem yau (a:dA):(opA a).2.2.2.1=a.2.2.1:=by
 unfold opA;cases yb a
 ·cases(a.2.2.2.2.2.2.2.2.2.1==0)
  ·cases ltb 0 a.2.2.2.2.2.2.2.2.2.1<;>rfl
  ·rfl
 ·rfl
theorem yPZ {a:dA} (h:yb a=false):yb (opA a).2= !(opA a).1:=by
 unfold opA;rw[h];cases(a.2.2.2.2.2.2.2.2.2.1==0)
 ·cases ltb 0 a.2.2.2.2.2.2.2.2.2.1
  ·exact h
  ·rfl
 ·rfl
theorem yTK {a:dA} (h:yb a=true):opA a=(false,a):=by unfold opA; rw[h]; rfl
theorem yph (a:dA) (m n:Int) (s:List Int):(yce a m n s).2.2.1.length=a.2.2.1.length:=by
 unfold yce;cases(nth a.2.2.1 m yf).2.2.1
 ·cases(opA a).1
  ·show(opA a).2.2.2.1.length=_; rw[yau]
  ·show((opA a).2.2.2.1.set m.toNat _).length=_; rw[List.length_set,yau]
 ·rfl
theorem yjK (a:dA) (i:Nat):(yI a i).2.2.1.length=a.2.2.1.length:=by
 unfold yI;cases(nth a.2.2.1 i yf).2.2.1
 ·cases(opA a).1
  ·show(opA a).2.2.2.1.length=_; rw[yau]
  ·show((opA a).2.2.2.1.set _ _).length=_; rw[List.length_set,yau]
 ·rfl
theorem yop {one:dA→Nat→dA} (h: ∀a i,(one a i).2.2.1.length=a.2.2.1.length): ∀(l:List Nat) (a:dA),(l.foldl one a).2.2.1.length=a.2.2.1.length
 | [],_=>rfl
 | x::l,a=>by rw[List.foldl_cons,yop h l,h]
theorem yzn (a:dA):(yq a).2.2.1.length=a.2.2.1.length:=yop yjK _ _
theorem ysP {a:dA} (h:yb a=true) (m n:Int) (s:List Int):yce a m n s=a:=by
 unfold yce;rw[yTK h];cases(nth a.2.2.1 m yf).2.2.1<;>rfl
theorem yzl {a:dA} (i:Nat) (h:yb a=true):yI a i=a:=by
 unfold yI;rw[yTK h];cases(nth a.2.2.1 i yf).2.2.1<;>rfl
theorem ytI {one:dA→Nat→dA} (hs: ∀a i,yb a=true→one a i=a): ∀(l:List Nat) (a:dA),yb a=true→l.foldl one a=a
 | [],_,_=>rfl
 | x::l,a,h=>by rw[List.foldl_cons,hs a x h]; exact ytI hs l a h
theorem yAP {a:dA} (h:yb a=true):yq a=a:=ytI (fun _ i h=>yzl i h) _ a h
theorem yS1 {a:dA} (h:yb a=false) (m n:Int) (s:List Int):yb (yce a m n s)=(!(nth a.2.2.1 m yf).2.2.1&& !(opA a).1):=by
 have:=yPZ h;unfold yce;cases(nth a.2.2.1 m yf).2.2.1
 ·cases ho:(opA a).1
  ·rw[ho]at this; exact this
  ·rw[ho]at this; exact this
 ·exact h
theorem yE6 {a:dA} (h:yb a=false) (i:Nat):yb (yI a i)=(!(nth a.2.2.1 i yf).2.2.1&& !(opA a).1):=by
 have:=yPZ h;unfold yI;cases(nth a.2.2.1 i yf).2.2.1
 ·cases ho:(opA a).1
  ·rw[ho]at this; exact this
  ·rw[ho]at this; exact this
 ·exact h
theorem yyF {one:dA→Nat→dA} (hs: ∀a i,yb a=true→one a i=a): ∀(k i:Nat) (s:dA),goE (fun i s=>bif yb (one s i)then(.inr (one s i):dA ⊕ dA)else .inl (one s i)) id k i s=(List.range' i k).foldl one s
 | 0,_,_=>rfl
 | k+1,i,s=>by
  rw[List.range'_succ,List.foldl_cons,goE];cases hd:yb (one s i)
  ·exact yyF hs k (i+1) (one s i)
  ·exact(ytI hs _ _ hd).symm
def ydC (a:dA) (m:Int):dA:=(a.1,a.2.1,a.2.2.1.set m.toNat (yjI (nth a.2.2.1 m yf)),m,0,a.2.2.2.2.2)
def yLo (a:dA) (m:Int):dA:=(a.1,a.2.1,a.2.2.1.set m.toNat (yjI (nth a.2.2.1 m yf)),a.2.2.2.1,a.2.2.2.2.1,a.2.2.2.2.2.1,a.2.2.2.2.2.2.1,a.2.2.2.2.2.2.2.1,a.2.2.2.2.2.2.2.2.1,a.2.2.2.2.2.2.2.2.2.1,a.2.2.2.2.2.2.2.2.2.2.1,true)
def yma (a:dA) (m:Int):dA:=bif a.2.2.2.1== -1||a.2.2.2.1==m then(bif !(yb a)&&(!a.2.2.2.2.2.2.2.2.2.2.2&&ltb a.2.2.2.2.2.2.2.1 60000)then yab (ydC a m)else ydC a m)else yLo a m
theorem yU7 (a:dA):(yab a).2.2.1.length=a.2.2.1.length:=(yzn _).trans (yop (one:=yY) (fun _ _=>yph _ _ _ _) _ (yaj a))
theorem yCE (a:dA):(opA a).2.2.2.2.2.2.2.2.2.1=a.2.2.2.2.2.2.2.2.1:=by
 unfold opA;cases yb a
 ·cases(a.2.2.2.2.2.2.2.2.2.1==0)
  ·cases ltb 0 a.2.2.2.2.2.2.2.2.2.1<;>rfl
  ·rfl
 ·rfl
theorem yUz (a:dA) (m n:Int) (s:List Int):(yce a m n s).2.2.2.2.2.2.2.2.1=a.2.2.2.2.2.2.2.2.1:=by
 unfold yce;cases(nth a.2.2.1 m yf).2.2.1
 ·cases(opA a).1
  ·exact yCE a
  ·exact yCE a
 ·rfl
theorem ySa (a:dA) (i:Nat):(yI a i).2.2.2.2.2.2.2.2.1=a.2.2.2.2.2.2.2.2.1:=by
 unfold yI;cases(nth a.2.2.1 i yf).2.2.1
 ·cases(opA a).1
  ·exact yCE a
  ·exact yCE a
 ·rfl
theorem yCh {one:dA→Nat→dA} (h: ∀a i,(one a i).2.2.2.2.2.2.2.2.1=a.2.2.2.2.2.2.2.2.1): ∀(l:List Nat) (a:dA),(l.foldl one a).2.2.2.2.2.2.2.2.1=a.2.2.2.2.2.2.2.2.1
 | [],_=>rfl
 | x::l,a=>by rw[List.foldl_cons,yCh h l,h]
theorem yCI (a:dA):(yq a).2.2.2.2.2.2.2.2.1=a.2.2.2.2.2.2.2.2.1:=yCh ySa _ _
theorem yT5 (a:dA):(yab a).2.2.2.2.2.2.2.2.1=a.2.2.2.2.2.2.2.2.1:=(yCI _).trans (yCh (one:=yY) (fun _ _=>yUz _ _ _ _) _ (yaj a))
theorem yUQ {a:dA} (h:ya2 a=true):a.2.2.1.length≤5:=by
 have h1:=yl.1 (ydZ h);have h2:=yth h;omega
def ybS (n:Int):dM:=bif leb 1 n&&leb n 20 then(List.replicate n.toNat [],[],false,[])else yf
theorem yQp {n:Int} (h1:1≤n) (h2:n≤20):yu (ybS n)=true:=by
 unfold ybS;rw[zk2 h1,zk2 h2];refine ysJ ?_ rfl rfl ?_ ?_ (Nat.zero_le _)
 ·show(List.replicate n.toNat ([]:List Int)).all yad=true
  rw[List.all_eq_true];intro x hx;rw[(List.mem_replicate.1 hx).2]; rfl
 ·show 1≤(List.replicate n.toNat ([]:List Int)).length; rw[List.length_replicate]; omega
 ·show(List.replicate n.toNat ([]:List Int)).length≤20; rw[List.length_replicate]; omega
def ybz (a:dA):dA:=(a.1,a.2.1,a.2.2.1.set a.2.2.2.1.toNat (ybS (6+a.2.1.2)),a.2.2.2.1,0,a.2.2.2.2.2)
def yaV (a:dA):dA:=(a.1,a.2.1,a.2.2.1,a.2.2.2.1,a.2.2.2.2.1,a.2.2.2.2.2.1,a.2.2.2.2.2.1,a.2.2.2.2.2.2.2)
def yR (a:dA):dA:=bif yb (yq a)then yq a else yab (yaV (yq a))
theorem yQb (a:dA):(yR a).2.2.1.length=a.2.2.1.length:=by
 unfold yR;cases yb (yq a)
 ·exact(yU7 (yaV (yq a))).trans (yzn a)
 ·exact yzn a
theorem yTk (a:dA):(yR a).2.2.2.2.2.2.2.2.1=a.2.2.2.2.2.2.2.2.1:=by
 unfold yR;cases yb (yq a)
 ·exact(yT5 (yaV (yq a))).trans (yCI a)
 ·exact yCI a
def ySV (id:Int) (g:dG) (i:Int):dS:=(id,0,i,g.1,g.2,0,-1,0)
def ypg (m:dM) (s:Nat):dM:=(m.1.set (s+6) [0],m.2)
def yit (id:Int) (g:dG) (i:Int):dM:=((ybS (6+g.2)).1.set 0 (yx (ySV id g i)),(ybS (6+g.2)).2)
def yC (id:Int) (g:dG) (i:Int):dM:=(List.range g.2.toNat).foldl ypg (yit id g i)
def yxF (a:dA) (m:dM):dA:=(a.1,a.2.1,a.2.2.1++ [m],a.2.2.2)
def yxI (id:Int) (g:dG):dA:=(id,g,[],-1,0,0,0,0,[],-1,false,false)
def yjo (id:Int) (g:dG):dA:=bif yd g&&(leb 1 id&&leb id 60000)then(List.range g.1.toNat).foldl (fun a (i:Nat)=>yxF a (yC id g i)) (yxI id g)else yhK
theorem yHr (l:List Nat) (m:dM):(l.foldl ypg m).1.length=m.1.length:=by
 induction l generalizing m with
 | nil=>rfl
 | cons x t ih=>rw[List.foldl_cons,ih]; show(m.1.set _ _).length=_; rw[List.length_set]
def yo (a:dA):Int×(Int×Int)×Int×Int×Int×Int×Int×List dW×Bool:=(a.1,a.2.1,a.2.2.2.1,a.2.2.2.2.1,a.2.2.2.2.2.1,a.2.2.2.2.2.2.1,a.2.2.2.2.2.2.2.1,a.2.2.2.2.2.2.2.2.1,a.2.2.2.2.2.2.2.2.2.2.2)
theorem yBW (a:dA):yo (opA a).2=yo a:=by
 unfold opA;cases yb a
 ·cases(a.2.2.2.2.2.2.2.2.2.1==0)
  ·cases ltb 0 a.2.2.2.2.2.2.2.2.2.1<;>rfl
  ·rfl
 ·rfl
theorem yoG (a:dA) (m n:Int) (s:List Int):yo (yce a m n s)=yo a:=by
 unfold yce;cases(nth a.2.2.1 m yf).2.2.1
 ·cases(opA a).1
  ·exact yBW a
  ·exact yBW a
 ·rfl
theorem yE5 (a:dA) (i:Nat):yo (yI a i)=yo a:=by
 unfold yI;cases(nth a.2.2.1 i yf).2.2.1
 ·cases(opA a).1
  ·exact yBW a
  ·exact yBW a
 ·rfl
theorem ytH {one:dA→Nat→dA} (h: ∀a i,yo (one a i)=yo a): ∀(l:List Nat) (a:dA),yo (l.foldl one a)=yo a
 | [],_=>rfl
 | x::l,a=>by rw[List.foldl_cons,ytH h l,h]
theorem ycA (a:dA):yo (yq a)=yo a:=ytH yE5 _ _
theorem yle (a:dA):yo (yab a)=yo (yaj a):=(ycA _).trans (ytH (one:=yY) (fun _ _=>yoG _ _ _ _) _ _)
theorem yaC {a b:dA} (h:yo a=yo b):a.2.1=b.2.1:=congrArg (fun x=>x.2.1) h
theorem yaS {a b:dA} (h:yo a=yo b):a.2.2.2.2.1=b.2.2.2.2.1:=congrArg (fun x=>x.2.2.2.1) h
theorem yLm {a b:dA} (h:yo a=yo b):a.2.2.2.2.2.2.2.2.1=b.2.2.2.2.2.2.2.2.1:=congrArg (fun x=>x.2.2.2.2.2.2.2.1) h
def yUA (b:dA):dA:=(b.1,b.2.1,b.2.2.1,b.2.2.2.1,i64.wrap (b.2.2.2.2.1+1),b.2.2.2.2.2)
def yaX (a:dA):dA:=yce a a.2.2.2.1 (yy a.2.2.2.2.1) [nth (yP a a.2.2.2.2.1).1 a.2.2.2.1 0]
def ypk (a:dA):Int×dA:=bif(yP a a.2.2.2.2.1).2 then(bif yb (yaX a)then(6,yaX a)else(0,yUA (yaX a)))else(5,a)
def yvo (lost:Int) (br:Bool) (S:Int) (i:Nat) (m:dM):Prop:=yu m=true∧(m.1.length:Int)=6+S∧(m.2.2.1=true→(i:Int)=lost∨br=true)
def yCr (lost:Int) (br:Bool) (S:Int) (l:List dM):Prop:= ∀i,i<l.length→yvo lost br S i (nth l i yf)
theorem ytV {lost S:Int} {br:Bool} {l:List dM} {i:Nat} {x:dM} (h:yCr lost br S l) (hx:i<l.length→yvo lost br S i x):yCr lost br S (l.set i x):=fun j hj=>by
 rw[List.length_set]at hj;by_cases e:j=i
 ·subst e
  rw[zkS,zkJ (by rw[List.length_set]; exact hj),List.getElem_set_self]; exact hx hj
 ·have:=h j hj
  rw[zkS,zkJ hj]at this;rw[zkS,zkJ (by rw[List.length_set]; exact hj),List.getElem_set_ne (fun e'=>e e'.symm)]; exact this
theorem yT8 {a:dA}:yjs a=true↔yCr a.2.2.2.1 a.2.2.2.2.2.2.2.2.2.2.2 a.2.1.2 a.2.2.1∧(a.2.2.1.length:Int)=a.2.1.1:=by
 constructor
 ·intro h
  refine⟨fun i hi=>yUv h hi,?_⟩;simp only[yjs,Bool.and_eq_true,beq_iff_eq]at h; exact h.2
 ·rintro⟨h1,h2⟩
  simp only[yjs,Bool.and_eq_true,beq_iff_eq,Bool.not_eq_true',List.any_eq_false,List.mem_range];refine⟨fun i hi=> ?_,h2⟩;obtain⟨g1,g2,g3⟩:=h1 i hi;unfold yfJ;rw[g1,show(((nth a.2.2.1 i yf).1.length:Int) !=6+a.2.1.2)=false from bne_eq_false_iff_eq.2 g2];cases hf:(nth a.2.2.1 i yf).2.2.1
  ·simp
  ·rcases g3 hf with e | e
   ·rw[show((i:Int) !=a.2.2.2.1)=false from bne_eq_false_iff_eq.2 e]; simp
   ·rw[e]; simp
def fuz (a:dA):Int:=a.2.2.2.2.2.2.2.2.2.1
def yae (a:dA):Prop:=(yCr a.2.2.2.1 a.2.2.2.2.2.2.2.2.2.2.2 a.2.1.2 a.2.2.1∧(a.2.2.1.length:Int)=a.2.1.1)∧ -1≤fuz a∧fuz a≤1000
def yaw (a:dA):Prop:=yd a.2.1=true∧(1≤a.1∧a.1≤60000)∧yaH a.2.1 a.2.2.2.2.2.2.2.2.1=true∧(-1≤a.2.2.2.1∧a.2.2.2.1≤a.2.1.1-1)∧(0≤a.2.2.2.2.1∧a.2.2.2.2.1≤a.2.1.2)∧(a.2.2.2.1= -1→a.2.2.2.2.1=0) ∧ (0≤a.2.2.2.2.2.2.1∧a.2.2.2.2.2.2.1≤60000)∧(a.2.2.2.2.2.2.1≤a.2.2.2.2.2.1∧a.2.2.2.2.2.1≤60000)∧a.2.2.2.2.2.1≤a.2.2.2.2.2.2.1+4∧0≤a.2.2.2.2.2.2.2.1∧a.2.2.2.2.2.2.2.1≤60000
theorem yFd {a:dA}:ya2 a=true↔yaw a∧yae a:=by
 unfold ya2 yaw yae fuz;simp only[Bool.and_eq_true,zj7,yT8,Bool.not_eq_true',Bool.and_eq_false_iff,beq_eq_false_iff_ne,bne_eq_false_iff_eq];constructor
 ·rintro⟨h1,h2,h3,h4,h5,h6,h7,h8,h9,h10,h11,h12⟩
  exact⟨⟨h1,h2,h4,h5,h6,fun e=>h7.resolve_left (fun g=>g e),h8,h9,h10,h11.1,h11.2⟩,h3,h12⟩
 ·rintro⟨⟨h1,h2,h4,h5,h6,h7,h8,h9,h10,h11,h11'⟩,h3,h12⟩
  exact⟨h1,h2,h3,h4,h5,h6,(Decidable.em (a.2.2.2.1= -1)).elim (fun e=> .inr (h7 e)) (fun e=> .inl e),h8,h9,h10,⟨h11,h11'⟩,h12⟩
theorem yFg {a b:dA} (h:yo b=yo a) (ha:yaw a):yaw b:=by
 unfold yo at h;simp only[Prod.mk.injEq]at h;obtain⟨h1,h2,h3,h4,h5,h6,h7,h8,h9⟩:=h;unfold yaw at *;rw[h1,h2,h3,h4,h5,h6,h7,h8]; exact ha
theorem yVA {a b:dA} (h:yo b=yo a) (hl:b.2.2.1.length=a.2.2.1.length) (hm:yCr a.2.2.2.1 a.2.2.2.2.2.2.2.2.2.2.2 a.2.1.2 b.2.2.1) (hn:(a.2.2.1.length:Int)=a.2.1.1) (hf: -1≤fuz b∧fuz b≤1000):yae b:=by
 unfold yo at h;simp only[Prod.mk.injEq]at h;obtain⟨h1,h2,h3,h4,h5,h6,h7,h8,h9⟩:=h;unfold yae;rw[h2,h3,h9,hl]; exact⟨⟨hm,hn⟩,hf⟩
theorem yVX {a:dA} (h: -1≤fuz a∧fuz a≤1000): -1≤fuz (opA a).2∧fuz (opA a).2≤1000:=by
 unfold opA;cases yb a
 ·cases h0:(a.2.2.2.2.2.2.2.2.2.1==0)
  ·cases h1:ltb 0 a.2.2.2.2.2.2.2.2.2.1
   ·exact h
   ·have:=zka.1 h1
    unfold fuz at h;show -1≤i64.wrap (a.2.2.2.2.2.2.2.2.2.1-1)∧i64.wrap (a.2.2.2.2.2.2.2.2.2.1-1)≤1000;rw[wr (by omega) (by omega)]; omega
  ·show -1≤(-1:Int)∧(-1:Int)≤1000; omega
 ·exact h
theorem yFm {a:dA} (h:yae a):yae (opA a).2:=yVA (yBW a) (by rw[yau]) (by rw[yau]; exact h.1.1) h.1.2 (yVX h.2)
theorem ytc {a:dA} {m:Int} {x:dM} (h:yae a) (hm:inb m a.2.2.1.length=true) (hx:yvo a.2.2.2.1 a.2.2.2.2.2.2.2.2.2.2.2 a.2.1.2 m.toNat (nth a.2.2.1 m yf)→yvo a.2.2.2.1 a.2.2.2.2.2.2.2.2.2.2.2 a.2.1.2 m.toNat x):yae (ycX a m x):=by
 have hm:=zj6.1 hm;refine⟨⟨ytV h.1.1 (fun hi=>hx ?_),by show((a.2.2.1.set m.toNat x).length:Int)=_; rw[List.length_set]; exact h.1.2⟩,h.2⟩;have:=h.1.1 m.toNat hi;rwa[Int.toNat_of_nonneg hm.1]at this
theorem yT7 {lost S:Int} {br:Bool} {i:Nat} {m:dM} (n:Int) (s:List Int) (h:yvo lost br S i m):yvo lost br S i (yX m n s).1 :=
 ⟨yTe n s h.1,by rw[(yuh m n s).1]; exact h.2.1,by rw[(yuh m n s).2]; exact h.2.2⟩
theorem yT6 {lost S:Int} {br:Bool} {i:Nat} {m:dM} (h:yvo lost br S i m):yvo lost br S i (yr m) :=
 ⟨yUW h.1,by rw[(yiG m).1]; exact h.2.1,by rw[(yiG m).2]; exact h.2.2⟩
theorem yyG {a:dA} {m n:Int} {s:List Int} (h:yae a) (hm:inb m a.2.2.1.length=true):yae (yce a m n s):=by
 unfold yce;cases(nth a.2.2.1 m yf).2.2.1
 ·cases(opA a).1
  ·exact yFm h
  ·exact ytc (yFm h) (by rw[yau]; exact hm) (fun g=>by rw[yau]at g; exact yT7 _ _ g)
 ·exact h
theorem ySP {a:dA} {i:Nat} (h:yae a) (hi:i<a.2.2.1.length):yae (yI a i):=by
 unfold yI;cases(nth a.2.2.1 i yf).2.2.1
 ·cases(opA a).1
  ·exact yFm h
  ·exact ytc (yFm h) (by rw[yau]; exact zkR hi) (fun g=>by rw[yau]at g; exact yT6 g)
 ·exact h
theorem yi2 {P:dA→Prop} {one:dA→Nat→dA} (hl: ∀a i,(one a i).2.2.1.length=a.2.2.1.length) (ho: ∀a i,P a→i<a.2.2.1.length→P (one a i)): ∀(n:Nat) (a:dA),n≤a.2.2.1.length→P a→P ((List.range n).foldl one a)
 | 0,_,_,h=>h
 | n+1,a,hn,h=>by
  rw[List.range_succ,List.foldl_append];exact ho _ _ (yi2 hl ho n a (by omega) h) (by rw[yop hl]; exact hn)
theorem yAn {a:dA} (h:yae a):yae (yq a):=yi2 (P:=yae) (one:=yI) yjK (fun _ _=>ySP) _ a (Nat.le_refl _) h
theorem yQn {a:dA} (h:yae a):yae (yab a) :=yAn (yi2 (P:=yae) (one:=yY) (fun _ _=>yph _ _ _ _) (fun _ _ h hi=>yyG h (zkR hi)) _ (yaj a) (Nat.le_refl _) h)
def yhh (a:dA):Prop:=yb a=false∧fuz a= -1
theorem yTJ {a:dA} (h:yhh a):opA a=(true,a):=by
 unfold opA;rw[h.1,show a.2.2.2.2.2.2.2.2.2.1= -1 from h.2]; rfl
theorem yCo {a:dA} (h:yhh a) (m n:Int) (s:List Int):yhh (yce a m n s):=by
 unfold yce;rw[yTJ h];cases(nth a.2.2.1 m yf).2.2.1<;>exact h
theorem ySH {a:dA} (h:yhh a) (i:Nat):yhh (yI a i):=by
 unfold yI;rw[yTJ h];cases(nth a.2.2.1 i yf).2.2.1<;>exact h
theorem yAj {a:dA} (h:yhh a):yhh (yq a):=yi2 (P:=yhh) (one:=yI) yjK (fun _ i h _=>ySH h i) _ a (Nat.le_refl _) h
theorem yUq {a:dA} (h:yhh a):yhh (yab a) :=yAj (yi2 (P:=yhh) (one:=yY) (fun _ _=>yph _ _ _ _) (fun _ _ h _=>yCo h _ _ _) _ (yaj a) (Nat.le_refl _) h)
theorem yLl {a:dA} (h:yhh a):yR a=yab (yaV (yq a)):=by
 unfold yR;rw[(yAj h).1]; rfl
def Wk (k:Int) (a:dA):Prop:=yaw a∧yae a∧yhh a∧a.2.2.2.2.2.2.2.2.2.2.2=false∧a.2.2.2.2.2.2.2.1≤k
theorem yV3 {k:Int} {a:dA} (h:Wk k a):ya2 a=true:=yFd.2 ⟨h.1,h.2.1⟩
theorem ydh {k j:Int} {a:dA} (h:Wk k a) (hj:k≤j):Wk j a:=⟨h.1,h.2.1,h.2.2.1,h.2.2.2.1,Int.le_trans h.2.2.2.2 hj⟩
theorem ywV {k:Int} {a b:dA} (hc:yo b=yo a) (hk:yae b) (hf:yhh b) (h:Wk k a):Wk k b:=by
 refine⟨yFg hc h.1,hk,hf,?_⟩;unfold yo at hc;simp only[Prod.mk.injEq]at hc;obtain⟨_,_,_,_,_,_,h7,_,h9⟩:=hc;rw[h7,h9]; exact h.2.2.2
theorem yV5 {k:Int} {a:dA} {m n:Int} {s:List Int} (h:Wk k a) (hm:inb m a.2.2.1.length=true):Wk k (yce a m n s):=ywV (yoG _ _ _ _) (yyG h.2.1 hm) (yCo h.2.2.1 _ _ _) h
theorem yVL {k:Int} {a:dA} (h:Wk k a):Wk k (yq a):=ywV (ycA _) (yAn h.2.1) (yAj h.2.2.1) h
theorem yVg {k:Int} {a:dA} (h:Wk k a) (hk:k+1≤60000):Wk (k+1) (yaj a):=by
 obtain⟨⟨c1,c2,c3,c4,c5,c6,c7,c8,c9,c10,c11⟩,h2,h3,h4,h5⟩:=h;have e:i64.wrap (a.2.2.2.2.2.2.2.1+1)=a.2.2.2.2.2.2.2.1+1:=wr (by omega) (by omega);refine⟨⟨c1,c2,c3,c4,c5,c6,c7,c8,c9,?_,?_⟩,h2,h3,h4,?_⟩
 ·show 0≤i64.wrap (a.2.2.2.2.2.2.2.1+1); omega
 ·show i64.wrap (a.2.2.2.2.2.2.2.1+1)≤_; omega
 ·show i64.wrap (a.2.2.2.2.2.2.2.1+1)≤_; omega
theorem yP8 {k:Int} {a:dA} (h:Wk k a) (hk:k+1≤60000):Wk (k+1) (yab a):=ywV (yle _) (yQn h.2.1) (yUq h.2.2.1) (yVg h hk)
theorem yUH {k:Int} {a:dA} (h:Wk k a):Wk k (yaV a):=by
 obtain⟨⟨c1,c2,c3,c4,c5,c6,c7,c8,c9,c10,c11⟩,h2,h3,h4,h5⟩:=h;refine⟨⟨c1,c2,c3,c4,c5,c6,⟨?_,?_⟩,⟨Int.le_refl _,c8.2⟩,?_,c10,c11⟩,h2,h3,h4,h5⟩
 ·show 0≤a.2.2.2.2.2.1; omega
 ·show a.2.2.2.2.2.1≤60000; omega
 ·show a.2.2.2.2.2.1≤a.2.2.2.2.2.1+4; omega
theorem yS9 {k:Int} {a:dA} (h:Wk k a) (hk:k+1≤60000):Wk (k+1) (yR a):=by
 rw[yLl h.2.2.1]; exact yP8 (yUH (yVL h)) hk
theorem yUG {k:Int} {a:dA} {m:Int} {x:dM} (h:Wk k a) (hm:inb m a.2.2.1.length=true) (hx:yvo a.2.2.2.1 a.2.2.2.2.2.2.2.2.2.2.2 a.2.1.2 m.toNat (nth a.2.2.1 m yf)→yvo a.2.2.2.1 a.2.2.2.2.2.2.2.2.2.2.2 a.2.1.2 m.toNat x):Wk k (ycX a m x) :=ywV (a:=a) (b:=ycX a m x) rfl (ytc h.2.1 hm hx) h.2.2.1 h
theorem yVJ {k m:Int} {a:dA} (h:Wk k a) (hl:a.2.2.2.1= -1) (hm:inb m a.2.2.1.length=true) (hk:k+1≤60000):Wk (k+1) (yma a m):=by
 have hmi:=zj6.1 hm
 have hw:Wk k (ydC a m):=by
  obtain⟨⟨c1,c2,c3,c4,c5,c6,c7,c8,c9,c10,c11⟩,⟨⟨g1,g2⟩,g3⟩,f,b,t⟩:=h;refine⟨⟨c1,c2,c3,⟨?_,?_⟩,⟨Int.le_refl _,by show(0:Int)≤a.2.1.2; omega⟩,fun e=>rfl,c7,c8,c9,c10,c11⟩,⟨⟨?_,?_⟩,g3⟩,f,b,t⟩
  ·show -1≤m; omega
  ·show m≤a.2.1.1-1; omega
  ·show yCr m a.2.2.2.2.2.2.2.2.2.2.2 a.2.1.2 (a.2.2.1.set m.toNat (yjI (nth a.2.2.1 m yf)))
   refine ytV (fun i hi=> ?_) (fun hi=> ?_)
   ·obtain⟨e1,e2,e3⟩:=g1 i hi
    refine⟨e1,e2,fun e=> ?_⟩;rcases e3 e with e | e
    ·omega
    ·exact .inr e
   ·have:=g1 m.toNat hi
    rw[Int.toNat_of_nonneg hmi.1]at this;exact⟨yTF this.1,this.2.1,fun _=> .inl (Int.toNat_of_nonneg hmi.1)⟩
  ·show((a.2.2.1.set m.toNat (yjI (nth a.2.2.1 m yf))).length:Int)=a.2.1.1
   rw[List.length_set]; exact g2
 unfold yma;rw[show(a.2.2.2.1== -1)=true from beq_iff_eq.2 hl,h.2.2.1.1,h.2.2.2.1];cases ltb a.2.2.2.2.2.2.2.1 60000
 ·exact ydh hw (by omega)
 ·exact yP8 hw hk
theorem yVi {k:Int} {a:dA} (h:Wk k a) (hl:inb a.2.2.2.1 a.2.2.1.length=true) (hk:k+1≤60000):Wk (k+1) (yab (ybz a)):=by
 have hmi:=zj6.1 hl;refine yP8 ?_ hk;obtain⟨⟨c1,c2,c3,c4,c5,c6,c7,c8,c9,c10,c11⟩,⟨⟨g1,g2⟩,g3⟩,f,b,t⟩:=h;have hg:=yl.1 c1;refine⟨⟨c1,c2,c3,c4,⟨Int.le_refl _,by show(0:Int)≤a.2.1.2; omega⟩,fun e=>rfl,c7,c8,c9,c10,c11⟩,⟨⟨ytV g1 (fun hi=>⟨yQp (by omega) (by omega),?_,fun e=> ?_⟩),?_⟩,g3⟩,f,b,t⟩
 ·unfold ybS
  rw[zk2 (show 1≤6+a.2.1.2 by omega),zk2 (show 6+a.2.1.2≤20 by omega)];show((List.replicate (6+a.2.1.2).toNat ([]:List Int)).length:Int)=6+a.2.1.2;rw[List.length_replicate]; omega
 ·unfold ybS at e
  rw[zk2 (show 1≤6+a.2.1.2 by omega),zk2 (show 6+a.2.1.2≤20 by omega)]at e;cases e
 ·show((a.2.2.1.set a.2.2.2.1.toNat (ybS (6+a.2.1.2))).length:Int)=a.2.1.1
  rw[List.length_set]; exact g2
theorem yVK {k:Int} {a:dA} (h:Wk k a) (hl:inb a.2.2.2.1 a.2.2.1.length=true) (hb:a.2.2.2.2.1<a.2.1.2):Wk k (ypk a).2:=by
 have hp:Wk k (yaX a):=yV5 h hl;have e:=yoG a a.2.2.2.1 (yy a.2.2.2.2.1) [nth (yP a a.2.2.2.2.1).1 a.2.2.2.1 0];have e1:(yaX a).2.2.2.2.1=a.2.2.2.2.1:=yaS e;have e2:(yaX a).2.1=a.2.1:=yaC e;have e3:(yaX a).2.2.2.1=a.2.2.2.1:=congrArg (fun x=>x.2.2.1) e;unfold ypk;cases(yP a a.2.2.2.2.1).2
 ·exact h
 ·generalize yaX a=R at hp e1 e2 e3 ⊢
  rw[hp.2.2.1.1];have hmi:=zj6.1 hl;obtain⟨⟨c1,c2,c3,c4,c5,c6,c7,c8,c9,c10,c11⟩,g2,g3,g4,g5⟩:=hp;have hg:=yl.1 c1;have e4:i64.wrap (R.2.2.2.2.1+1)=R.2.2.2.2.1+1:=wr (by omega) (by omega);refine⟨⟨c1,c2,c3,c4,⟨?_,?_⟩,fun e=> ?_,c7,c8,c9,c10,c11⟩,g2,g3,g4,g5⟩
  ·show 0≤i64.wrap (R.2.2.2.2.1+1); omega
  ·show i64.wrap (R.2.2.2.2.1+1)≤R.2.1.2; rw[e4,e1,e2]; omega
  ·have:R.2.2.2.1= -1:=e
   omega
theorem ycm {a b:dA} (h:yo a=yo b):a.2.2.2.1=b.2.2.2.1:=congrArg (fun x=>x.2.2.1) h
theorem yS2 (s:dS):yad (yx s)=true:=by
 unfold yx;cases h:yat s
 ·rfl
 ·unfold yat at h
  simp only[ybA]at h;cases hg:yd (s.2.2.2.1,s.2.2.2.2.1)
  ·rw[hg]at h; cases h
  have hge:=yl.1 hg;simp only at hge;rw[hg,wq (s.2.2.2.1-1) (by omega) (by omega)]at h;cases h2:(leb 1 s.1&&leb s.1 60000)
  ·rw[h2]at h; cases h
  cases h3:(leb 0 s.2.1&&leb s.2.1 60000)
  ·rw[h2,h3]at h; cases h
  cases h4:(leb 0 s.2.2.1&&leb s.2.2.1 (s.2.2.2.1-1))
  ·rw[h2,h3,h4]at h; cases h
  cases h5:(leb 0 s.2.2.2.2.2.1&&leb s.2.2.2.2.2.1 60000)
  ·rw[h2,h3,h4,h5]at h; cases h
  cases h6:(leb (-1) s.2.2.2.2.2.2.1&&leb s.2.2.2.2.2.2.1 (s.2.2.2.1-1))
  ·rw[h2,h3,h4,h5,h6]at h; cases h
  cases h7:(leb 0 s.2.2.2.2.2.2.2&&leb s.2.2.2.2.2.2.2 s.2.2.2.2.1)
  ·rw[h2,h3,h4,h5,h6,h7]at h; cases h
  simp only[Bool.and_eq_true,zj7]at h2 h3 h4 h5 h6 h7;rw[yAM];refine⟨by show(9:Nat)≤12; omega,?_⟩;have hw:i64.wrap (s.2.2.2.2.2.2.1+1)=s.2.2.2.2.2.2.1+1:=wr (by omega) (by omega);simp only[Bool.not_true,cond_false,hw,List.mem_cons,List.not_mem_nil,or_false]
  rintro x (rfl | rfl | rfl | rfl | rfl | rfl | rfl | rfl | rfl)<;>omega
theorem yCy {g:dG} (id i:Int) (hg:yd g=true):yu (yC id g i)=true∧((yC id g i).1.length:Int)=6+g.2∧(yC id g i).2=([],false,[]):=by
 have hge:=yl.1 hg
 have hm:ybS (6+g.2)=(List.replicate (6+g.2).toNat [],[],false,[]):=by
  unfold ybS;rw[zk2 (show 1≤6+g.2 by omega),zk2 (show 6+g.2≤20 by omega)]; rfl
 have key: ∀(l:List Nat) (m:dM),m.1.all yad=true∧m.2=([],false,[])→(l.foldl ypg m).1.all yad=true∧(l.foldl ypg m).2=([],false,[]):=by
  intro l
  induction l with
  | nil=>intro m h; exact h
  | cons x t ih =>
   intro m h;refine ih _ ⟨?_,h.2⟩;rw[List.all_eq_true];intro y hy;rcases List.mem_or_eq_of_mem_set hy with h1 | rfl
   ·exact List.all_eq_true.1 h.1 y h1
   ·rfl
 have ht:(yit id g i).1.all yad=true∧(yit id g i).2=([],false,[]):=by
  unfold yit;rw[hm];refine⟨?_,rfl⟩;rw[List.all_eq_true];intro y hy;rcases List.mem_or_eq_of_mem_set hy with h1 | rfl
  ·rw[List.eq_of_mem_replicate h1]; rfl
  ·exact yS2 _
 have hl:((yC id g i).1.length:Int)=6+g.2:=by
  unfold yC;rw[yHr];unfold yit;rw[hm];show(((List.replicate (6+g.2).toNat ([]:List Int)).set 0 _).length:Int)=_;rw[List.length_set,List.length_replicate]; omega
 obtain⟨h1,h2⟩:=key (List.range g.2.toNat) _ ht;refine⟨ysJ h1 ?_ ?_ ?_ ?_ ?_,hl,h2⟩
 ·show List.all ((yC id g i).2).1 _=true
  rw[show(yC id g i).2=([],false,[])from h2]; rfl
 ·show yl7 _ ((yC id g i).2).2.2=true
  rw[show(yC id g i).2=([],false,[])from h2,ylc];exact⟨fun x hx=>absurd hx List.not_mem_nil,List.Pairwise.nil⟩
 ·show 1≤(yC id g i).1.length; omega
 ·show(yC id g i).1.length≤20; omega
 ·show((yC id g i).2).1.length≤60
  rw[show(yC id g i).2=([],false,[])from h2]; exact Nat.zero_le _
theorem yDJ {id:Int} {g:dG} (hg:yd g=true) (h1:1≤id) (h2:id≤60000):yjo id g=(id,g,(List.range g.1.toNat).map (fun(i:Nat)=>yC id g i),-1,0,0,0,0,[],-1,false,false):=by
 unfold yjo;rw[hg,zk2 h1,zk2 h2]
 have: ∀(n:Nat),(List.range n).foldl (fun a (i:Nat)=>yxF a (yC id g i)) (yxI id g)=(id,g,(List.range n).map (fun(i:Nat)=>yC id g i),-1,0,0,0,0,[],-1,false,false):=by
  intro n
  induction n with
  | zero=>rfl
  | succ n ih=>rw[List.range_succ,List.foldl_append,ih,List.map_append]; rfl
 exact this _
theorem yUF {id:Int} {g:dG} (hg:yd g=true) (h1:1≤id) (h2:id≤60000):Wk 0 (yjo id g):=by
 have hge:=yl.1 hg;rw[yDJ hg h1 h2];have hl:((List.range g.1.toNat).map (fun(i:Nat)=>yC id g i)).length=g.1.toNat:=by rw[List.length_map,List.length_range]
 refine⟨⟨hg,⟨h1,h2⟩,?_,⟨Int.le_refl _,?_⟩,⟨Int.le_refl _,?_⟩,fun _=>rfl,?_,?_,?_,?_,?_⟩,⟨⟨fun i hi=> ?_,?_⟩,?_,?_⟩,⟨rfl,rfl⟩,rfl,Int.le_refl _⟩
 ·rfl
 ·show(-1:Int)≤g.1-1; omega
 ·show(0:Int)≤g.2; omega
 ·show(0:Int)≤0∧(0:Int)≤60000; omega
 ·show(0:Int)≤0∧(0:Int)≤60000; omega
 ·show(0:Int)≤0+4; omega
 ·show(0:Int)≤0; omega
 ·show(0:Int)≤60000; omega
 ·have hi':i<((List.range g.1.toNat).map (fun(i:Nat)=>yC id g i)).length:=hi
  show yvo (-1) false g.2 i (nth ((List.range g.1.toNat).map (fun(i:Nat)=>yC id g i)) i yf);rw[zkS,zkJ hi',List.getElem_map,List.getElem_range];obtain⟨k1,k2,k3⟩:=yCy id i hg;refine⟨k1,k2,fun e=> ?_⟩;rw[show(yC id g i).2=([],false,[])from k3]at e;cases e
 ·show(((List.range g.1.toNat).map (fun(i:Nat)=>yC id g i)).length:Int)=g.1
  rw[hl]; omega
 ·show(-1:Int)≤ -1; omega
 ·show(-1:Int)≤1000; omega
theorem yTc {k m n:Int} {a:dA} (h:Wk k a) (hm:inb m a.2.2.1.length=true):Wk k (ycX a m (spoil (nth a.2.2.1 m yf) n)) :=
 yUG h hm (fun g=>⟨yS4 n g.1,by rw[(yug _ _).1]; exact g.2.1,by rw[(yug _ _).2]; exact g.2.2⟩)
def yNQ:Code:=(f41.body).getD .skip
def yOg:Env:=zkw TT [(55,yh6),(95,yol),(106,yxY),(109,yav),(110,yvT),(111,ykH)] []
theorem yFT:FrOk prog ⟨yOg,36,fun _=>none⟩ yNQ:=zkA mixed yc ⟨yn4,yAq,yNi,yby,yJ5,ysK,trivial⟩
abbrev ylT:List Par:= [.rd tA,.rd tI,.rd tI]
abbrev ysj:List OT:= [⟨false,tA,(.pr .fz (.pr (.pr .fz .fz) (.pr (.ow (.pr (.ow (.ow .fz)) (.pr (.ow (.pr .fz (.ow .fz))) (.pr .fz (.ow .fz))))) (.pr .fz (.pr .fz (.pr .fz (.pr .fz (.pr .fz (.pr (.ow (.pr .fz (.ow .fz))) (.pr .fz (.pr .fz .fz)))))))))))⟩]
def yoI (a0:dA) (a1 a2:Int):Option (zaY ysj×zak ylT) :=let r1:=ydE a0;let r2:=ybb a0;bif r2 then let r3:=yik a0 a1;bif r3 then let r4:=yL a0.2.1 a2;bif r4 then bif(inb a1 a0.2.2.1.length)then let r5:=yf4 a2;let r6:=yg3 ((nth a0.2.2.1 a1 ([],[],false,[])).1,((nth a0.2.2.1 a1 ([],[],false,[])).2).1,(((nth a0.2.2.1 a1 ([],[],false,[])).2).2)) r5;bif(inb a1 r1.2.2.1.length)then some (((r1.1,r1.2.1,(r1.2.2.1.set (a1).toNat r6),r1.2.2.2),()),()) else none else none else some ((r1,()),()) else some ((r1,()),()) else some ((r1,()),())
theorem yJF:ConOk prog 41 ⟨ylT,ysj,fun x=>yoI x.1 x.2.1 x.2.2.1⟩:=zkI (yFT) func41 ntmps41.symm fun x=>by kernel_rfl
def yii (a0:dA) (a1 a2:Int):dA:=yM a0 a1 a2
theorem yMg (a0:dA) (a1 a2:Int) (hk:zjx ylT (a0,a1,a2,())):yoI a0 a1 a2=(fun n=>some ((n,()),())) (yii a0 a1 a2):=by
 unfold yoI yii yM;simp only[ydE,ybb,yg3,yns,ysG];cases ha:ya2 a0
 ·rfl
 ·have h5:=yUQ ha
  have hd:yik a0 a1=inb a1 a0.2.2.1.length:=by
   unfold yik;rw[yW,yh8 (show a0.2.2.1.length≤1152921504606846976 by omega)]
  rw[hd];cases hi:inb a1 a0.2.2.1.length
  ·rfl
  ·cases yO a0.2.1 a2<;>rfl
def yxV:Con:=⟨ylT,ysj,fun x=>(fun n=>some ((n,()),())) (yii x.1 x.2.1 x.2.2.1)⟩
theorem yNf:ConOk prog 41 yxV:=(yJF).mono (fun x r hk h=>(yMg x.1 x.2.1 x.2.2.1 hk).trans h)
def ykb:Code:=(f49.body).getD .skip
def ypC:Env:=zkw TT [] []
theorem yD6:FrOk prog ⟨ypC,26,fun _=>none⟩ ykb:=zkA mixed yc trivial
def yvC:Nat→Option Seg:=fun _=>none
def ycg:Shape:=⟨[(0,false,[.br tI]),(1,false,[.br tI]),(5,false,[.int .i64])],[],[]⟩
def ygD:Shape:=⟨[(0,false,[.br tI]),(1,false,[.br tI]),(5,false,[.ci .i64 0])],[],[]⟩
def ygp:Shape:=⟨[],[],[]⟩
def ygS:Shape:=⟨[(4,false,[.bool])],[],[]⟩
def yj5 (v0 v1:List Int) (v2:Int):Option ((ycg).X ⊕ ((ygp).X ⊕ (ygS).X)) :=bif(ltb v2 (v0.length:Int))then bif(inb v2 v0.length)then bif(inb v2 v1.length)then bif((nth v0 v2 0) !=(nth v1 v2 0))then some (.inr (.inr (((false,()),()),(),()))) else some (.inl (((v0,()),(v1,()),((i64.wrap (v2+1)),()),()),(),())) else none else none else some (.inr (.inl ((),(),())))
def ybl (x:(ycg).X):=yj5 x.1.1.1 x.1.2.1.1 x.1.2.2.1.1
def yrC (x:(ygD).X):(ycg).X:=(((x.1.1.1,()),(x.1.2.1.1,()),(0,()),()),(),())
def ytn:Code:=(zd7 ykb 64 116).getD .skip
theorem yDH:zd7 ykb 64 29=some (.block 0 (.loop ytn)):=by kernel_rfl
theorem yE2 (x:(ycg).X):zhu ⟨ypC,26,yvC⟩ 0 ytn 116 ycg ygp ygS x=ybl x:=by kernel_rfl
def yrI (x:(ygD).X):Nat:=18446744073709551616
def yk2 (x:(ygD).X):Option ((ygp).X ⊕ (ygS).X):=zF ybl (yrI x) (yrC x)
def yrT:Seg:=⟨ygD,ygp,ygS,yk2⟩
def yFy:Nat→Option Seg:=fun q=>bif Nat.beq q 29 then some yrT else yvC q
theorem yD7:FrOk prog ⟨ypC,26,yFy⟩ ykb:=(yD6).loop (sg:=yrT) ycg yrC (by decide) yDH ybl yrI (by decide) (fun _=>rfl) (fun x r _ h=>h) yE2
abbrev ykm:List Par:= [.rd tL,.rd tL]
abbrev yqe:List OT:= [⟨false,tB,.fz⟩]
def ym4 (a0 a1:List Int):Option (zaY yqe×zak ykm) :=bif((a0.length:Int) !=(a1.length:Int))then some ((false,()),()) else zkt (yk2 (((a0,()),(a1,()),((),()),()),(),())) (fun y0 =>some ((true,()),())) (fun y0 =>some ((y0.1.1.1,()),()))
theorem yGX:ConOk prog 49 ⟨ykm,yqe,fun x=>ym4 x.1 x.2.1⟩:=zkI (yD7) func49 ntmps49.symm fun x=>by kernel_rfl
def yeh (a0 a1:List Int):Bool:=decide (a0=a1)
theorem yJu (a0 a1:List Int) (hk:zjx ykm (a0,a1,())):ym4 a0 a1=(fun n=>some ((n,()),())) (yeh a0 a1):=by
 have hb:a0.length*8≤2^47:=hk.1.1
 have hl:a0.length=a1.length→yk2 (((a0,()),(a1,()),((),()),()),(),())=some (bif(List.range a0.length).any (fun i=>a0.getD i 0 !=a1.getD i 0)then .inr (((false,()),()),(),())else .inl ((),(),())):=fun hL =>
  zji (step:=ybl) (fun i=>(((a0,()),(a1,()),((i:Int),()),()),(),())) a0.length (fun i=>a0.getD i 0 !=a1.getD i 0) _ _ (fun i hi=>by
   simp only[ybl,yj5,zkR hi,zkR (hL ▸ hi),zkS,zky (show(i:Int)<a0.length by omega),cond_true,wq ((i:Int)+1) (by omega) (by omega),Int.natCast_add,Int.natCast_one]
   cases(a0.getD i 0 !=a1.getD i 0)<;>rfl) (by simp only[ybl,yj5,zk3 (Int.le_refl _),cond_false]) _ (by show _<18446744073709551616; omega)
 unfold ym4 yeh;by_cases h:a0.length=a1.length
 ·rw[show((a0.length:Int) !=(a1.length:Int))=false by simp[h],zkZ,hl h]
  by_cases e:a0=a1
  ·subst e
   have:(List.range a0.length).any (fun i=>a0.getD i 0 !=a0.getD i 0)=false:=by simp
   rw[this,decide_eq_true rfl];rfl
  ·have:(List.range a0.length).any (fun i=>a0.getD i 0 !=a1.getD i 0)=true:=by
    rcases Bool.eq_false_or_eq_true ((List.range a0.length).any (fun i=>a0.getD i 0 !=a1.getD i 0))with h2 | h2
    ·exact h2
    ·refine absurd (List.ext_getElem h fun i h3 h4=> ?_) e
     rw[List.any_eq_false]at h2;have:=h2 i (List.mem_range.2 h3);simpa [h3,h4]using this
   rw[this,decide_eq_false e];rfl
 ·rw[show((a0.length:Int) !=(a1.length:Int))=true from bne_iff_ne.2 (by omega),zk0,decide_eq_false (fun e=>h (congrArg _ e))]
theorem yR9 (a:List Int):yeh a a=true:=by unfold yeh; simp
def yvW:Con:=⟨ykm,yqe,fun x=>(fun n=>some ((n,()),())) (yeh x.1 x.2.1)⟩
theorem yJ9:ConOk prog 49 yvW:=(yGX).mono (fun x r hk h=>(yJu x.1 x.2.1 hk).trans h)
def ypp:Code:=(f69.body).getD .skip
def yxa:Env:=zkw TT [] []
theorem yLO:FrOk prog ⟨yxa,32,fun _=>none⟩ ypp:=zkA mixed yc trivial
def yBh:Nat→Option Seg:=fun _=>none
def yed:Shape:=⟨[(0,false,[.fz tY]),(3,false,[.int .i64]),(4,false,[.int .i64])],[],[]⟩
def ykt:Shape:=⟨[(0,false,[.fz tY]),(3,false,[.int .i64]),(4,false,[.ci .i64 0])],[],[]⟩
def yks:Shape:=⟨[(0,false,[.fz tY]),(3,false,[.int .i64])],[],[]⟩
def ykA:Shape:=⟨[],[],[]⟩
def yzk (v0:List Int) (v1 v2:Int):Option ((yed).X ⊕ ((yks).X ⊕ (ykA).X)) :=bif(ltb v2 (v0.length:Int))then bif(ltb v2 4000)then bif(inb v2 v0.length)then some (.inl (((v0,()),((i64.wrap ((BitVec.ofInt IntKind.i64.bits (i64.wrap ((i64.wrap ((i64.wrap (v1*137))+(i64.wrap (nth v0 v2 0))))+11)) &&& BitVec.ofInt IntKind.i64.bits 1073741823).toNat:Int)),()),((i64.wrap (v2+1)),()),()),(),())) else none else some (.inr (.inl (((v0,()),(v1,()),()),(),()))) else some (.inr (.inl (((v0,()),(v1,()),()),(),())))
def yeW (x:(yed).X):=yzk x.1.1.1 x.1.2.1.1 x.1.2.2.1.1
def yyk (x:(ykt).X):(yed).X:=(((x.1.1.1,()),(x.1.2.1.1,()),(0,()),()),(),())
def yzN:Code:=(zd7 ypp 64 116).getD .skip
theorem yLe:zd7 ypp 64 29=some (.block 0 (.loop yzN)):=by kernel_rfl
theorem yNH (x:(yed).X):zhu ⟨yxa,32,yBh⟩ 0 yzN 116 yed yks ykA x=yeW x:=by kernel_rfl
def yyz (x:(ykt).X):Nat:=18446744073709551616
def ypN (x:(ykt).X):Option ((yks).X ⊕ (ykA).X):=zF yeW (yyz x) (yyk x)
def yze:Seg:=⟨ykt,yks,ykA,ypN⟩
def yOb:Nat→Option Seg:=fun q=>bif Nat.beq q 29 then some yze else yBh q
theorem yLP:FrOk prog ⟨yxa,32,yOb⟩ ypp:=(yLO).loop (sg:=yze) yed yyk (by decide) yLe yeW yyz (by decide) (fun _=>rfl) (fun x r _ h=>h) yNH
abbrev yp2:List Par:= [.kp tYs .fz]
abbrev yxB:List OT:= [⟨true,tU,.fz⟩]
def yiB (a0:List Int):Option (zaY yxB×zak yp2) :=zkt (ypN (((a0,()),((i64.wrap (770770+(a0.length:Int))),()),((),()),()),(),())) (fun y0 =>some (((y0.1.1.1,0,y0.1.2.1.1),()),())) (fun y0 =>none)
theorem yPv:ConOk prog 69 ⟨yp2,yxB,fun x=>yiB x.1⟩:=zkI (yLP) func69 ntmps69.symm fun x=>by kernel_rfl
def yio (a0:List Int):List Int×Int×Int:=(((yiB a0).getD (((([]:List Int),(0:Int),(0:Int)),()),())).1).1
def ydM (u:List Int×Int×Int):Prop:=0≤u.2.1∧(u.1.length:Int)≤140737488355328
theorem ySQ (a0:List Int) (hb:a0.length≤140737488355328): ∃s:Int,yiB a0=some (((a0,0,s),()),()):=by
 have hl: ∃b,ypN (((a0,()),((i64.wrap (770770+(a0.length:Int))),()),((),()),()),(),())=some b∧(∃s:Int,b= .inl (((a0,()),(s,()),()),(),())):=by
  refine zjj (step:=yeW) (fun x=>(a0.length-(x.1.2.2.1.1:Int).toNat)) (fun x=>(x.1.1.1:List Int)=a0∧(0:Int)≤(x.1.2.2.1.1:Int)) _ ?_ _ _ ⟨rfl,Int.le_refl _⟩ (by show a0.length-_<18446744073709551616; omega)
  rintro⟨⟨⟨(l:List Int),_⟩,⟨(s:Int),_⟩,⟨(i:Int),_⟩,_⟩,_,_⟩ ⟨h0,hi⟩
  simp only at h0 hi;subst h0;simp only[yeW,yzk];by_cases h1:i<(l.length:Int)
  ·rw[zky h1]
   by_cases h2:i<4000
   ·rw[zky h2,zj6.2 ⟨hi,h1⟩]
    refine .inl ⟨_,rfl,⟨rfl,?_⟩,?_⟩
    ·show 0≤i64.wrap (i+1); rw[wr (by omega) (by omega)]; omega
    ·show l.length-(i64.wrap (i+1)).toNat<l.length-i.toNat; rw[wr (by omega) (by omega)]; omega
   ·rw[zk3 (Int.not_lt.1 h2)]
    exact .inr ⟨_,rfl,_,rfl⟩
  ·rw[zk3 (Int.not_lt.1 h1)]
   exact .inr ⟨_,rfl,_,rfl⟩
 obtain⟨b,e,s,rfl⟩:=hl;refine⟨s,?_⟩;unfold yiB;rw[e]; rfl
theorem yRK (a0:List Int) (hk:zjx yp2 (a0,())):yiB a0=(fun n=>some ((n,()),())) (yio a0):=by
 obtain⟨s,e⟩:=ySQ a0 (by have:a0.length*1≤2^47:=hk.1.1; omega);unfold yio;rw[e]; rfl
theorem yVQ (a0:List Int) (hb:a0.length≤140737488355328):ydM (yio a0):=by
 obtain⟨s,e⟩:=ySQ a0 hb;unfold yio;rw[e];exact⟨Int.le_refl _,by show(a0.length:Int)≤_; omega⟩
def yBx:Con:=⟨yp2,yxB,fun x=>(fun n=>some ((n,()),())) (yio x.1)⟩
theorem yR0:ConOk prog 69 yBx:=(yPv).mono (fun x r hk h=>(yRK x.1 hk).trans h)
def yQW:Code:=(f71.body).getD .skip
def yRp:Env:=zkw TT [] []
theorem yIt:FrOk prog ⟨yRp,15,fun _=>none⟩ yQW:=zkA mixed yc trivial
abbrev yuG:List Par:= [.rd tYs,.rd tI]
abbrev yva:List OT:= [⟨false,tI,.fz⟩]
def yAI (a0:List Int) (a1:Int):Option (zaY yva×zak yuG) :=bif(ltb a1 (i64.wrap (3+(i64.wrap ((a0.length:Int).tdiv 12)))))then some ((a1,()),()) else some (((i64.wrap (3+(i64.wrap ((a0.length:Int).tdiv 12)))),()),())
theorem yM1:ConOk prog 71 ⟨yuG,yva,fun x=>yAI x.1 x.2.1⟩:=zkI (yIt) func71 ntmps71.symm fun x=>by kernel_rfl
def ydl (a0:List Int) (a1:Int):Int :=bif(ltb a1 (i64.wrap (3+(i64.wrap ((a0.length:Int).tdiv 12)))))then a1 else (i64.wrap (3+(i64.wrap ((a0.length:Int).tdiv 12))))
def yz6:Con:=⟨yuG,yva,fun x=>(fun n=>some ((n,()),())) (ydl x.1 x.2.1)⟩
theorem yO5 (a0:List Int) (a1:Int):yAI a0 a1=(fun n=>some ((n,()),())) (ydl a0 a1):=zkV (p:=fun(n:Int)=>((n,()),())) (zkG (p:=fun(n:Int)=>((n,()),())) rfl rfl)
theorem yPQ:ConOk prog 71 yz6:=(yM1).mono (fun x r _ h=>(yO5 x.1 x.2.1).trans h)
theorem yVr (l:List Int) (n:Int) (hn:0≤n) (hl:l.length≤140737488355328):0≤ydl l n∧ydl l n≤n:=by
 unfold ydl;have h1:0≤(l.length:Int).tdiv 12:=Int.tdiv_nonneg (by omega) (by omega)
 have h2:(l.length:Int).tdiv 12≤(l.length:Int):=by
  rw[Int.tdiv_eq_ediv_of_nonneg (by omega)];exact Int.ediv_le_self _ (by omega)
 rw[wq ((l.length:Int).tdiv 12) (by omega) (by omega),wq (3+(l.length:Int).tdiv 12) (by omega) (by omega)];by_cases h:n<3+(l.length:Int).tdiv 12
 ·rw[zky h]; exact⟨hn,Int.le_refl _⟩
 ·rw[zk3 (by omega),cond_false]; omega
def yQX:Code:=(f226.body).getD .skip
def yRq:Env:=zkw TT [(82,yz)] []
theorem yIu:FrOk prog ⟨yRq,5,fun _=>none⟩ yQX:=zkA mixed yc ⟨yF,trivial⟩
abbrev yuH:List Par:= [.rd tI]
abbrev yvb:List OT:= [⟨false,tB,.fz⟩]
def yAJ (a0:Int):Option (zaY yvb×zak yuH) :=let r1:=ya a0 0 65535;some ((r1,()),())
theorem yM2:ConOk prog 226 ⟨yuH,yvb,fun x=>yAJ x.1⟩:=zkI (yIu) func226 ntmps226.symm fun x=>by kernel_rfl
def yam (a0:Int):Bool :=let r1:=ya a0 0 65535;r1
def yz7:Con:=⟨yuH,yvb,fun x=>(fun n=>some ((n,()),())) (yam x.1)⟩
theorem yO6 (a0:Int):yAJ a0=(fun n=>some ((n,()),())) (yam a0):=zkV (p:=fun(n:Bool)=>((n,()),())) rfl
theorem yPR:ConOk prog 226 yz7:=(yM2).mono (fun x r _ h=>(yO6 x.1).trans h)
def ylP:Code:=(f200.body).getD .skip
def yr4:Env:=zkw TT [(226,yz7)] []
theorem yGg:FrOk prog ⟨yr4,16,fun _=>none⟩ ylP:=zkA mixed yc ⟨yPR,trivial⟩
def yw3:Nat→Option Seg:=fun _=>none
def yc1:Shape:=⟨[(0,false,[.br tI]),(3,false,[.int .i64])],[],[]⟩
def yhu:Shape:=⟨[(0,false,[.br tI]),(3,false,[.ci .i64 0])],[],[]⟩
def yhs:Shape:=⟨[],[],[]⟩
def yhE:Shape:=⟨[(2,false,[.bool])],[],[]⟩
def ylG (v0:List Int) (v1:Int):Option ((yc1).X ⊕ ((yhs).X ⊕ (yhE).X)) :=bif(ltb v1 (v0.length:Int))then bif(inb v1 v0.length)then let r2:=yam (nth v0 v1 0);bif(!r2)then some (.inr (.inr (((false,()),()),(),()))) else some (.inl (((v0,()),((i64.wrap (v1+1)),()),()),(),())) else none else some (.inr (.inl ((),(),())))
def ybM (x:(yc1).X):=ylG x.1.1.1 x.1.2.1.1
def ytE (x:(yhu).X):(yc1).X:=(((x.1.1.1,()),(0,()),()),(),())
def yvN:Code:=(zd7 ylP 64 52).getD .skip
theorem yFN:zd7 ylP 64 13=some (.block 0 (.loop yvN)):=by kernel_rfl
theorem yHk (x:(yc1).X):zhu ⟨yr4,16,yw3⟩ 0 yvN 52 yc1 yhs yhE x=ybM x:=by kernel_rfl
def ytR (x:(yhu).X):Nat:=18446744073709551616
def ymw (x:(yhu).X):Option ((yhs).X ⊕ (yhE).X):=zF ybM (ytR x) (ytE x)
def yud:Seg:=⟨yhu,yhs,yhE,ymw⟩
def yHG:Nat→Option Seg:=fun q=>bif Nat.beq q 13 then some yud else yw3 q
theorem yGh:FrOk prog ⟨yr4,16,yHG⟩ ylP:=(yGg).loop (sg:=yud) yc1 ytE (by decide) yFN ybM ytR (by decide) (fun _=>rfl) (fun x r _ h=>h) yHk
abbrev ylZ:List Par:= [.rd tL]
abbrev ysx:List OT:= [⟨false,tB,.fz⟩]
def yoR (a0:List Int):Option (zaY ysx×zak ylZ) :=zkt (ymw (((a0,()),((),()),()),(),())) (fun y2 =>some ((true,()),())) (fun y2 =>some ((y2.1.1.1,()),()))
theorem yJW:ConOk prog 200 ⟨ylZ,ysx,fun x=>yoR x.1⟩:=zkI (yGh) func200 ntmps200.symm fun x=>by kernel_rfl
def yZ (a0:List Int):Bool:=a0.all yam
theorem yMv (a0:List Int) (hk:zjx ylZ (a0,())):yoR a0=(fun n=>some ((n,()),())) (yZ a0):=by
 have hb:a0.length*8≤2^47:=hk.1.1
 have hl:ymw (((a0,()),((),()),()),(),())=some (bif a0.all yam then .inl ((),(),())else .inr (((false,()),()),(),())) :=
  zj9 (step:=ybM) a0 0 (fun i=>(((a0,()),((i:Int),()),()),(),())) yam _ _ (fun i hi=>by
   simp only[ybM,ylG,zkR hi,zkS,zky (show(i:Int)<a0.length by omega),cond_true,wq ((i:Int)+1) (by omega) (by omega),Int.natCast_add,Int.natCast_one]
   cases yam (a0.getD i 0)<;>rfl) (by simp only[ybM,ylG,zk3 (Int.le_refl _),cond_false]) _ (by show _<18446744073709551616; omega)
 unfold yoR yZ;rw[hl];cases a0.all yam<;>rfl
def yfH:Con:=⟨ylZ,ysx,fun x=>(fun n=>some ((n,()),())) (yZ x.1)⟩
theorem ykT:ConOk prog 200 yfH:=(yJW).mono (fun x r hk h=>(yMv x.1 hk).trans h)
def ySk:Code:=(f202.body).getD .skip
def ySv:Env:=zkw TT [(200,yfH)] []
theorem yLK:FrOk prog ⟨ySv,10,fun _=>none⟩ ySk:=zkA mixed yc ⟨ykT,trivial⟩
abbrev yxk:List Par:= [.rd tL]
abbrev yxy:List OT:= [⟨false,tB,.fz⟩]
def yB6 (a0:List Int):Option (zaY yxy×zak yxk) :=bif(leb (a0.length:Int) 12)then let r1:=yZ a0;some ((r1,()),()) else some ((false,()),())
theorem yPs:ConOk prog 202 ⟨yxk,yxy,fun x=>yB6 x.1⟩:=zkI (yLK) func202 ntmps202.symm fun x=>by kernel_rfl
def yfM (a0:List Int):Bool :=bif(leb (a0.length:Int) 12)then let r1:=yZ a0;r1 else false
def ysD:Con:=⟨yxk,yxy,fun x=>(fun n=>some ((n,()),())) (yfM x.1)⟩
theorem yRI (a0:List Int):yB6 a0=(fun n=>some ((n,()),())) (yfM a0):=zkV (p:=fun(n:Bool)=>((n,()),())) (zkG (p:=fun(n:Bool)=>((n,()),())) rfl rfl)
theorem yCP:ConOk prog 202 ysD:=(yPs).mono (fun x r _ h=>(yRI x.1).trans h)
theorem yA8:yfM=yad:=funext fun s=>by
 unfold yfM yad yZ;rw[show yam=isW from funext fun x=>by unfold yam; rw[ybA]; rfl];cases leb (s.length:Int) 12<;>rfl
def ybQ:Code:=(f160.body).getD .skip
def yfd:Env:=zkw TT [(82,yz),(202,ysD)] []
theorem yLF:FrOk prog ⟨yfd,91,fun _=>none⟩ ybQ:=zkA mixed yc ⟨yF,yCP,trivial⟩
def yBf:Nat→Option Seg:=fun _=>none
def ycH:Shape:=⟨[(1,false,[.ptr 0 0]),(3,false,[.int .i64]),(4,false,[.int .i64])],[(0,[.br tL,.br tW,.bool,.br tI])],[]⟩
def ygE:Shape:=⟨[(1,false,[.ptr 0 0]),(3,false,[.int .i64]),(4,false,[.ci .i64 0])],[(0,[.br tL,.br tW,.bool,.br tI])],[]⟩
def ygq:Shape:=⟨[(1,false,[.ptr 0 0]),(3,false,[.int .i64])],[(0,[.br tL,.br tW,.bool,.br tI])],[]⟩
def ygU:Shape:=⟨[(2,false,[.bool])],[],[]⟩
abbrev yow (v0 v1:Int) (v2:dM):(ycH).X:=((((),()),(v0,()),(v1,()),()),((v2.1,v2.2.1,v2.2.2.1,v2.2.2.2,()),()),())
abbrev yI5 (v0:Int) (v1:dM):(ygE).X:=((((),()),(v0,()),((),()),()),((v1.1,v1.2.1,v1.2.2.1,v1.2.2.2,()),()),())
abbrev yIW (v0:Int) (v1:dM):(ygq).X:=((((),()),(v0,()),()),((v1.1,v1.2.1,v1.2.2.1,v1.2.2.2,()),()),())
abbrev yJh (v0:Bool):(ygU).X:=(((v0,()),()),(),())
def yo1 (v0 v1:Int) (v2:List (List Int)) (v3:List dW) (v4:Bool) (v5:List Int):Option ((ycH).X ⊕ ((ygq).X ⊕ (ygU).X)) :=bif(ltb v1 v0)then bif(inb v1 v2.length)then let r2:=yfM (nth v2 v1 []);bif(!r2)then some (.inr (.inr (((false,()),()),(),()))) else some (.inl ((((),()),(v0,()),((i64.wrap (v1+1)),()),()),((v2,v3,v4,v5,()),()),())) else none else some (.inr (.inl ((((),()),(v0,()),()),((v2,v3,v4,v5,()),()),())))
def yc9 (x:(ycH).X):=yo1 x.1.2.1.1 x.1.2.2.1.1 x.2.1.1.1 x.2.1.1.2.1 x.2.1.1.2.2.1 x.2.1.1.2.2.2.1
def yyh (x:(ygE).X):(ycH).X:=((((),()),(x.1.2.1.1,()),(0,()),()),((x.2.1.1.1,x.2.1.1.2.1,x.2.1.1.2.2.1,x.2.1.1.2.2.2.1,()),()),())
def yzK:Code:=(zd7 ybQ 64 116).getD .skip
theorem yLb:zd7 ybQ 64 29=some (.block 0 (.loop yzK)):=by kernel_rfl
theorem yNE (x:(ycH).X):zhu ⟨yfd,91,yBf⟩ 0 yzK 116 ycH ygq ygU x=yc9 x:=by kernel_rfl
def yyw (x:(ygE).X):Nat:=18446744073709551616
def ypK (x:(ygE).X):Option ((ygq).X ⊕ (ygU).X):=zF yc9 (yyw x) (yyh x)
def yzb:Seg:=⟨ygE,ygq,ygU,ypK⟩
def yrX:Nat→Option Seg:=fun q=>bif Nat.beq q 29 then some yzb else yBf q
theorem yLG:FrOk prog ⟨yfd,91,yrX⟩ ybQ:=(yLF).loop (sg:=yzb) ycH yyh (by decide) yLb yc9 yyw (by decide) (fun _=>rfl) (fun x r _ h=>h) yNE
def ycI:Shape:=⟨[(1,false,[.ptr 0 0]),(3,false,[.int .i64]),(5,false,[.int .i64])],[(0,[.br tL,.br tW,.bool,.br tI])],[]⟩
def ygF:Shape:=⟨[(1,false,[.ptr 0 0]),(3,false,[.int .i64]),(5,false,[.ci .i64 0])],[(0,[.br tL,.br tW,.bool,.br tI])],[]⟩
def ygr:Shape:=⟨[(1,false,[.ptr 0 0]),(3,false,[.int .i64])],[(0,[.br tL,.br tW,.bool,.br tI])],[]⟩
def ygV:Shape:=⟨[(2,false,[.bool])],[],[]⟩
abbrev yox (v0 v1:Int) (v2:dM):(ycI).X:=((((),()),(v0,()),(v1,()),()),((v2.1,v2.2.1,v2.2.2.1,v2.2.2.2,()),()),())
abbrev yI6 (v0:Int) (v1:dM):(ygF).X:=((((),()),(v0,()),((),()),()),((v1.1,v1.2.1,v1.2.2.1,v1.2.2.2,()),()),())
abbrev yIX (v0:Int) (v1:dM):(ygr).X:=((((),()),(v0,()),()),((v1.1,v1.2.1,v1.2.2.1,v1.2.2.2,()),()),())
abbrev yJi (v0:Bool):(ygV).X:=(((v0,()),()),(),())
def yo2 (v0 v1:Int) (v2:List (List Int)) (v3:List dW) (v4:Bool) (v5:List Int):Option ((ycI).X ⊕ ((ygr).X ⊕ (ygV).X)) :=bif(ltb v1 (v3.length:Int))then bif(inb v1 v3.length)then let r6:=ya ((nth v3 v1 (0,[])).1) 0 (i64.wrap (v0-1));bif(!(!r6))then bif(inb v1 v3.length)then let r7:=yfM ((nth v3 v1 (0,[])).2);bif(!r7)then some (.inr (.inr (((false,()),()),(),()))) else some (.inl ((((),()),(v0,()),((i64.wrap (v1+1)),()),()),((v2,v3,v4,v5,()),()),())) else none else some (.inr (.inr (((false,()),()),(),()))) else none else some (.inr (.inl ((((),()),(v0,()),()),((v2,v3,v4,v5,()),()),())))
def yda (x:(ycI).X):=yo2 x.1.2.1.1 x.1.2.2.1.1 x.2.1.1.1 x.2.1.1.2.1 x.2.1.1.2.2.1 x.2.1.1.2.2.2.1
def yyi (x:(ygF).X):(ycI).X:=((((),()),(x.1.2.1.1,()),(0,()),()),((x.2.1.1.1,x.2.1.1.2.1,x.2.1.1.2.2.1,x.2.1.1.2.2.2.1,()),()),())
def yzL:Code:=(zd7 ybQ 64 244).getD .skip
theorem yLc:zd7 ybQ 64 61=some (.block 2 (.loop yzL)):=by kernel_rfl
theorem yNF (x:(ycI).X):zhu ⟨yfd,91,yrX⟩ 2 yzL 244 ycI ygr ygV x=yda x:=by kernel_rfl
def yyx (x:(ygF).X):Nat:=18446744073709551616
def ypL (x:(ygF).X):Option ((ygr).X ⊕ (ygV).X):=zF yda (yyx x) (yyi x)
def yzc:Seg:=⟨ygF,ygr,ygV,ypL⟩
def yrY:Nat→Option Seg:=fun q=>bif Nat.beq q 61 then some yzc else yrX q
theorem yLH:FrOk prog ⟨yfd,91,yrY⟩ ybQ:=(yLG).loop (sg:=yzc) ycI yyi (by decide) yLc yda yyx (by decide) (fun _=>rfl) (fun x r _ h=>h) yNF
def yb5:Shape:=⟨[(1,false,[.ptr 0 0]),(3,false,[.int .i64]),(6,false,[.int .i64])],[(0,[.br tL,.br tW,.bool,.br tI])],[]⟩
def yfw:Shape:=⟨[(1,false,[.ptr 0 0]),(3,false,[.int .i64]),(6,false,[.ci .i64 0])],[(0,[.br tL,.br tW,.bool,.br tI])],[]⟩
def yfl:Shape:=⟨[(1,false,[.ptr 0 0]),(3,false,[.int .i64])],[(0,[.br tL,.br tW,.bool,.br tI])],[]⟩
def yfE:Shape:=⟨[(2,false,[.bool])],[],[]⟩
abbrev ymM (v0 v1:Int) (v2:dM):(yb5).X:=((((),()),(v0,()),(v1,()),()),((v2.1,v2.2.1,v2.2.2.1,v2.2.2.2,()),()),())
abbrev yGz (v0:Int) (v1:dM):(yfw).X:=((((),()),(v0,()),((),()),()),((v1.1,v1.2.1,v1.2.2.1,v1.2.2.2,()),()),())
abbrev yGs (v0:Int) (v1:dM):(yfl).X:=((((),()),(v0,()),()),((v1.1,v1.2.1,v1.2.2.1,v1.2.2.2,()),()),())
abbrev yGG (v0:Bool):(yfE).X:=(((v0,()),()),(),())
def yng (v0 v1:Int) (v2:List (List Int)) (v3:List dW) (v4:Bool) (v5:List Int):Option ((yb5).X ⊕ ((yfl).X ⊕ (yfE).X)) :=bif(ltb v1 (v5.length:Int))then bif(inb v1 v5.length)then let r10:=ya (nth v5 v1 0) 0 (i64.wrap (v0-1));bif(!(!r10))then bif(ltb 0 v1)then bif(inb (i64.wrap (v1-1)) v5.length)then bif(inb v1 v5.length)then bif(leb (nth v5 v1 0) (nth v5 (i64.wrap (v1-1)) 0))then some (.inr (.inr (((false,()),()),(),()))) else some (.inl ((((),()),(v0,()),((i64.wrap (v1+1)),()),()),((v2,v3,v4,v5,()),()),())) else none else none else some (.inl ((((),()),(v0,()),((i64.wrap (v1+1)),()),()),((v2,v3,v4,v5,()),()),())) else some (.inr (.inr (((false,()),()),(),()))) else none else some (.inr (.inl ((((),()),(v0,()),()),((v2,v3,v4,v5,()),()),())))
def ycu (x:(yb5).X):=yng x.1.2.1.1 x.1.2.2.1.1 x.2.1.1.1 x.2.1.1.2.1 x.2.1.1.2.2.1 x.2.1.1.2.2.2.1
def yv7 (x:(yfw).X):(yb5).X:=((((),()),(x.1.2.1.1,()),(0,()),()),((x.2.1.1.1,x.2.1.1.2.1,x.2.1.1.2.2.1,x.2.1.1.2.2.2.1,()),()),())
def yxN:Code:=(zd7 ybQ 64 500).getD .skip
theorem yHQ:zd7 ybQ 64 125=some (.block 4 (.loop yxN)):=by kernel_rfl
theorem yKn (x:(yb5).X):zhu ⟨yfd,91,yrY⟩ 4 yxN 500 yb5 yfl yfE x=ycu x:=by kernel_rfl
def ywi (x:(yfw).X):Nat:=18446744073709551616
def yoc (x:(yfw).X):Option ((yfl).X ⊕ (yfE).X):=zF ycu (ywi x) (yv7 x)
def ywB:Seg:=⟨yfw,yfl,yfE,yoc⟩
def yN9:Nat→Option Seg:=fun q=>bif Nat.beq q 125 then some ywB else yrY q
theorem yLI:FrOk prog ⟨yfd,91,yN9⟩ ybQ:=(yLH).loop (sg:=ywB) yb5 yv7 (by decide) yHQ ycu ywi (by decide) (fun _=>rfl) (fun x r _ h=>h) yKn
abbrev ypZ:List Par:= [.rd tM]
abbrev yxw:List OT:= [⟨false,tB,.fz⟩]
def ys0 (a0:dM):Option (zaY yxw×zak ypZ) :=zkt (ypK ((((),()),((a0.1.length:Int),()),((),()),()),((a0.1,a0.2.1,a0.2.2.1,a0.2.2.2,()),()),())) (fun y2 =>zkt (ypL ((((),()),(y2.1.2.1.1,()),((),()),()),((y2.2.1.1.1,y2.2.1.1.2.1,y2.2.1.1.2.2.1,y2.2.1.1.2.2.2.1,()),()),())) (fun y7 =>zkt (yoc ((((),()),(y7.1.2.1.1,()),((),()),()),((y7.2.1.1.1,y7.2.1.1.2.1,y7.2.1.1.2.2.1,y7.2.1.1.2.2.2.1,()),()),())) (fun y10 =>let r12:=ya y10.1.2.1.1 1 20;bif r12 then some (((leb (y10.2.1.1.2.1.length:Int) 60),()),()) else some ((false,()),())) (fun y10 =>some ((y10.1.1.1,()),()))) (fun y7 =>some ((y7.1.1.1,()),()))) (fun y2 =>some ((y2.1.1.1,()),()))
theorem yPq:ConOk prog 160 ⟨ypZ,yxw,fun x=>ys0 x.1⟩:=zkI (yLI) func160 ntmps160.symm fun x=>by kernel_rfl
def yas (a0:dM):Bool:=yu a0
theorem yRG (a0:dM) (hk:zjx ypZ (a0,())):ys0 a0=(fun n=>some ((n,()),())) (yas a0):=by
 have hb1:a0.1.length*24≤2^47:=hk.1.1.1;have hb2:a0.2.1.length*32≤2^47:=hk.1.2.1.1;have hb3:a0.2.2.2.length*8≤2^47:=hk.1.2.2.2.1
 have h1:ypK (yI5 a0.1.length a0)=some (bif a0.1.all yad then .inl (yIW a0.1.length a0)else .inr (yJh false)) :=
  zj9 (step:=yc9) a0.1 [] (fun i=>yow a0.1.length i a0) yad _ _ (fun i hi=>by
   simp only[yc9,yow,yo1,zky (show(i:Int)<a0.1.length by omega),cond_true,wq ((i:Int)+1) (by omega) (by omega),Int.natCast_add,Int.natCast_one,Int.toNat_natCast,zkR hi,zkS,yA8]
   cases yad (a0.1.getD i [])<;>rfl) (by simp only[yc9,yow,yo1,zk3 (Int.le_refl _),cond_false]) _ (by show _<18446744073709551616; omega)
 have h2:ypL (yI6 a0.1.length a0)=some (bif a0.2.1.all (yo9 a0.1.length)then .inl (yIX a0.1.length a0)else .inr (yJi false)) :=
  zj9 (step:=yda) a0.2.1 (0,[]) (fun i=>yox a0.1.length i a0) (yo9 a0.1.length) _ _ (fun i hi=>by
   simp only[yda,yox,yo2,zky (show(i:Int)<a0.2.1.length by omega),cond_true,wq ((i:Int)+1) (by omega) (by omega),Int.natCast_add,Int.natCast_one,Int.toNat_natCast,zkR hi,zkS,yA8,yh8 (show a0.1.length≤1152921504606846976 by omega),yo9]
   cases inb (a0.2.1.getD i (0,[])).1 a0.1.length<;>cases yad (a0.2.1.getD i (0,[])).2<;>rfl) (by simp only[yda,yox,yo2,zk3 (Int.le_refl _),cond_false]) _ (by show _<18446744073709551616; omega)
 have h3:yoc (yGz a0.1.length a0)=some (bif(List.range a0.2.2.2.length).any (yzD a0.1.length a0.2.2.2)then .inr (yGG false)else .inl (yGs a0.1.length a0)) :=
  zji (step:=ycu) (fun i=>ymM a0.1.length i a0) a0.2.2.2.length (yzD a0.1.length a0.2.2.2) _ _ (fun i hi=>by
   simp only[ycu,ymM,yng,zky (show(i:Int)<a0.2.2.2.length by omega),cond_true,wq ((i:Int)+1) (by omega) (by omega),Int.natCast_add,Int.natCast_one,Int.toNat_natCast,zkR hi,zkS,yh8 (show a0.1.length≤1152921504606846976 by omega),yzD];rcases Nat.eq_zero_or_pos i with rfl | h0
   ·cases inb (a0.2.2.2.getD 0 0) a0.1.length<;>rfl
   ·rw[show i64.wrap ((i:Int)-1)=((i-1:Nat):Int)by rw[wr (by omega) (by omega)]; omega,zkR (show i-1<a0.2.2.2.length by omega),zkS,zky (show(0:Int)<i by omega),decide_eq_true h0]
    cases inb (a0.2.2.2.getD i 0) a0.1.length<;>cases leb (a0.2.2.2.getD i 0) (a0.2.2.2.getD (i-1) 0)<;>rfl) (by simp only[ycu,ymM,yng,zk3 (Int.le_refl _),cond_false]) _ (by show _<18446744073709551616; omega)
 unfold ys0 yas yu;rw[h1];cases a0.1.all yad
 ·rfl
 simp only[cond_true,zkN,h2];cases a0.2.1.all (yo9 a0.1.length)
 ·rfl
 simp only[cond_true,zkN,h3,yQa,ybA];cases yl7 a0.1.length a0.2.2.2
 ·rfl
 simp only[Bool.not_true,cond_false,zkN];cases leb 1 (a0.1.length:Int)<;>cases leb (a0.1.length:Int) 20<;>rfl
def ye6:Con:=⟨ypZ,yxw,fun x=>(fun n=>some ((n,()),())) (yas x.1)⟩
theorem yjD:ConOk prog 160 ye6:=(yPq).mono (fun x r hk h=>(yRG x.1 hk).trans h)
def yQY:Code:=(f178.body).getD .skip
def yRr:Env:=zkw TT [] []
theorem yIE:FrOk prog ⟨yRr,6,fun _=>none⟩ yQY:=zkA mixed yc trivial
abbrev yuJ:List Par:= [.rd tG]
abbrev yve:List OT:= [⟨false,tI,.fz⟩]
def yAK (a0:dG):Option (zaY yve×zak yuJ) :=some (((i64.wrap (6+a0.2)),()),())
theorem yM7:ConOk prog 178 ⟨yuJ,yve,fun x=>yAK x.1⟩:=zkI (yIE) func178 ntmps178.symm fun x=>by kernel_rfl
def ybZ (a0:dG):Int :=(i64.wrap (6+a0.2))
def ykK:Con:=⟨yuJ,yve,fun x=>(fun n=>some ((n,()),())) (ybZ x.1)⟩
theorem yPa (a0:dG):yAK a0=(fun n=>some ((n,()),())) (ybZ a0):=zkV (p:=fun(n:Int)=>((n,()),())) rfl
theorem ysM:ConOk prog 178 ykK:=(yM7).mono (fun x r _ h=>(yPa x.1).trans h)
def ynC:Code:=(f151.body).getD .skip
def yun:Env:=zkw TT [(160,ye6),(178,ykK)] []
theorem yIC:FrOk prog ⟨yun,51,fun _=>none⟩ ynC:=zkA mixed yc ⟨yjD,ysM,trivial⟩
def yzz:Nat→Option Seg:=fun _=>none
def yca:Shape:=⟨[(1,false,[.ptr 0 0]),(3,false,[.int .i64])],[(0,[.int .i64,.int .i64,.int .i64,.br tM,.int .i64,.int .i64,.int .i64,.int .i64,.int .i64,.br tW,.int .i64,.bool,.bool])],[]⟩
def yfB:Shape:=⟨[(1,false,[.ptr 0 0]),(3,false,[.ci .i64 0])],[(0,[.int .i64,.int .i64,.int .i64,.br tM,.int .i64,.int .i64,.int .i64,.int .i64,.int .i64,.br tW,.int .i64,.bool,.bool])],[]⟩
def yfq:Shape:=⟨[(1,false,[.ptr 0 0])],[(0,[.int .i64,.int .i64,.int .i64,.br tM,.int .i64,.int .i64,.int .i64,.int .i64,.int .i64,.br tW,.int .i64,.bool,.bool])],[]⟩
def yfF:Shape:=⟨[(2,false,[.bool])],[],[]⟩
abbrev ymQ (v0:Int) (v1:dA):(yca).X:=((((),()),(v0,()),()),((v1.1,v1.2.1.1,v1.2.1.2,v1.2.2.1,v1.2.2.2.1,v1.2.2.2.2.1,v1.2.2.2.2.2.1,v1.2.2.2.2.2.2.1,v1.2.2.2.2.2.2.2.1,v1.2.2.2.2.2.2.2.2.1,v1.2.2.2.2.2.2.2.2.2.1,v1.2.2.2.2.2.2.2.2.2.2.1,v1.2.2.2.2.2.2.2.2.2.2.2,()),()),())
abbrev yGD (v0:dA):(yfB).X:=((((),()),((),()),()),((v0.1,v0.2.1.1,v0.2.1.2,v0.2.2.1,v0.2.2.2.1,v0.2.2.2.2.1,v0.2.2.2.2.2.1,v0.2.2.2.2.2.2.1,v0.2.2.2.2.2.2.2.1,v0.2.2.2.2.2.2.2.2.1,v0.2.2.2.2.2.2.2.2.2.1,v0.2.2.2.2.2.2.2.2.2.2.1,v0.2.2.2.2.2.2.2.2.2.2.2,()),()),())
abbrev yGu (v0:dA):(yfq).X:=((((),()),()),((v0.1,v0.2.1.1,v0.2.1.2,v0.2.2.1,v0.2.2.2.1,v0.2.2.2.2.1,v0.2.2.2.2.2.1,v0.2.2.2.2.2.2.1,v0.2.2.2.2.2.2.2.1,v0.2.2.2.2.2.2.2.2.1,v0.2.2.2.2.2.2.2.2.2.1,v0.2.2.2.2.2.2.2.2.2.2.1,v0.2.2.2.2.2.2.2.2.2.2.2,()),()),())
abbrev yGH (v0:Bool):(yfF).X:=(((v0,()),()),(),())
def ynk (v0 v1 v2 v3:Int) (v4:List dM) (v5 v6 v7 v8 v9:Int) (v10:List dW) (v11:Int) (v12 v13:Bool):Option ((yca).X ⊕ ((yfq).X ⊕ (yfF).X)) :=bif(ltb v0 (v4.length:Int))then bif(inb v0 v4.length)then let r3:=yas ((nth v4 v0 ([],[],false,[])).1,((nth v4 v0 ([],[],false,[])).2).1,(((nth v4 v0 ([],[],false,[])).2).2));bif(!(!r3))then let r4:=ybZ (v2,v3);bif(!((((nth v4 v0 ([],[],false,[])).1).length:Int) !=r4))then bif(((nth v4 v0 ([],[],false,[])).2).2).1 then bif(v0 !=v5)then bif(!v13)then some (.inr (.inr (((false,()),()),(),()))) else some (.inl ((((),()),((i64.wrap (v0+1)),()),()),((v1,v2,v3,v4,v5,v6,v7,v8,v9,v10,v11,v12,v13,()),()),())) else some (.inl ((((),()),((i64.wrap (v0+1)),()),()),((v1,v2,v3,v4,v5,v6,v7,v8,v9,v10,v11,v12,v13,()),()),())) else some (.inl ((((),()),((i64.wrap (v0+1)),()),()),((v1,v2,v3,v4,v5,v6,v7,v8,v9,v10,v11,v12,v13,()),()),())) else some (.inr (.inr (((false,()),()),(),()))) else some (.inr (.inr (((false,()),()),(),()))) else none else some (.inr (.inl ((((),()),()),((v1,v2,v3,v4,v5,v6,v7,v8,v9,v10,v11,v12,v13,()),()),())))
def ycy (x:(yca).X):=ynk x.1.2.1.1 x.2.1.1.1 x.2.1.1.2.1 x.2.1.1.2.2.1 x.2.1.1.2.2.2.1 x.2.1.1.2.2.2.2.1 x.2.1.1.2.2.2.2.2.1 x.2.1.1.2.2.2.2.2.2.1 x.2.1.1.2.2.2.2.2.2.2.1 x.2.1.1.2.2.2.2.2.2.2.2.1 x.2.1.1.2.2.2.2.2.2.2.2.2.1 x.2.1.1.2.2.2.2.2.2.2.2.2.2.1 x.2.1.1.2.2.2.2.2.2.2.2.2.2.2.1 x.2.1.1.2.2.2.2.2.2.2.2.2.2.2.2.1
def ywc (x:(yfB).X):(yca).X:=((((),()),(0,()),()),((x.2.1.1.1,x.2.1.1.2.1,x.2.1.1.2.2.1,x.2.1.1.2.2.2.1,x.2.1.1.2.2.2.2.1,x.2.1.1.2.2.2.2.2.1,x.2.1.1.2.2.2.2.2.2.1,x.2.1.1.2.2.2.2.2.2.2.1,x.2.1.1.2.2.2.2.2.2.2.2.1,x.2.1.1.2.2.2.2.2.2.2.2.2.1,x.2.1.1.2.2.2.2.2.2.2.2.2.2.1,x.2.1.1.2.2.2.2.2.2.2.2.2.2.2.1,x.2.1.1.2.2.2.2.2.2.2.2.2.2.2.2.1,()),()),())
def yxS:Code:=(zd7 ynC 64 52).getD .skip
theorem yHV:zd7 ynC 64 13=some (.block 0 (.loop yxS)):=by kernel_rfl
theorem yKs (x:(yca).X):zhu ⟨yun,51,yzz⟩ 0 yxS 52 yca yfq yfF x=ycy x:=by kernel_rfl
def ywn (x:(yfB).X):Nat:=18446744073709551616
def yog (x:(yfB).X):Option ((yfq).X ⊕ (yfF).X):=zF ycy (ywn x) (ywc x)
def ywG:Seg:=⟨yfB,yfq,yfF,yog⟩
def yKP:Nat→Option Seg:=fun q=>bif Nat.beq q 13 then some ywG else yzz q
theorem yID:FrOk prog ⟨yun,51,yKP⟩ ynC:=(yIC).loop (sg:=ywG) yca ywc (by decide) yHV ycy ywn (by decide) (fun _=>rfl) (fun x r _ h=>h) yKs
abbrev yjm:List Par:= [.rd tA]
abbrev ynW:List OT:= [⟨false,tB,.fz⟩]
def yrd (a0:dA):Option (zaY ynW×zak yjm) :=zkt (yog ((((),()),((),()),()),((a0.1,a0.2.1.1,a0.2.1.2,a0.2.2.1,a0.2.2.2.1,a0.2.2.2.2.1,a0.2.2.2.2.2.1,a0.2.2.2.2.2.2.1,a0.2.2.2.2.2.2.2.1,a0.2.2.2.2.2.2.2.2.1,a0.2.2.2.2.2.2.2.2.2.1,a0.2.2.2.2.2.2.2.2.2.2.1,a0.2.2.2.2.2.2.2.2.2.2.2,()),()),())) (fun y4 =>some ((((y4.2.1.1.2.2.2.1.length:Int)==y4.2.1.1.2.1),()),())) (fun y4 =>some ((y4.1.1.1,()),()))
theorem yM6:ConOk prog 151 ⟨yjm,ynW,fun x=>yrd x.1⟩:=zkI (yID) func151 ntmps151.symm fun x=>by kernel_rfl
def yjy (a0:dA):Bool:=yjs a0
def yvu (a0:dA):Bool:=yd a0.2.1
theorem yO9 (a0:dA) (hk:zjx yjm (a0,())) (hq:yvu a0=true):yrd a0=(fun n=>some ((n,()),())) (yjy a0):=by
 have hb:a0.2.2.1.length*80≤2^47:=hk.1.2.2.1.1;have hg:=yl.1 hq
 have h1:yog (yGD a0)=some (bif(List.range a0.2.2.1.length).any (yfJ a0)then .inr (yGH false)else .inl (yGu a0)) :=
  zji (step:=ycy) (fun i=>ymQ i a0) a0.2.2.1.length (yfJ a0) _ _ (fun i hi=>by
   simp only[ycy,ymQ,ynk,zky (show(i:Int)<a0.2.2.1.length by omega),cond_true,wq ((i:Int)+1) (by omega) (by omega),Int.natCast_add,Int.natCast_one,Int.toNat_natCast,zkR hi,zkX,yas,yfJ,ybZ,wq (6+a0.2.1.2) (by omega) (by omega),yf]
   cases yu (nth a0.2.2.1 i ([],[],false,[]))<;>cases(((nth a0.2.2.1 i ([],[],false,[])).1.length:Int) !=6+a0.2.1.2)<;>cases(nth a0.2.2.1 i ([],[],false,[])).2.2.1<;>cases((i:Int) !=a0.2.2.2.1)<;>cases a0.2.2.2.2.2.2.2.2.2.2.2<;>rfl) (by simp only[ycy,ymQ,ynk,zk3 (Int.le_refl _),cond_false]) _ (by show _<18446744073709551616; omega)
 unfold yrd yjy yjs;rw[h1];cases(List.range a0.2.2.1.length).any (yfJ a0)<;>rfl
def yn3 (a0:dA):Option (zaY ynW×zak yjm):=bif yvu a0 then(fun n=>some ((n,()),())) (yjy a0)else none
theorem yP1 (a0:dA) (h:yvu a0=true):yn3 a0=(fun n=>some ((n,()),())) (yjy a0):=by unfold yn3; rw[h]; rfl
def yAa:Con:=⟨yjm,ynW,fun x=>yn3 x.1⟩
theorem yPU:ConOk prog 151 yAa:=(yM6).mono (fun x r hk h=>zkY h (fun hq=>yO9 x.1 hk hq))
def ylQ:Code:=(f152.body).getD .skip
def yr5:Env:=zkw TT [(82,yz),(200,yfH)] []
theorem yGi:FrOk prog ⟨yr5,57,fun _=>none⟩ ylQ:=zkA mixed yc ⟨yF,ykT,trivial⟩
def yw4:Nat→Option Seg:=fun _=>none
def ybv:Shape:=⟨[(1,false,[.ptr 0 0]),(3,false,[.int .i64])],[(0,[.int .i64,.int .i64,.int .i64,.br tM,.int .i64,.int .i64,.int .i64,.int .i64,.int .i64,.br tW,.int .i64,.bool,.bool])],[]⟩
def yeL:Shape:=⟨[(1,false,[.ptr 0 0]),(3,false,[.ci .i64 0])],[(0,[.int .i64,.int .i64,.int .i64,.br tM,.int .i64,.int .i64,.int .i64,.int .i64,.int .i64,.br tW,.int .i64,.bool,.bool])],[]⟩
def yeC:Shape:=⟨[],[],[]⟩
def yeP:Shape:=⟨[(2,false,[.bool])],[],[]⟩
abbrev yln (v0:Int) (v1:dA):(ybv).X:=((((),()),(v0,()),()),((v1.1,v1.2.1.1,v1.2.1.2,v1.2.2.1,v1.2.2.2.1,v1.2.2.2.2.1,v1.2.2.2.2.2.1,v1.2.2.2.2.2.2.1,v1.2.2.2.2.2.2.2.1,v1.2.2.2.2.2.2.2.2.1,v1.2.2.2.2.2.2.2.2.2.1,v1.2.2.2.2.2.2.2.2.2.2.1,v1.2.2.2.2.2.2.2.2.2.2.2,()),()),())
abbrev yEy (v0:dA):(yeL).X:=((((),()),((),()),()),((v0.1,v0.2.1.1,v0.2.1.2,v0.2.2.1,v0.2.2.2.1,v0.2.2.2.2.1,v0.2.2.2.2.2.1,v0.2.2.2.2.2.2.1,v0.2.2.2.2.2.2.2.1,v0.2.2.2.2.2.2.2.2.1,v0.2.2.2.2.2.2.2.2.2.1,v0.2.2.2.2.2.2.2.2.2.2.1,v0.2.2.2.2.2.2.2.2.2.2.2,()),()),())
abbrev yEp  :(yeC).X:=((),(),())
abbrev yEB (v0:Bool):(yeP).X:=(((v0,()),()),(),())
def ylH (v0 v1 v2 v3:Int) (v4:List dM) (v5 v6 v7 v8 v9:Int) (v10:List dW) (v11:Int) (v12 v13:Bool):Option ((ybv).X ⊕ ((yeC).X ⊕ (yeP).X)) :=bif(ltb v0 (v10.length:Int))then bif(inb v0 v10.length)then let r3:=ya ((nth v10 v0 (0,[])).1) 0 (i64.wrap (v3-1));bif(!(!r3))then bif(!((((nth v10 v0 (0,[])).2).length:Int) !=(i64.wrap (v2-1))))then let r4:=yZ ((nth v10 v0 (0,[])).2);bif(!(!r4))then bif(ltb 0 v0)then bif(inb (i64.wrap (v0-1)) v10.length)then bif(leb ((nth v10 v0 (0,[])).1) ((nth v10 (i64.wrap (v0-1)) (0,[])).1))then some (.inr (.inr (((false,()),()),(),()))) else some (.inl ((((),()),((i64.wrap (v0+1)),()),()),((v1,v2,v3,v4,v5,v6,v7,v8,v9,v10,v11,v12,v13,()),()),())) else none else some (.inl ((((),()),((i64.wrap (v0+1)),()),()),((v1,v2,v3,v4,v5,v6,v7,v8,v9,v10,v11,v12,v13,()),()),())) else some (.inr (.inr (((false,()),()),(),()))) else some (.inr (.inr (((false,()),()),(),()))) else some (.inr (.inr (((false,()),()),(),()))) else none else some (.inr (.inl ((),(),())))
def ybN (x:(ybv).X):=ylH x.1.2.1.1 x.2.1.1.1 x.2.1.1.2.1 x.2.1.1.2.2.1 x.2.1.1.2.2.2.1 x.2.1.1.2.2.2.2.1 x.2.1.1.2.2.2.2.2.1 x.2.1.1.2.2.2.2.2.2.1 x.2.1.1.2.2.2.2.2.2.2.1 x.2.1.1.2.2.2.2.2.2.2.2.1 x.2.1.1.2.2.2.2.2.2.2.2.2.1 x.2.1.1.2.2.2.2.2.2.2.2.2.2.1 x.2.1.1.2.2.2.2.2.2.2.2.2.2.2.1 x.2.1.1.2.2.2.2.2.2.2.2.2.2.2.2.1
def ytF (x:(yeL).X):(ybv).X:=((((),()),(0,()),()),((x.2.1.1.1,x.2.1.1.2.1,x.2.1.1.2.2.1,x.2.1.1.2.2.2.1,x.2.1.1.2.2.2.2.1,x.2.1.1.2.2.2.2.2.1,x.2.1.1.2.2.2.2.2.2.1,x.2.1.1.2.2.2.2.2.2.2.1,x.2.1.1.2.2.2.2.2.2.2.2.1,x.2.1.1.2.2.2.2.2.2.2.2.2.1,x.2.1.1.2.2.2.2.2.2.2.2.2.2.1,x.2.1.1.2.2.2.2.2.2.2.2.2.2.2.1,x.2.1.1.2.2.2.2.2.2.2.2.2.2.2.2.1,()),()),())
def yvO:Code:=(zd7 ylQ 64 52).getD .skip
theorem yFO:zd7 ylQ 64 13=some (.block 0 (.loop yvO)):=by kernel_rfl
theorem yHl (x:(ybv).X):zhu ⟨yr5,57,yw4⟩ 0 yvO 52 ybv yeC yeP x=ybN x:=by kernel_rfl
def ytS (x:(yeL).X):Nat:=18446744073709551616
def ymx (x:(yeL).X):Option ((yeC).X ⊕ (yeP).X):=zF ybN (ytS x) (ytF x)
def yue:Seg:=⟨yeL,yeC,yeP,ymx⟩
def yHH:Nat→Option Seg:=fun q=>bif Nat.beq q 13 then some yue else yw4 q
theorem yGj:FrOk prog ⟨yr5,57,yHH⟩ ylQ:=(yGi).loop (sg:=yue) ybv ytF (by decide) yFO ybN ytS (by decide) (fun _=>rfl) (fun x r _ h=>h) yHl
abbrev yhU:List Par:= [.rd tA]
abbrev yl3:List OT:= [⟨false,tB,.fz⟩]
def yoS (a0:dA):Option (zaY yl3×zak yhU) :=zkt (ymx ((((),()),((),()),()),((a0.1,a0.2.1.1,a0.2.1.2,a0.2.2.1,a0.2.2.2.1,a0.2.2.2.2.1,a0.2.2.2.2.2.1,a0.2.2.2.2.2.2.1,a0.2.2.2.2.2.2.2.1,a0.2.2.2.2.2.2.2.2.1,a0.2.2.2.2.2.2.2.2.2.1,a0.2.2.2.2.2.2.2.2.2.2.1,a0.2.2.2.2.2.2.2.2.2.2.2,()),()),())) (fun y4 =>some ((true,()),())) (fun y4 =>some ((y4.1.1.1,()),()))
theorem yJX:ConOk prog 152 ⟨yhU,yl3,fun x=>yoS x.1⟩:=zkI (yGj) func152 ntmps152.symm fun x=>by kernel_rfl
def yip (a0:dA):Bool:=yaH a0.2.1 a0.2.2.2.2.2.2.2.2.1
def ysS (a0:dA):Bool:=yd a0.2.1
theorem yf9 (l:List Int):yZ l=l.all isW:=by
 unfold yZ;rw[show yam=isW from funext fun x=>by unfold yam; rw[ybA]; rfl]
theorem yMw (a0:dA) (hk:zjx yhU (a0,())) (hq:ysS a0=true):yoS a0=(fun n=>some ((n,()),())) (yip a0):=by
 have hb:a0.2.2.2.2.2.2.2.2.1.length*32≤2^47:=hk.1.2.2.2.2.2.2.2.2.1.1;have hg:=yl.1 hq
 have h1:ymx (yEy a0)=some (bif(List.range a0.2.2.2.2.2.2.2.2.1.length).any (yf2 a0.2.1 a0.2.2.2.2.2.2.2.2.1)then .inr (yEB false)else .inl yEp) :=
  zji (step:=ybN) (fun i=>yln i a0) a0.2.2.2.2.2.2.2.2.1.length (yf2 a0.2.1 a0.2.2.2.2.2.2.2.2.1) _ _ (fun i hi=>by
   simp only[ybN,yln,ylH,zky (show(i:Int)<a0.2.2.2.2.2.2.2.2.1.length by omega),cond_true,wq ((i:Int)+1) (by omega) (by omega),Int.natCast_add,Int.natCast_one,Int.toNat_natCast,zkR hi,ybA,yf9,wq (a0.2.1.2-1) (by omega) (by omega),wq (a0.2.1.1-1) (by omega) (by omega),yf2];rcases Nat.eq_zero_or_pos i with rfl | h0
   ·cases(leb 0 (nth a0.2.2.2.2.2.2.2.2.1 ((0:Nat):Int) (0,[])).1&&leb (nth a0.2.2.2.2.2.2.2.2.1 ((0:Nat):Int) (0,[])).1 (a0.2.1.2-1))<;>cases(((nth a0.2.2.2.2.2.2.2.2.1 ((0:Nat):Int) (0,[])).2.length:Int) !=a0.2.1.1-1)<;>cases((nth a0.2.2.2.2.2.2.2.2.1 ((0:Nat):Int) (0,[])).2.all isW)<;>rfl
   ·rw[show i64.wrap ((i:Int)-1)=((i-1:Nat):Int)by rw[wr (by omega) (by omega)]; omega,zkR (show i-1<a0.2.2.2.2.2.2.2.2.1.length by omega),zky (show(0:Int)<i by omega),decide_eq_true h0]
    cases(leb 0 (nth a0.2.2.2.2.2.2.2.2.1 (i:Int) (0,[])).1&&leb (nth a0.2.2.2.2.2.2.2.2.1 (i:Int) (0,[])).1 (a0.2.1.2-1))<;>cases(((nth a0.2.2.2.2.2.2.2.2.1 (i:Int) (0,[])).2.length:Int) !=a0.2.1.1-1)<;>cases((nth a0.2.2.2.2.2.2.2.2.1 (i:Int) (0,[])).2.all isW)<;>cases leb (nth a0.2.2.2.2.2.2.2.2.1 (i:Int) (0,[])).1 (nth a0.2.2.2.2.2.2.2.2.1 ((i-1:Nat):Int) (0,[])).1<;>rfl) (by simp only[ybN,yln,ylH,zk3 (Int.le_refl _),cond_false]) _ (by show _<18446744073709551616; omega)
 unfold yoS yip yaH;rw[h1];cases(List.range a0.2.2.2.2.2.2.2.2.1.length).any (yf2 a0.2.1 a0.2.2.2.2.2.2.2.2.1)<;>rfl
def ymh (a0:dA):Option (zaY yl3×zak yhU):=bif ysS a0 then(fun n=>some ((n,()),())) (yip a0)else none
theorem yNx (a0:dA) (h:ysS a0=true):ymh a0=(fun n=>some ((n,()),())) (yip a0):=by unfold ymh; rw[h]; rfl
def yx8:Con:=⟨yhU,yl3,fun x=>ymh x.1⟩
theorem yNs:ConOk prog 152 yx8:=(yJX).mono (fun x r hk h=>zkY h (fun hq=>yMw x.1 hk hq))
def ySh:Code:=(f78.body).getD .skip
def ySs:Env:=zkw TT [(82,yz),(150,ye5),(151,yAa),(152,yx8)] []
theorem yLD:FrOk prog ⟨ySs,78,fun _=>none⟩ ySh:=zkA mixed yc ⟨yF,yjC,yPU,yNs,trivial⟩
abbrev ypY:List Par:= [.rd tA]
abbrev yxu:List OT:= [⟨false,tB,.fz⟩]
def ysZ (a0:dA):Option (zaY yxu×zak ypY) :=let r1:=yd a0.2.1;bif(!(!r1))then let r2:=ya a0.1 1 60000;bif(!(!r2))then bnd (yn3 a0) fun r3 =>bif(!(!r3.1.1))then bnd (ymh a0) fun r4 =>bif(!r4.1.1)then some ((false,()),()) else let r5:=ya a0.2.2.2.1 (-1) (i64.wrap (a0.2.1.1-1));bif(!(!r5))then let r6:=ya a0.2.2.2.2.1 0 a0.2.1.2;bif(!(!r6))then bif(a0.2.2.2.1==(-1))then bif(a0.2.2.2.2.1 !=0)then some ((false,()),()) else let r7:=ya a0.2.2.2.2.2.2.1 0 60000;bif r7 then let r8:=ya a0.2.2.2.2.2.1 a0.2.2.2.2.2.2.1 60000;bif r8 then bif(leb a0.2.2.2.2.2.1 (i64.wrap (a0.2.2.2.2.2.2.1+4)))then let r9:=ya a0.2.2.2.2.2.2.2.1 0 60000;bif r9 then let r10:=ya a0.2.2.2.2.2.2.2.2.2.1 (-1) 1000;some ((r10,()),()) else some ((false,()),()) else some ((false,()),()) else some ((false,()),()) else some ((false,()),()) else let r11:=ya a0.2.2.2.2.2.2.1 0 60000;bif r11 then let r12:=ya a0.2.2.2.2.2.1 a0.2.2.2.2.2.2.1 60000;bif r12 then bif(leb a0.2.2.2.2.2.1 (i64.wrap (a0.2.2.2.2.2.2.1+4)))then let r13:=ya a0.2.2.2.2.2.2.2.1 0 60000;bif r13 then let r14:=ya a0.2.2.2.2.2.2.2.2.2.1 (-1) 1000;some ((r14,()),()) else some ((false,()),()) else some ((false,()),()) else some ((false,()),()) else some ((false,()),()) else some ((false,()),()) else some ((false,()),()) else some ((false,()),()) else some ((false,()),()) else some ((false,()),())
theorem yPo:ConOk prog 78 ⟨ypY,yxu,fun x=>ysZ x.1⟩:=zkI (yLD) func78 ntmps78.symm fun x=>by kernel_rfl
def yd5 (a0:dA):Bool:=ya2 a0
theorem yRE (a0:dA) (hk:zjx ypY (a0,())):ysZ a0=(fun n=>some ((n,()),())) (yd5 a0):=by
 unfold ysZ yd5 ya2;simp only[ybA];cases hg:yd a0.2.1
 ·rfl
 have hg2:=yl.1 hg;rw[yP1 a0 hg,yNx a0 hg,wq (a0.2.1.1-1) (by omega) (by omega)];simp only[zkH,yjy,yip,Bool.not_not,cond_true];cases(leb 1 a0.1&&leb a0.1 60000)
 ·rfl
 cases yjs a0
 ·rfl
 cases yaH a0.2.1 a0.2.2.2.2.2.2.2.2.1
 ·rfl
 cases(leb (-1) a0.2.2.2.1&&leb a0.2.2.2.1 (a0.2.1.1-1))
 ·rfl
 cases(leb 0 a0.2.2.2.2.1&&leb a0.2.2.2.2.1 a0.2.1.2)
 ·rfl
 have ht:(leb 0 a0.2.2.2.2.2.2.1&&leb a0.2.2.2.2.2.2.1 60000)=true→i64.wrap (a0.2.2.2.2.2.2.1+4)=a0.2.2.2.2.2.2.1+4:=fun h=>by
  rw[Bool.and_eq_true,zj7,zj7]at h;exact wr (by omega) (by omega)
 cases hT:(leb 0 a0.2.2.2.2.2.2.1&&leb a0.2.2.2.2.2.2.1 60000)
 ·cases(a0.2.2.2.1== -1)<;>cases(a0.2.2.2.2.1 !=0)<;>rfl
 rw[ht hT];cases(leb a0.2.2.2.2.2.2.1 a0.2.2.2.2.2.1&&leb a0.2.2.2.2.2.1 60000)
 ·cases(a0.2.2.2.1== -1)<;>cases(a0.2.2.2.2.1 !=0)<;>rfl
 cases leb a0.2.2.2.2.2.1 (a0.2.2.2.2.2.2.1+4)
 ·cases(a0.2.2.2.1== -1)<;>cases(a0.2.2.2.2.1 !=0)<;>rfl
 cases(leb 0 a0.2.2.2.2.2.2.2.1&&leb a0.2.2.2.2.2.2.2.1 60000)<;>cases(a0.2.2.2.1== -1)<;>cases(a0.2.2.2.2.1 !=0)<;>rfl
def yBt:Con:=⟨ypY,yxu,fun x=>(fun n=>some ((n,()),())) (yd5 x.1)⟩
theorem yRW:ConOk prog 78 yBt:=(yPo).mono (fun x r hk h=>(yRE x.1 hk).trans h)
def yQS:Code:=(f91.body).getD .skip
def yRl:Env:=zkw TT [] []
theorem yIp:FrOk prog ⟨yRl,8,fun _=>none⟩ yQS:=zkA mixed yc trivial
abbrev yuC:List Par:= [.rd tI]
abbrev yu6:List OT:= [⟨false,tI,.fz⟩]
def yAH (a0:Int):Option (zaY yu6×zak yuC) :=bif(ltb a0 0)then some (((-1),()),()) else some (((i64.wrap (2+(a0.tmod 4))),()),())
theorem yMX:ConOk prog 91 ⟨yuC,yu6,fun x=>yAH x.1⟩:=zkI (yIp) func91 ntmps91.symm fun x=>by kernel_rfl
def yN (a0:Int):Int :=bif(ltb a0 0)then (-1) else (i64.wrap (2+(a0.tmod 4)))
def yz2:Con:=⟨yuC,yu6,fun x=>(fun n=>some ((n,()),())) (yN x.1)⟩
theorem yO4 (a0:Int):yAH a0=(fun n=>some ((n,()),())) (yN a0):=zkV (p:=fun(n:Int)=>((n,()),())) (zkG (p:=fun(n:Int)=>((n,()),())) rfl rfl)
theorem yPM:ConOk prog 91 yz2:=(yMX).mono (fun x r _ h=>(yO4 x.1).trans h)
def yQN:Code:=(f119.body).getD .skip
def yRg:Env:=zkw TT [(150,ye5)] []
theorem yIi:FrOk prog ⟨yRg,12,fun _=>none⟩ yQN:=zkA mixed yc ⟨yjC,trivial⟩
abbrev yuA:List Par:= [.rd tG]
abbrev yu0:List OT:= [⟨false,tI,.fz⟩]
def yAF (a0:dG):Option (zaY yu0×zak yuA) :=let r1:=yd a0;bif(!r1)then some ((0,()),()) else some (((i64.wrap (a0.2*(i64.wrap (a0.1-1)))),()),())
theorem yMR:ConOk prog 119 ⟨yuA,yu0,fun x=>yAF x.1⟩:=zkI (yIi) func119 ntmps119.symm fun x=>by kernel_rfl
def yw (a0:dG):Int :=let r1:=yd a0;bif(!r1)then 0 else (i64.wrap (a0.2*(i64.wrap (a0.1-1))))
def ykJ:Con:=⟨yuA,yu0,fun x=>(fun n=>some ((n,()),())) (yw x.1)⟩
theorem yOY (a0:dG):yAF a0=(fun n=>some ((n,()),())) (yw a0):=zkV (p:=fun(n:Int)=>((n,()),())) (zkG (p:=fun(n:Int)=>((n,()),())) rfl rfl)
theorem ysL:ConOk prog 119 ykJ:=(yMR).mono (fun x r _ h=>(yOY x.1).trans h)
theorem yP6 (a:Int×Int):0≤yw a∧yw a≤32:=by
 unfold yw;cases h:yd a
 ·simp
 ·obtain⟨⟨h1,h2⟩,h3,h4⟩:=yl.1 h
  have h5:0≤a.2*(a.1-1):=Int.mul_nonneg (by omega) (by omega);have h6:a.2*(a.1-1)≤8*4:=Int.mul_le_mul h4 (by omega) (by omega) (by omega);simp only[Bool.not_true,cond_false,wq (a.1-1) (by omega) (by omega),wq (a.2*(a.1-1)) (by omega) (by omega)];omega
theorem yB7 {a:Int×Int} (h:yd a=true):yw a=a.2*(a.1-1):=by
 unfold yw;obtain⟨⟨h1,h2⟩,h3,h4⟩:=yl.1 h;have h5:0≤a.2*(a.1-1):=Int.mul_nonneg (by omega) (by omega);have h6:a.2*(a.1-1)≤8*4:=Int.mul_le_mul h4 (by omega) (by omega) (by omega);simp only[h,Bool.not_true,cond_false,wq (a.1-1) (by omega) (by omega),wq (a.2*(a.1-1)) (by omega) (by omega)]
def yaa (l:List dW) (s:Int):Int:=yag (fun e:dW=>e.1==s) l
def ykF (g:dG) (b:Int):Bool:=leb 0 b&&leb b (yw g-1)
def ycY (g:dG) (b:Int):Int:=bif ykF g b then b.tdiv (g.1-1)else -1
def ysH (g:dG) (b:Int):Int:=bif ykF g b then b.tmod (g.1-1)else -1
theorem yzE {g:dG} {b:Int} (h:ykF g b=true):yd g=true∧(0≤b.tdiv (g.1-1)∧b.tdiv (g.1-1)≤g.2-1)∧(0≤b.tmod (g.1-1)∧b.tmod (g.1-1)≤g.1-2):=by
 simp only[ykF,Bool.and_eq_true,zj7]at h;cases hg:yd g
 ·have:yw g=0:=by unfold yw; rw[hg]; rfl
  omega
 ·rw[yB7 hg]at h
  have h2:=yl.1 hg;rw[Int.tdiv_eq_ediv_of_nonneg h.1,Int.tmod_eq_emod_of_nonneg h.1];have h3:=Int.ediv_lt_of_lt_mul (show 0<g.1-1 by omega) (show b<g.2*(g.1-1)by omega);have h4:=Int.ediv_nonneg h.1 (show 0≤g.1-1 by omega);have h5:=Int.emod_nonneg b (show g.1-1≠0 by omega);have h6:=Int.emod_lt_of_pos b (show 0<g.1-1 by omega);exact⟨rfl,⟨h4,by omega⟩,h5,by omega⟩
theorem yA9 {g:dG} {b:Int} (h:ykF g b=true):yO g (ycY g b)=true:=by
 obtain⟨h1,h2,_⟩:=yzE h;unfold ycY;rw[h,cond_true,yah];exact⟨h1,h2⟩
def ycp (a:dA) (s:Int):List Int×Bool:=bif leb 0 (yaa a.2.2.2.2.2.2.2.2.1 s)then((nth a.2.2.2.2.2.2.2.2.1 (yaa a.2.2.2.2.2.2.2.2.1 s) (0,[])).2,true)else bif a.2.2.2.2.2.2.2.2.2.2.2 then([],false)else yta a s
theorem yUT {a:dA} (h:ya2 a=true) {i:Nat} (hi:i<a.2.2.2.2.2.2.2.2.1.length):(0≤(nth a.2.2.2.2.2.2.2.2.1 i (0,[])).1∧(nth a.2.2.2.2.2.2.2.2.1 i (0,[])).1≤a.2.1.2-1)∧((nth a.2.2.2.2.2.2.2.2.1 i (0,[])).2.length:Int)=a.2.1.1-1∧(nth a.2.2.2.2.2.2.2.2.1 i (0,[])).2.all isW=true∧(0<i→(nth a.2.2.2.2.2.2.2.2.1 ((i-1:Nat):Int) (0,[])).1<(nth a.2.2.2.2.2.2.2.2.1 i (0,[])).1):=by
 have h1:yaH a.2.1 a.2.2.2.2.2.2.2.2.1=true:=by simp only[ya2,Bool.and_eq_true]at h; exact h.2.2.2.1
 simp only[yaH,Bool.not_eq_true',List.any_eq_false,List.mem_range]at h1;have h2:=h1 i hi;simp only[yf2,Bool.not_eq_true,Bool.or_eq_false_iff,Bool.not_eq_false',bne_eq_false_iff_eq,Bool.and_eq_true,Bool.and_eq_false_iff,decide_eq_false_iff_not,zj7]at h2;refine⟨h2.1,h2.2.1,h2.2.2.1,fun h0=> ?_⟩;rcases h2.2.2.2 with h3 | h3
 ·exact absurd h0 h3
 ·have:=mt zk2 (by rw[h3]; simp: ¬leb (nth a.2.2.2.2.2.2.2.2.1 i (0,[])).1 (nth a.2.2.2.2.2.2.2.2.1 ((i-1:Nat):Int) (0,[])).1=true)
  omega
theorem yvx {a:dA} {s:Int} (h:ya2 a=true) (hs:yO a.2.1 s=true) (h2:(ycp a s).2=true):((ycp a s).1.length:Int)=a.2.1.1-1:=by
 have hg:=yl.1 (ydZ h);unfold ycp at h2 ⊢;cases hk:leb 0 (yaa a.2.2.2.2.2.2.2.2.1 s)
 ·rw[hk]at h2
  simp only[cond_false]at h2 ⊢;cases hb:a.2.2.2.2.2.2.2.2.2.2.2
  ·rw[hb]at h2
   simp only[cond_false]at h2 ⊢;unfold yta at h2 ⊢;cases hw:(yP a s).2
   ·rw[hw]at h2; cases h2
   ·simp only[cond_true,List.length_map,List.length_range]; omega
  ·rw[hb]at h2; cases h2
 ·have h3:=zj6.1 (yoq (d:=((0,[]):dW)) hk).1
  have:=(yUT h (i:=(yaa a.2.2.2.2.2.2.2.2.1 s).toNat) (by unfold yaa; omega)).2.1;rw[show(((yaa a.2.2.2.2.2.2.2.2.1 s).toNat:Nat):Int)=yaa a.2.2.2.2.2.2.2.2.1 s by have:=zj7.1 hk; omega]at this;exact this
theorem yUk (g:dG) (b:Int):ya b 0 (i64.wrap (yw g-1))=ykF g b:=by
 have:=yP6 g;rw[wr (by omega) (by omega),ybA]; rfl
def yKD:Code:=(f180.body).getD .skip
def yK1:Env:=zkw TT [(82,yz),(119,ykJ)] []
theorem yEe:FrOk prog ⟨yK1,16,fun _=>none⟩ yKD:=zkA mixed yc ⟨yF,ysL,trivial⟩
abbrev ykq:List Par:= [.rd tG,.rd tI]
abbrev yqj:List OT:= [⟨false,tI,.fz⟩]
def ym8 (a0:dG) (a1:Int):Option (zaY yqj×zak ykq) :=let r1:=yw a0;let r2:=ya a1 0 (i64.wrap (r1-1));bif(!r2)then some (((-1),()),()) else bif((i64.wrap (a0.1-1)) !=0)then some (((i64.wrap (a1.tdiv (i64.wrap (a0.1-1)))),()),()) else none
theorem yG2:ConOk prog 180 ⟨ykq,yqj,fun x=>ym8 x.1 x.2.1⟩:=zkI (yEe) func180 ntmps180.symm fun x=>by kernel_rfl
def yg6 (a0:dG) (a1:Int):Int:=ycY a0 a1
theorem yJz (a0:dG) (a1:Int) (hk:zjx ykq (a0,a1,())):ym8 a0 a1=(fun n=>some ((n,()),())) (yg6 a0 a1):=by
 unfold ym8 yg6 ycY;simp only[yUk];cases hb:ykF a0 a1
 ·rfl
 ·obtain⟨h1,h2,h3⟩:=yzE hb
  have h4:=yl.1 h1;rw[wq (a0.1-1) (by omega) (by omega),show(a0.1-1 !=0)=true from bne_iff_ne.2 (by omega),wr (by omega) (by omega)]; rfl
def yvZ:Con:=⟨ykq,yqj,fun x=>(fun n=>some ((n,()),())) (yg6 x.1 x.2.1)⟩
theorem yKc:ConOk prog 180 yvZ:=(yG2).mono (fun x r hk h=>(yJz x.1 x.2.1 hk).trans h)
def ys8:Code:=(f215.body).getD .skip
def yAS:Env:=zkw TT [] []
theorem yOC:FrOk prog ⟨yAS,22,fun _=>none⟩ ys8:=zkA mixed yc trivial
def yCM:Nat→Option Seg:=fun _=>none
def ydz:Shape:=⟨[(1,false,[.int .i64]),(2,false,[.ptr 0 0]),(5,false,[.int .i64])],[(0,[.int .i64,.int .i64,.int .i64,.br tM,.int .i64,.int .i64,.int .i64,.int .i64,.int .i64,.br tW,.int .i64,.bool,.bool])],[]⟩
def yh1:Shape:=⟨[(1,false,[.int .i64]),(2,false,[.ptr 0 0]),(5,false,[.ci .i64 0])],[(0,[.int .i64,.int .i64,.int .i64,.br tM,.int .i64,.int .i64,.int .i64,.int .i64,.int .i64,.br tW,.int .i64,.bool,.bool])],[]⟩
def yhZ:Shape:=⟨[],[],[]⟩
def yh4:Shape:=⟨[(4,false,[.int .i64])],[],[]⟩
abbrev yqQ (v0 v1:Int) (v2:dA):(ydz).X:=(((v0,()),((),()),(v1,()),()),((v2.1,v2.2.1.1,v2.2.1.2,v2.2.2.1,v2.2.2.2.1,v2.2.2.2.2.1,v2.2.2.2.2.2.1,v2.2.2.2.2.2.2.1,v2.2.2.2.2.2.2.2.1,v2.2.2.2.2.2.2.2.2.1,v2.2.2.2.2.2.2.2.2.2.1,v2.2.2.2.2.2.2.2.2.2.2.1,v2.2.2.2.2.2.2.2.2.2.2.2,()),()),())
abbrev yMc (v0:Int) (v1:dA):(yh1).X:=(((v0,()),((),()),((),()),()),((v1.1,v1.2.1.1,v1.2.1.2,v1.2.2.1,v1.2.2.2.1,v1.2.2.2.2.1,v1.2.2.2.2.2.1,v1.2.2.2.2.2.2.1,v1.2.2.2.2.2.2.2.1,v1.2.2.2.2.2.2.2.2.1,v1.2.2.2.2.2.2.2.2.2.1,v1.2.2.2.2.2.2.2.2.2.2.1,v1.2.2.2.2.2.2.2.2.2.2.2,()),()),())
abbrev yMa  :(yhZ).X:=((),(),())
abbrev yAp (v0:Int):(yh4).X:=(((v0,()),()),(),())
def yrn (v0 v1 v2 v3 v4:Int) (v5:List dM) (v6 v7 v8 v9 v10:Int) (v11:List dW) (v12:Int) (v13 v14:Bool):Option ((ydz).X ⊕ ((yhZ).X ⊕ (yh4).X)) :=bif(ltb v1 (v11.length:Int))then bif(inb v1 v11.length)then bif((nth v11 v1 (0,[])).1==v0)then some (.inr (.inr (((v1,()),()),(),()))) else some (.inl (((v0,()),((),()),((i64.wrap (v1+1)),()),()),((v2,v3,v4,v5,v6,v7,v8,v9,v10,v11,v12,v13,v14,()),()),())) else none else some (.inr (.inl ((),(),())))
def ydI (x:(ydz).X):=yrn x.1.1.1 x.1.2.2.1.1 x.2.1.1.1 x.2.1.1.2.1 x.2.1.1.2.2.1 x.2.1.1.2.2.2.1 x.2.1.1.2.2.2.2.1 x.2.1.1.2.2.2.2.2.1 x.2.1.1.2.2.2.2.2.2.1 x.2.1.1.2.2.2.2.2.2.2.1 x.2.1.1.2.2.2.2.2.2.2.2.1 x.2.1.1.2.2.2.2.2.2.2.2.2.1 x.2.1.1.2.2.2.2.2.2.2.2.2.2.1 x.2.1.1.2.2.2.2.2.2.2.2.2.2.2.1 x.2.1.1.2.2.2.2.2.2.2.2.2.2.2.2.1
def yAh (x:(yh1).X):(ydz).X:=(((x.1.1.1,()),((),()),(0,()),()),((x.2.1.1.1,x.2.1.1.2.1,x.2.1.1.2.2.1,x.2.1.1.2.2.2.1,x.2.1.1.2.2.2.2.1,x.2.1.1.2.2.2.2.2.1,x.2.1.1.2.2.2.2.2.2.1,x.2.1.1.2.2.2.2.2.2.2.1,x.2.1.1.2.2.2.2.2.2.2.2.1,x.2.1.1.2.2.2.2.2.2.2.2.2.1,x.2.1.1.2.2.2.2.2.2.2.2.2.2.1,x.2.1.1.2.2.2.2.2.2.2.2.2.2.2.1,x.2.1.1.2.2.2.2.2.2.2.2.2.2.2.2.1,()),()),())
def yBq:Code:=(zd7 ys8 64 52).getD .skip
theorem yOw:zd7 ys8 64 13=some (.block 0 (.loop yBq)):=by kernel_rfl
theorem yP4 (x:(ydz).X):zhu ⟨yAS,22,yCM⟩ 0 yBq 52 ydz yhZ yh4 x=ydI x:=by kernel_rfl
def yAl (x:(yh1).X):Nat:=18446744073709551616
def yr8 (x:(yh1).X):Option ((yhZ).X ⊕ (yh4).X):=zF ydI (yAl x) (yAh x)
def yAO:Seg:=⟨yh1,yhZ,yh4,yr8⟩
def yQ2:Nat→Option Seg:=fun q=>bif Nat.beq q 13 then some yAO else yCM q
theorem yOD:FrOk prog ⟨yAS,22,yQ2⟩ ys8:=(yOC).loop (sg:=yAO) ydz yAh (by decide) yOw ydI yAl (by decide) (fun _=>rfl) (fun x r _ h=>h) yP4
abbrev ys9:List Par:= [.rd tA,.rd tI]
abbrev yAY:List OT:= [⟨false,tI,.fz⟩]
def yvw (a0:dA) (a1:Int):Option (zaY yAY×zak ys9) :=zkt (yr8 (((a1,()),((),()),((),()),()),((a0.1,a0.2.1.1,a0.2.1.2,a0.2.2.1,a0.2.2.2.1,a0.2.2.2.2.1,a0.2.2.2.2.2.1,a0.2.2.2.2.2.2.1,a0.2.2.2.2.2.2.2.1,a0.2.2.2.2.2.2.2.2.1,a0.2.2.2.2.2.2.2.2.2.1,a0.2.2.2.2.2.2.2.2.2.2.1,a0.2.2.2.2.2.2.2.2.2.2.2,()),()),())) (fun y0 =>some (((-1),()),())) (fun y0 =>some ((y0.1.1.1,()),()))
theorem yRT:ConOk prog 215 ⟨ys9,yAY,fun x=>yvw x.1 x.2.1⟩:=zkI (yOD) func215 ntmps215.symm fun x=>by kernel_rfl
def yhm (a0:dA) (a1:Int):Int:=yaa a0.2.2.2.2.2.2.2.2.1 a1
theorem ySY (a0:dA) (a1:Int) (hk:zjx ys9 (a0,a1,())):yvw a0 a1=(fun n=>some ((n,()),())) (yhm a0 a1):=by
 have hb:a0.2.2.2.2.2.2.2.2.1.length*32≤2^47:=hk.1.2.2.2.2.2.2.2.2.1.1
 have h1:yr8 (yMc a1 a0)=some (bif leb 0 (yaa a0.2.2.2.2.2.2.2.2.1 a1)then .inr (yAp (yaa a0.2.2.2.2.2.2.2.2.1 a1))else .inl yMa) :=
  yQo (step:=ydI) a0.2.2.2.2.2.2.2.2.1 (0,[]) (fun i=>yqQ a1 i a0) (fun e:dW=>e.1==a1) (fun i=> .inr (yAp i)) _ (fun i hi=>by
   simp only[ydI,yqQ,yrn,zky (show(i:Int)<a0.2.2.2.2.2.2.2.2.1.length by omega),cond_true,wq ((i:Int)+1) (by omega) (by omega),Int.natCast_add,Int.natCast_one,Int.toNat_natCast,zkR hi,zkS]
   cases((a0.2.2.2.2.2.2.2.2.1.getD i (0,[])).1==a1)<;>rfl) (by simp only[ydI,yqQ,yrn,zk3 (Int.le_refl _),cond_false]) _ (by show _<18446744073709551616; omega)
 unfold yvw yhm;rw[h1];cases h:leb 0 (yaa a0.2.2.2.2.2.2.2.2.1 a1)
 ·rw[show yaa a0.2.2.2.2.2.2.2.2.1 a1= -1 from yOE h]; rfl
 ·rfl
def yvl:Con:=⟨ys9,yAY,fun x=>(fun n=>some ((n,()),())) (yhm x.1 x.2.1)⟩
theorem yET:ConOk prog 215 yvl:=(yRT).mono (fun x r hk h=>(ySY x.1 x.2.1 hk).trans h)
def ypq:Code:=(f161.body).getD .skip
def yxb:Env:=zkw TT [] []
theorem yLQ:FrOk prog ⟨yxb,18,fun _=>none⟩ ypq:=zkA mixed yc trivial
def yBi:Nat→Option Seg:=fun _=>none
def ycK:Shape:=⟨[(0,false,[.br tI]),(1,false,[.int .i64]),(5,false,[.int .i64])],[],[]⟩
def ygH:Shape:=⟨[(0,false,[.br tI]),(1,false,[.int .i64]),(5,false,[.ci .i64 0])],[],[]⟩
def ygt:Shape:=⟨[],[],[]⟩
def ygW:Shape:=⟨[(4,false,[.bool])],[],[]⟩
abbrev yoz (v0:List Int) (v1 v2:Int):(ycK).X:=(((v0,()),(v1,()),(v2,()),()),(),())
abbrev yI8 (v0:List Int) (v1:Int):(ygH).X:=(((v0,()),(v1,()),((),()),()),(),())
abbrev yIY  :(ygt).X:=((),(),())
abbrev yJj (v0:Bool):(ygW).X:=(((v0,()),()),(),())
def yo4 (v0:List Int) (v1 v2:Int):Option ((ycK).X ⊕ ((ygt).X ⊕ (ygW).X)) :=bif(ltb v2 (v0.length:Int))then bif(inb v2 v0.length)then bif((nth v0 v2 0)==v1)then some (.inr (.inr (((true,()),()),(),()))) else some (.inl (((v0,()),(v1,()),((i64.wrap (v2+1)),()),()),(),())) else none else some (.inr (.inl ((),(),())))
def ydc (x:(ycK).X):=yo4 x.1.1.1 x.1.2.1.1 x.1.2.2.1.1
def yyl (x:(ygH).X):(ycK).X:=(((x.1.1.1,()),(x.1.2.1.1,()),(0,()),()),(),())
def yzO:Code:=(zd7 ypq 64 52).getD .skip
theorem yLf:zd7 ypq 64 13=some (.block 0 (.loop yzO)):=by kernel_rfl
theorem yNI (x:(ycK).X):zhu ⟨yxb,18,yBi⟩ 0 yzO 52 ycK ygt ygW x=ydc x:=by kernel_rfl
def yyA (x:(ygH).X):Nat:=18446744073709551616
def ypO (x:(ygH).X):Option ((ygt).X ⊕ (ygW).X):=zF ydc (yyA x) (yyl x)
def yzf:Seg:=⟨ygH,ygt,ygW,ypO⟩
def yOc:Nat→Option Seg:=fun q=>bif Nat.beq q 13 then some yzf else yBi q
theorem yLR:FrOk prog ⟨yxb,18,yOc⟩ ypq:=(yLQ).loop (sg:=yzf) ycK yyl (by decide) yLf ydc yyA (by decide) (fun _=>rfl) (fun x r _ h=>h) yNI
abbrev yp3:List Par:= [.rd tL,.rd tI]
abbrev yxC:List OT:= [⟨false,tB,.fz⟩]
def ys2 (a0:List Int) (a1:Int):Option (zaY yxC×zak yp3) :=zkt (ypO (((a0,()),(a1,()),((),()),()),(),())) (fun y0 =>some ((false,()),())) (fun y0 =>some ((y0.1.1.1,()),()))
theorem yPw:ConOk prog 161 ⟨yp3,yxC,fun x=>ys2 x.1 x.2.1⟩:=zkI (yLR) func161 ntmps161.symm fun x=>by kernel_rfl
def yfN (a0:List Int) (a1:Int):Bool:=a0.any (· ==a1)
theorem yRL (a0:List Int) (a1:Int) (hk:zjx yp3 (a0,a1,())):ys2 a0 a1=(fun n=>some ((n,()),())) (yfN a0 a1):=by
 have hb:a0.length*8≤2^47:=hk.1.1
 have h1:ypO (yI8 a0 a1)=some (bif a0.all (· !=a1)then .inl yIY else .inr (yJj true)) :=
  zj9 (step:=ydc) a0 0 (fun i=>yoz a0 a1 i) (· !=a1) _ _ (fun i hi=>by
   simp only[ydc,yoz,yo4,zky (show(i:Int)<a0.length by omega),cond_true,wq ((i:Int)+1) (by omega) (by omega),Int.natCast_add,Int.natCast_one,Int.toNat_natCast,zkR hi,zkS,bne]
   cases(a0.getD i 0==a1)<;>rfl) (by simp only[ydc,yoz,yo4,zk3 (Int.le_refl _),cond_false]) _ (by show _<18446744073709551616; omega)
 unfold ys2 yfN;rw[h1,show a0.any (· ==a1)= !(a0.all (· !=a1))by simp[List.all_eq_not_any_not,bne]];cases a0.all (· !=a1)<;>rfl
def ysE:Con:=⟨yp3,yxC,fun x=>(fun n=>some ((n,()),())) (yfN x.1 x.2.1)⟩
theorem yCQ:ConOk prog 161 ysE:=(yPw).mono (fun x r hk h=>(yRL x.1 x.2.1 hk).trans h)
def ylO:Code:=(f90.body).getD .skip
def yr3:Env:=zkw TT [(82,yz),(160,ye6),(161,ysE)] []
theorem yGa:FrOk prog ⟨yr3,60,fun _=>none⟩ ylO:=zkA mixed yc ⟨yF,yjD,yCQ,trivial⟩
def yw2:Nat→Option Seg:=fun _=>none
def ybu:Shape:=⟨[(1,false,[.int .i64]),(2,false,[.ptr 0 0]),(6,false,[.br tI]),(7,false,[.int .i64])],[(0,[.br tL,.br tW,.bool,.br tI])],[]⟩
def yeK:Shape:=⟨[(1,false,[.int .i64]),(2,false,[.ptr 0 0]),(6,false,[.br tI]),(7,false,[.ci .i64 0])],[(0,[.br tL,.br tW,.bool,.br tI])],[]⟩
def yeB:Shape:=⟨[(6,false,[.br tI])],[],[]⟩
def yhD:Shape:=⟨[],[],[]⟩
abbrev ylm (v0:Int) (v1:List Int) (v2:Int) (v3:dM):(ybu).X:=(((v0,()),((),()),(v1,()),(v2,()),()),((v3.1,v3.2.1,v3.2.2.1,v3.2.2.2,()),()),())
abbrev yEx (v0:Int) (v1:List Int) (v2:dM):(yeK).X:=(((v0,()),((),()),(v1,()),((),()),()),((v2.1,v2.2.1,v2.2.2.1,v2.2.2.2,()),()),())
abbrev yt1 (v0:List Int):(yeB).X:=(((v0,()),()),(),())
def ylF (v0:Int) (v1:List Int) (v2:Int) (v3:List (List Int)) (v4:List dW) (v5:Bool) (v6:List Int):Option ((ybu).X ⊕ ((yeB).X ⊕ (yhD).X)) :=bif(ltb v2 (v4.length:Int))then bif(inb v2 v4.length)then bif((nth v4 v2 (0,[])).1==v0)then bif(inb v2 v4.length)then some (.inl (((v0,()),((),()),((nth v4 v2 (0,[])).2,()),((i64.wrap (v2+1)),()),()),((v3,v4,v5,v6,()),()),())) else none else some (.inl (((v0,()),((),()),(v1,()),((i64.wrap (v2+1)),()),()),((v3,v4,v5,v6,()),()),())) else none else some (.inr (.inl (((v1,()),()),(),())))
def ybL (x:(ybu).X):=ylF x.1.1.1 x.1.2.2.1.1 x.1.2.2.2.1.1 x.2.1.1.1 x.2.1.1.2.1 x.2.1.1.2.2.1 x.2.1.1.2.2.2.1
def ytD (x:(yeK).X):(ybu).X:=(((x.1.1.1,()),((),()),(x.1.2.2.1.1,()),(0,()),()),((x.2.1.1.1,x.2.1.1.2.1,x.2.1.1.2.2.1,x.2.1.1.2.2.2.1,()),()),())
def yvM:Code:=(zd7 ylO 64 244).getD .skip
theorem yFM:zd7 ylO 64 61=some (.block 0 (.loop yvM)):=by kernel_rfl
theorem yHj (x:(ybu).X):zhu ⟨yr3,60,yw2⟩ 0 yvM 244 ybu yeB yhD x=ybL x:=by kernel_rfl
def ytQ (x:(yeK).X):Nat:=18446744073709551616
def ymv (x:(yeK).X):Option ((yeB).X ⊕ (yhD).X):=zF ybL (ytQ x) (ytD x)
def yuc:Seg:=⟨yeK,yeB,yhD,ymv⟩
def yHF:Nat→Option Seg:=fun q=>bif Nat.beq q 61 then some yuc else yw2 q
theorem yGb:FrOk prog ⟨yr3,60,yHF⟩ ylO:=(yGa).loop (sg:=yuc) ybu ytD (by decide) yFM ybL ytQ (by decide) (fun _=>rfl) (fun x r _ h=>h) yHj
abbrev ylY:List Par:= [.rd tM,.rd tI]
abbrev ysu:List OT:= [⟨false,tL,(.ow .fz)⟩,⟨false,tB,.fz⟩]
def yoO (a0:dM) (a1:Int):Option (zaY ysu×zak ylY) :=let r1:=yas a0;bif(!(!r1))then bif(!a0.2.2.1)then let r2:=ya a1 0 (i64.wrap ((a0.1.length:Int)-1));bif(!(!r2))then let r3:=yfN a0.2.2.2 a1;bif r3 then some ((([]:List Int),false,()),()) else bif(inb a1 a0.1.length)then zkt (ymv (((a1,()),((),()),((nth a0.1 a1 []),()),((),()),()),((a0.1,a0.2.1,a0.2.2.1,a0.2.2.2,()),()),())) (fun y3 =>bif(zkl ([]:List Int).length y3.1.1.1.length 8)then some (((([]:List Int)++y3.1.1.1),true,()),()) else none) (fun y3 =>none) else none else some ((([]:List Int),false,()),()) else some ((([]:List Int),false,()),()) else some ((([]:List Int),false,()),())
theorem yJR:ConOk prog 90 ⟨ylY,ysu,fun x=>yoO x.1 x.2.1⟩:=zkI (yGb) func90 ntmps90.symm fun x=>by kernel_rfl
def yim (a0:dM) (a1:Int):List Int×Bool:=yf8 a0 a1
theorem yMr (a0:dM) (a1:Int) (hk:zjx ylY (a0,a1,())):yoO a0 a1=(fun n=>some ((n.1,n.2,()),())) (yim a0 a1):=by
 have hb1:a0.1.length*24≤2^47:=hk.1.1.1;have hb2:a0.2.1.length*32≤2^47:=hk.1.2.1.1
 have h1: ∀s,ymv (yEx a1 s a0)=some (.inl (yt1 (yfP a1 a0.2.1 s))):=fun s =>
  zkx (step:=ybL) a0.2.1 (0,[]) (fun i s=>ylm a1 s i a0) (fun s w=>bif w.1==a1 then w.2 else s) (fun _ _=>True) (fun s=> .inl (yt1 s)) (fun i s hi _=>⟨by
   simp only[ybL,ylm,ylF,zky (show(i:Int)<a0.2.1.length by omega),cond_true,wq ((i:Int)+1) (by omega) (by omega),Int.natCast_add,Int.natCast_one,Int.toNat_natCast,zkR hi,zkS]
   cases((a0.2.1.getD i (0,[])).1==a1)<;>rfl,trivial⟩) (fun s _=>by simp only[ybL,ylm,ylF,zk3 (Int.le_refl _),cond_false]) s trivial _ (by show _<18446744073709551616; omega)
 unfold yoO yim yf8 ywT;rw[yh8 (show a0.1.length≤1152921504606846976 by omega)];unfold yas yfN;simp only[h1,zkN,List.nil_append];cases yu a0
 ·rfl
 cases a0.2.2.1
 ·cases hi:inb a1 a0.1.length
  ·rfl
  ·cases a0.2.2.2.any (· ==a1)
   ·have hs:(yfP a1 a0.2.1 (nth a0.1 a1 [])).length*8≤2^47 :=
     yCz (P:=fun s=>s.length*8≤2^47) (ywU (P:=fun s:List Int=>s.length*8≤2^47) hi fun x hx=>(hk.1.1.2 x hx).1) fun w hw=>(hk.1.2.1.2 w hw).2.1
    simp only[Bool.not_true,Bool.not_false,cond_true,cond_false,Bool.true_and,show zkl ([]:List Int).length (yfP a1 a0.2.1 (nth a0.1 a1 [])).length 8=true from zkF.2 (by rw[List.length_nil]; omega)]
   ·rfl
 ·rfl
def yx4:Con:=⟨ylY,ysu,fun x=>(fun n=>some ((n.1,n.2,()),())) (yim x.1 x.2.1)⟩
theorem yNo:ConOk prog 90 yx4:=(yJR).mono (fun x r hk h=>(yMr x.1 x.2.1 hk).trans h)
def yQQ:Code:=(f211.body).getD .skip
def yRj:Env:=zkw TT [(82,yz)] []
theorem yIl:FrOk prog ⟨yRj,34,fun _=>none⟩ yQQ:=zkA mixed yc ⟨yF,trivial⟩
abbrev ynN:List Par:= [.rd tA,.rd tI,.rd tI]
abbrev yu3:List OT:= [⟨false,tB,.fz⟩]
def yq8 (a0:dA) (a1 a2:Int):Option (zaY yu3×zak ynN) :=let r1:=ya a1 0 (i64.wrap ((a0.2.2.1.length:Int)-1));bif r1 then bif(inb a1 a0.2.2.1.length)then bif(!((((nth a0.2.2.1 a1 ([],[],false,[])).2).2).1))then bif(!(a1 !=a0.2.2.2.1))then some (((ltb a2 a0.2.2.2.2.1),()),()) else some ((true,()),()) else some ((false,()),()) else none else some ((false,()),())
theorem yMU:ConOk prog 211 ⟨ynN,yu3,fun x=>yq8 x.1 x.2.1 x.2.2.1⟩:=zkI (yIl) func211 ntmps211.symm fun x=>by kernel_rfl
def ydj (a0:dA) (a1 a2:Int):Bool:=ybR a0 a1 a2
theorem yO1 (a0:dA) (a1 a2:Int) (hk:zjx ynN (a0,a1,a2,())):yq8 a0 a1 a2=(fun n=>some ((n,()),())) (ydj a0 a1 a2):=by
 have hb:a0.2.2.1.length*80≤2^47:=hk.1.2.2.1.1;unfold yq8 ydj ybR yf;rw[yh8 (show a0.2.2.1.length≤1152921504606846976 by omega)];cases inb a1 a0.2.2.1.length
 ·rfl
 ·cases(nth a0.2.2.1 a1 ([],[],false,[])).2.2.1<;>cases(a1 !=a0.2.2.2.1)<;>rfl
def yqB:Con:=⟨ynN,yu3,fun x=>(fun n=>some ((n,()),())) (ydj x.1 x.2.1 x.2.2.1)⟩
theorem yBU:ConOk prog 211 yqB:=(yMU).mono (fun x r hk h=>(yO1 x.1 x.2.1 x.2.2.1 hk).trans h)
def yQ0:Code:=(f246.body).getD .skip
def yRt:Env:=zkw TT [(90,yx4),(113,yef),(211,yqB)] []
theorem yIG:FrOk prog ⟨yRt,36,fun _=>none⟩ yQ0:=zkA mixed yc ⟨yNo,yix,yBU,trivial⟩
abbrev ynR:List Par:= [.rd tA,.rd tI,.rd tI]
abbrev yvf:List OT:= [⟨false,tI,.fz⟩,⟨false,tB,.fz⟩]
def yre (a0:dA) (a1 a2:Int):Option (zaY yvf×zak ynR) :=let r1:=ydj a0 a1 a2;bif(!r1)then some ((0,false,()),()) else bif(inb a1 a0.2.2.1.length)then let r2:=ybf a2;let r3:=yim ((nth a0.2.2.1 a1 ([],[],false,[])).1,((nth a0.2.2.1 a1 ([],[],false,[])).2).1,(((nth a0.2.2.1 a1 ([],[],false,[])).2).2)) r2;bif(!(!r3.2))then bif((r3.1.length:Int) !=1)then some ((0,false,()),()) else bif(inb 0 r3.1.length)then some (((nth r3.1 0 0),true,()),()) else none else some ((0,false,()),()) else none
theorem yM9:ConOk prog 246 ⟨ynR,yvf,fun x=>yre x.1 x.2.1 x.2.2.1⟩:=zkI (yIG) func246 ntmps246.symm fun x=>by kernel_rfl
def yjz (a0:dA) (a1 a2:Int):Int×Bool:=(ynm a0 a1 a2,yn a0 a1 a2)
theorem yPb (a0:dA) (a1 a2:Int) (hk:zjx ynR (a0,a1,a2,())):yre a0 a1 a2=(fun n=>some ((n.1,n.2,()),())) (yjz a0 a1 a2):=by
 unfold yre yjz ynm ydj;simp only[zkX,yfa,yim];rw[show yn a0 a1 a2=(ybR a0 a1 a2&&((ycB a0 a1 a2).2&&((ycB a0 a1 a2).1.length:Int)==1))from rfl];rw[show yf8 (nth a0.2.2.1 a1 ([],[],false,[])) (yy a2)=ycB a0 a1 a2 from rfl];cases hl:ybR a0 a1 a2
 ·rfl
 ·rw[show inb a1 a0.2.2.1.length=true by unfold ybR at hl; exact(Bool.and_eq_true_iff.1 hl).1]
  cases(ycB a0 a1 a2).2
  ·rfl
  ·rw[bne]
   cases h1:(((ycB a0 a1 a2).1.length:Int)==1)
   ·rfl
   ·rw[show inb 0 (ycB a0 a1 a2).1.length=true from zj6.2 (by have:=beq_iff_eq.1 h1; omega)]; rfl
def yAc:Con:=⟨ynR,yvf,fun x=>(fun n=>some ((n.1,n.2,()),())) (yjz x.1 x.2.1 x.2.2.1)⟩
theorem yPW:ConOk prog 246 yAc:=(yM9).mono (fun x r hk h=>(yPb x.1 x.2.1 x.2.2.1 hk).trans h)
def ygb:Code:=(f247.body).getD .skip
def ykX:Env:=zkw TT [] []
theorem yBH:FrOk prog ⟨ykX,23,fun _=>none⟩ ygb:=zkA mixed yc trivial
def ypw:Nat→Option Seg:=fun _=>none
def yap:Shape:=⟨[(0,false,[.br tI]),(1,false,[.int .i64]),(5,false,[.int .i64]),(6,false,[.int .i64])],[],[]⟩
def yck:Shape:=⟨[(0,false,[.br tI]),(1,false,[.int .i64]),(5,false,[.ci .i64 0]),(6,false,[.ci .i64 0])],[],[]⟩
def yci:Shape:=⟨[(5,false,[.int .i64])],[],[]⟩
def yee:Shape:=⟨[],[],[]⟩
abbrev yhl (v0:List Int) (v1 v2 v3:Int):(yap).X:=(((v0,()),(v1,()),(v2,()),(v3,()),()),(),())
abbrev yA4 (v0:List Int) (v1:Int):(yck).X:=(((v0,()),(v1,()),((),()),((),()),()),(),())
abbrev yA2 (v0:Int):(yci).X:=(((v0,()),()),(),())
def yho (v0:List Int) (v1 v2 v3:Int):Option ((yap).X ⊕ ((yci).X ⊕ (yee).X)) :=bif(ltb v3 (v0.length:Int))then bif(v3 !=v1)then bif(inb v3 v0.length)then some (.inl (((v0,()),(v1,()),((i64.wrap ((BitVec.ofInt IntKind.i64.bits v2 ^^^ BitVec.ofInt IntKind.i64.bits (nth v0 v3 0)).toNat:Int)),()),((i64.wrap (v3+1)),()),()),(),())) else none else some (.inl (((v0,()),(v1,()),(v2,()),((i64.wrap (v3+1)),()),()),(),())) else some (.inr (.inl (((v2,()),()),(),())))
def yaz (x:(yap).X):=yho x.1.1.1 x.1.2.1.1 x.1.2.2.1.1 x.1.2.2.2.1.1
def ynp (x:(yck).X):(yap).X:=(((x.1.1.1,()),(x.1.2.1.1,()),(0,()),(0,()),()),(),())
def ypb:Code:=(zd7 ygb 64 116).getD .skip
theorem yBo:zd7 ygb 64 29=some (.block 0 (.loop ypb)):=by kernel_rfl
theorem yB0 (x:(yap).X):zhu ⟨ykX,23,ypw⟩ 0 ypb 116 yap yci yee x=yaz x:=by kernel_rfl
def ynr (x:(yck).X):Nat:=18446744073709551616
def yhQ (x:(yck).X):Option ((yci).X ⊕ (yee).X):=zF yaz (ynr x) (ynp x)
def ynw:Seg:=⟨yck,yci,yee,yhQ⟩
def yB9:Nat→Option Seg:=fun q=>bif Nat.beq q 29 then some ynw else ypw q
theorem yBI:FrOk prog ⟨ykX,23,yB9⟩ ygb:=(yBH).loop (sg:=ynw) yap ynp (by decide) yBo yaz ynr (by decide) (fun _=>rfl) (fun x r _ h=>h) yB0
abbrev ygh:List Par:= [.rd tL,.rd tI]
abbrev ylb:List OT:= [⟨false,tI,.fz⟩]
def yjd (a0:List Int) (a1:Int):Option (zaY ylb×zak ygh) :=zkt (yhQ (((a0,()),(a1,()),((),()),((),()),()),(),())) (fun y0 =>some ((y0.1.1.1,()),())) (fun y0 =>none)
theorem yCD:ConOk prog 247 ⟨ygh,ylb,fun x=>yjd x.1 x.2.1⟩:=zkI (yBI) func247 ntmps247.symm fun x=>by kernel_rfl
def yd6 (a0:List Int) (a1:Int):Int:=ylf a0 a1
theorem yDh (a0:List Int) (a1:Int) (hk:zjx ygh (a0,a1,())):yjd a0 a1=(fun n=>some ((n,()),())) (yd6 a0 a1):=by
 have hb:a0.length*8≤2^47:=hk.1.1
 have h1:=zkD (step:=yaz) a0.length (fun i s=>yhl a0 a1 s i) (fun n (i:Nat)=>bif(i:Int) !=a1 then xw n (nth a0 i 0)else n) (fun _ _=>True) (fun s=> .inl (yA2 s)) (fun i s hi _=>⟨by
  simp only[yaz,yhl,yho,zky (show(i:Int)<a0.length by omega),cond_true,wq ((i:Int)+1) (by omega) (by omega),Int.natCast_add,Int.natCast_one,Int.toNat_natCast,zkR hi]
  cases((i:Int) !=a1)<;>rfl,trivial⟩) (fun s _=>by simp only[yaz,yhl,yho,zk3 (Int.le_refl _),cond_false]) 0 trivial 18446744073709551616 (by omega)
 rw[yUx]at h1;unfold yjd yd6;rw[show yhQ (yA4 a0 a1)=_ from h1]; rfl
def yqD:Con:=⟨ygh,ylb,fun x=>(fun n=>some ((n,()),())) (yd6 x.1 x.2.1)⟩
theorem yDq:ConOk prog 247 yqD:=(yCD).mono (fun x r hk h=>(yDh x.1 x.2.1 hk).trans h)
def ylR:Code:=(f227.body).getD .skip
def yr6:Env:=zkw TT [(246,yAc),(247,yqD)] []
theorem yGk:FrOk prog ⟨yr6,45,fun _=>none⟩ ylR:=zkA mixed yc ⟨yPW,yDq,trivial⟩
def yw5:Nat→Option Seg:=fun _=>none
def ybw:Shape:=⟨[(1,false,[.int .i64]),(2,false,[.ptr 0 0]),(6,false,[.at 800000000]),(7,false,[.int .i64]),(8,false,[.int .i64])],[(0,[.int .i64,.int .i64,.int .i64,.br tM,.int .i64,.int .i64,.int .i64,.int .i64,.int .i64,.br tW,.int .i64,.bool,.bool])],[(800000000,tI,.fz)]⟩
def yeM:Shape:=⟨[(1,false,[.int .i64]),(2,false,[.ptr 0 0]),(6,false,[.at 800000000]),(7,false,[.ci .i64 (-1)]),(8,false,[.ci .i64 0])],[(0,[.int .i64,.int .i64,.int .i64,.br tM,.int .i64,.int .i64,.int .i64,.int .i64,.int .i64,.br tW,.int .i64,.bool,.bool])],[(800000000,tI,.fz)]⟩
def yeD:Shape:=⟨[(6,false,[.at 800000000]),(7,false,[.int .i64])],[],[(800000000,tI,.fz)]⟩
def yeQ:Shape:=⟨[(4,false,[.at 800000000]),(5,false,[.bool])],[],[(800000000,tI,.fz)]⟩
abbrev ylo (v0 v1 v2:Int) (v3:dA) (v4:List Int):(ybw).X:=(((v0,()),((),()),((),()),(v1,()),(v2,()),()),((v3.1,v3.2.1.1,v3.2.1.2,v3.2.2.1,v3.2.2.2.1,v3.2.2.2.2.1,v3.2.2.2.2.2.1,v3.2.2.2.2.2.2.1,v3.2.2.2.2.2.2.2.1,v3.2.2.2.2.2.2.2.2.1,v3.2.2.2.2.2.2.2.2.2.1,v3.2.2.2.2.2.2.2.2.2.2.1,v3.2.2.2.2.2.2.2.2.2.2.2,()),()),(v4,()))
abbrev yEz (v0:Int) (v1:dA) (v2:List Int):(yeM).X:=(((v0,()),((),()),((),()),((),()),((),()),()),((v1.1,v1.2.1.1,v1.2.1.2,v1.2.2.1,v1.2.2.2.1,v1.2.2.2.2.1,v1.2.2.2.2.2.1,v1.2.2.2.2.2.2.1,v1.2.2.2.2.2.2.2.1,v1.2.2.2.2.2.2.2.2.1,v1.2.2.2.2.2.2.2.2.2.1,v1.2.2.2.2.2.2.2.2.2.2.1,v1.2.2.2.2.2.2.2.2.2.2.2,()),()),(v2,()))
abbrev yEq (v0:Int) (v1:List Int):(yeD).X:=((((),()),(v0,()),()),(),(v1,()))
abbrev yEC (v0:Bool) (v1:List Int):(yeQ).X:=((((),()),(v0,()),()),(),(v1,()))
def ylI (v0 v1 v2 v3 v4 v5:Int) (v6:List dM) (v7 v8 v9 v10 v11:Int) (v12:List dW) (v13:Int) (v14 v15:Bool) (v16:List Int):Option ((ybw).X ⊕ ((yeD).X ⊕ (yeQ).X)) :=bif(ltb v2 v4)then let r2:=yjz (v3,(v4,v5),v6,v7,v8,v9,v10,v11,v12,v13,v14,v15) v2 v0;bif(!r2.2)then bif(leb 0 v1)then some (.inr (.inr ((((),()),(false,()),()),(),(([]:List Int),())))) else bif(zkl v16.length ([r2.1]:List Int).length 8)then some (.inl (((v0,()),((),()),((),()),(v2,()),((i64.wrap (v2+1)),()),()),((v3,v4,v5,v6,v7,v8,v9,v10,v11,v12,v13,v14,v15,()),()),((v16++([r2.1]:List Int)),()))) else none else bif(zkl v16.length ([r2.1]:List Int).length 8)then some (.inl (((v0,()),((),()),((),()),(v1,()),((i64.wrap (v2+1)),()),()),((v3,v4,v5,v6,v7,v8,v9,v10,v11,v12,v13,v14,v15,()),()),((v16++([r2.1]:List Int)),()))) else none else some (.inr (.inl ((((),()),(v1,()),()),(),(v16,()))))
def ybO (x:(ybw).X):=ylI x.1.1.1 x.1.2.2.2.1.1 x.1.2.2.2.2.1.1 x.2.1.1.1 x.2.1.1.2.1 x.2.1.1.2.2.1 x.2.1.1.2.2.2.1 x.2.1.1.2.2.2.2.1 x.2.1.1.2.2.2.2.2.1 x.2.1.1.2.2.2.2.2.2.1 x.2.1.1.2.2.2.2.2.2.2.1 x.2.1.1.2.2.2.2.2.2.2.2.1 x.2.1.1.2.2.2.2.2.2.2.2.2.1 x.2.1.1.2.2.2.2.2.2.2.2.2.2.1 x.2.1.1.2.2.2.2.2.2.2.2.2.2.2.1 x.2.1.1.2.2.2.2.2.2.2.2.2.2.2.2.1 x.2.2.1
def ytG (x:(yeM).X):(ybw).X:=(((x.1.1.1,()),((),()),((),()),((-1),()),(0,()),()),((x.2.1.1.1,x.2.1.1.2.1,x.2.1.1.2.2.1,x.2.1.1.2.2.2.1,x.2.1.1.2.2.2.2.1,x.2.1.1.2.2.2.2.2.1,x.2.1.1.2.2.2.2.2.2.1,x.2.1.1.2.2.2.2.2.2.2.1,x.2.1.1.2.2.2.2.2.2.2.2.1,x.2.1.1.2.2.2.2.2.2.2.2.2.1,x.2.1.1.2.2.2.2.2.2.2.2.2.2.1,x.2.1.1.2.2.2.2.2.2.2.2.2.2.2.1,x.2.1.1.2.2.2.2.2.2.2.2.2.2.2.2.1,()),()),(x.2.2.1,()))
def yvP:Code:=(zd7 ylR 64 244).getD .skip
theorem yFP:zd7 ylR 64 61=some (.block 0 (.loop yvP)):=by kernel_rfl
theorem yHm (x:(ybw).X):zhu ⟨yr6,45,yw5⟩ 0 yvP 244 ybw yeD yeQ x=ybO x:=by kernel_rfl
def ytT (x:(yeM).X):Nat:=18446744073709551616
def ymy (x:(yeM).X):Option ((yeD).X ⊕ (yeQ).X):=zF ybO (ytT x) (ytG x)
def yuf:Seg:=⟨yeM,yeD,yeQ,ymy⟩
def yHI:Nat→Option Seg:=fun q=>bif Nat.beq q 61 then some yuf else yw5 q
theorem yGl:FrOk prog ⟨yr6,45,yHI⟩ ylR:=(yGk).loop (sg:=yuf) ybw ytG (by decide) yFP ybO ytT (by decide) (fun _=>rfl) (fun x r _ h=>h) yHm
abbrev yhV:List Par:= [.rd tA,.rd tI]
abbrev yl4:List OT:= [⟨false,tL,(.ow .fz)⟩,⟨false,tB,.fz⟩]
def yoT (a0:dA) (a1:Int):Option (zaY yl4×zak yhV) :=zkt (ymy (((a1,()),((),()),((),()),((),()),((),()),()),((a0.1,a0.2.1.1,a0.2.1.2,a0.2.2.1,a0.2.2.2.1,a0.2.2.2.2.1,a0.2.2.2.2.2.1,a0.2.2.2.2.2.2.1,a0.2.2.2.2.2.2.2.1,a0.2.2.2.2.2.2.2.2.1,a0.2.2.2.2.2.2.2.2.2.1,a0.2.2.2.2.2.2.2.2.2.2.1,a0.2.2.2.2.2.2.2.2.2.2.2,()),()),(([]:List Int),()))) (fun y2 =>bif(leb 0 y2.1.2.1.1)then let r4:=yd6 y2.2.2.1 y2.1.2.1.1;bif(inb y2.1.2.1.1 y2.2.2.1.length)then some (((y2.2.2.1.set (y2.1.2.1.1).toNat r4),true,()),()) else none else some ((y2.2.2.1,true,()),())) (fun y2 =>some ((y2.2.2.1,y2.1.2.1.1,()),()))
theorem yJY:ConOk prog 227 ⟨yhV,yl4,fun x=>yoT x.1 x.2.1⟩:=zkI (yGl) func227 ntmps227.symm fun x=>by kernel_rfl
def ye8 (a0:dA) (a1:Int):List Int×Bool:=yP a0 a1
def ysT (a0:dA) (a1:Int):Bool:=yd a0.2.1
theorem yMx (a0:dA) (a1:Int) (hk:zjx yhV (a0,a1,())) (hq:ysT a0 a1=true):yoT a0 a1=(fun n=>some ((n.1,n.2,()),())) (ye8 a0 a1):=by
 have hg:=yl.1 hq
 have h1:ymy (yEz a1 a0 [])=some (bif ydL (fun(i:Nat)=>yn a0 i a1) a0.2.1.1.toNat then .inr (yEC false [])else .inl (yEq (yv (fun(i:Nat)=>yn a0 i a1) a0.2.1.1.toNat) (yQ a0 a1 a0.2.1.1.toNat))) :=
  zji (step:=ybO) (fun i=>ylo a1 (yv (fun(i:Nat)=>yn a0 i a1) i) i a0 (yQ a0 a1 i)) a0.2.1.1.toNat (fun i=> !yn a0 i a1&&leb 0 (yv (fun(i:Nat)=>yn a0 i a1) i)) _ _ (fun i hi=>by
   simp only[ybO,ylo,ylI,zky (show(i:Int)<a0.2.1.1 by omega),cond_true,wq ((i:Int)+1) (by omega) (by omega),Int.natCast_add,Int.natCast_one,Int.toNat_natCast,zkX,yjz,yv];rw[zkF.2 (show((yQ a0 a1 i).length+ [ynm a0 i a1].length)*8≤140737488355328 by simp only[List.length_cons,List.length_nil,yea]; omega),yCU]
   cases yn a0 i a1<;>cases leb 0 (yv (fun(i:Nat)=>yn a0 i a1) i)<;>rfl) (by simp only[ybO,ylo,ylI,zk3 (show a0.2.1.1≤(a0.2.1.1.toNat:Int)by omega),cond_false]) _ (by show _<18446744073709551616; omega)
 unfold yoT ye8 yP;rw[h1];cases ydL (fun(i:Nat)=>yn a0 i a1) a0.2.1.1.toNat
 ·simp only[cond_false,zkN,yd6]
  cases hm:leb 0 (yv (fun(i:Nat)=>yn a0 i a1) a0.2.1.1.toNat)
  ·rfl
  ·obtain⟨h2,h3⟩:=yQs a0 a1 a0.2.1.1.toNat hm
   rw[h2,h3]; rfl
 ·rfl
def yiw (a0:dA) (a1:Int):Option (zaY yl4×zak yhV):=bif ysT a0 a1 then(fun n=>some ((n.1,n.2,()),())) (ye8 a0 a1)else none
theorem yAu (a0:dA) (a1:Int) (h:ysT a0 a1=true):yiw a0 a1=(fun n=>some ((n.1,n.2,()),())) (ye8 a0 a1):=by unfold yiw; rw[h]; rfl
def yom:Con:=⟨yhV,yl4,fun x=>yiw x.1 x.2.1⟩
theorem yAr:ConOk prog 227 yom:=(yJY).mono (fun x r hk h=>zkY h (fun hq=>yMx x.1 x.2.1 hk hq))
def yKG:Code:=(f229.body).getD .skip
def yK4:Env:=zkw TT [(82,yz),(150,ye5)] []
theorem yEh:FrOk prog ⟨yK4,14,fun _=>none⟩ yKG:=zkA mixed yc ⟨yF,yjC,trivial⟩
abbrev yp4:List Par:= [.rd tG,.rd tI]
abbrev yql:List OT:= [⟨false,tB,.fz⟩]
def yww (a0:dG) (a1:Int):Option (zaY yql×zak yp4) :=let r1:=yd a0;bif r1 then let r2:=ya a1 0 (i64.wrap (a0.2-1));some ((r2,()),()) else some ((false,()),())
theorem yG5:ConOk prog 229 ⟨yp4,yql,fun x=>yww x.1 x.2.1⟩:=zkI (yEh) func229 ntmps229.symm fun x=>by kernel_rfl
def yei (a0:dG) (a1:Int):Bool :=let r1:=yd a0;bif r1 then let r2:=ya a1 0 (i64.wrap (a0.2-1));r2 else false
def ymI:Con:=⟨yp4,yql,fun x=>(fun n=>some ((n,()),())) (yei x.1 x.2.1)⟩
theorem yJC (a0:dG) (a1:Int):yww a0 a1=(fun n=>some ((n,()),())) (yei a0 a1):=zkV (p:=fun(n:Bool)=>((n,()),())) (zkG (p:=fun(n:Bool)=>((n,()),())) rfl rfl)
theorem yyT:ConOk prog 229 ymI:=(yG5).mono (fun x r _ h=>(yJC x.1 x.2.1).trans h)
theorem yHv (g:dG) (s:Int):yei g s=yO g s:=by
 unfold yei yO;cases hg:yd g
 ·rfl
 have:=yl.1 hg;rw[ybA,wr (by omega) (by omega)]; rfl
def yKB:Code:=(f209.body).getD .skip
def yKZ:Env:=zkw TT [(229,ymI)] []
theorem yEa:FrOk prog ⟨yKZ,17,fun _=>none⟩ yKB:=zkA mixed yc ⟨yyT,trivial⟩
abbrev yko:List Par:= [.rd tG,.rd tI]
abbrev yqg:List OT:= [⟨false,tI,.fz⟩]
def ym6 (a0:dG) (a1:Int):Option (zaY yqg×zak yko) :=let r1:=yei a0 a1;bif(!r1)then some (((-1),()),()) else bif(a0.1 !=0)then some (((i64.wrap ((i64.wrap (a0.1-1))-(a1.tmod a0.1))),()),()) else none
theorem yGZ:ConOk prog 209 ⟨yko,yqg,fun x=>ym6 x.1 x.2.1⟩:=zkI (yEa) func209 ntmps209.symm fun x=>by kernel_rfl
def ycW (a0:dG) (a1:Int):Int:=yg a0 a1
theorem yJw (a0:dG) (a1:Int) (hk:zjx yko (a0,a1,())):ym6 a0 a1=(fun n=>some ((n,()),())) (ycW a0 a1):=by
 unfold ym6 ycW;rw[yHv];cases hs:yO a0 a1
 ·unfold yg; rw[hs]; rfl
 ·have h1:=yah.1 hs
  have h2:=yl.1 h1.1;have h3:=yiI hs;have h4:yg a0 a1=a0.1-1-a1.tmod a0.1:=by unfold yg; rw[hs]; rfl
  rw[show(a0.1 !=0)=true from bne_iff_ne.2 (by omega),wq (a0.1-1) (by omega) (by omega),wq (a0.1-1-a1.tmod a0.1) (by omega) (by omega),h4]; rfl
def ymG:Con:=⟨yko,yqg,fun x=>(fun n=>some ((n,()),())) (ycW x.1 x.2.1)⟩
theorem yyR:ConOk prog 209 ymG:=(yGZ).mono (fun x r hk h=>(yJw x.1 x.2.1 hk).trans h)
def yQP:Code:=(f242.body).getD .skip
def yRi:Env:=zkw TT [(82,yz),(209,ymG),(229,ymI)] []
theorem yIk:FrOk prog ⟨yRi,28,fun _=>none⟩ yQP:=zkA mixed yc ⟨yF,yyR,yyT,trivial⟩
abbrev ynM:List Par:= [.rd tG,.rd tI,.rd tI]
abbrev yu2:List OT:= [⟨false,tI,.fz⟩]
def yq7 (a0:dG) (a1 a2:Int):Option (zaY yu2×zak ynM) :=let r1:=yei a0 a1;bif(!(!r1))then let r2:=ya a2 0 (i64.wrap (a0.1-2));bif(!r2)then some (((-1),()),()) else let r3:=ycW a0 a1;bif(a0.1 !=0)then some ((((i64.wrap ((i64.wrap (r3+1))+a2)).tmod a0.1),()),()) else none else some (((-1),()),())
theorem yMT:ConOk prog 242 ⟨ynM,yu2,fun x=>yq7 x.1 x.2.1 x.2.2.1⟩:=zkI (yIk) func242 ntmps242.symm fun x=>by kernel_rfl
def yjw (a0:dG) (a1 a2:Int):Int:=yba a0 a1 a2
theorem yO0 (a0:dG) (a1 a2:Int) (hk:zjx ynM (a0,a1,a2,())):yq7 a0 a1 a2=(fun n=>some ((n,()),())) (yjw a0 a1 a2):=by
 unfold yq7 yjw yba ycW;rw[yHv];cases hs:yO a0 a1
 ·rfl
 ·have h1:=yah.1 hs
  have h2:=yl.1 h1.1;have h3:=yiI hs;rw[ybA,wq (a0.1-2) (by omega) (by omega)];cases hi:(leb 0 a2&&leb a2 (a0.1-2))
  ·rfl
  ·rw[Bool.and_eq_true,zj7,zj7]at hi
   rw[show(a0.1 !=0)=true from bne_iff_ne.2 (by omega)];show some (((i64.wrap (i64.wrap (yg a0 a1+1)+a2)).tmod a0.1,()),())=some (((yg a0 a1+1+a2).tmod a0.1,()),());rw[wq (yg a0 a1+1) (by omega) (by omega),wq (yg a0 a1+1+a2) (by omega) (by omega)]
def yz0:Con:=⟨ynM,yu2,fun x=>(fun n=>some ((n,()),())) (yjw x.1 x.2.1 x.2.2.1)⟩
theorem yPK:ConOk prog 242 yz0:=(yMT).mono (fun x r hk h=>(yO0 x.1 x.2.1 x.2.2.1 hk).trans h)
def ynA:Code:=(f218.body).getD .skip
def yul:Env:=zkw TT [(227,yom),(242,yz0)] []
theorem yIy:FrOk prog ⟨yul,41,fun _=>none⟩ ynA:=zkA mixed yc ⟨yAr,yPK,trivial⟩
def yzx:Nat→Option Seg:=fun _=>none
def yb8:Shape:=⟨[(1,false,[.int .i64]),(2,false,[.ptr 0 0]),(6,false,[.at 800000000]),(7,false,[.bool]),(8,false,[.at 800000001]),(9,false,[.int .i64])],[(0,[.int .i64,.int .i64,.int .i64,.br tM,.int .i64,.int .i64,.int .i64,.int .i64,.int .i64,.br tW,.int .i64,.bool,.bool])],[(800000000,tI,.fz),(800000001,tI,.fz)]⟩
def yfz:Shape:=⟨[(1,false,[.int .i64]),(2,false,[.ptr 0 0]),(6,false,[.at 800000000]),(7,false,[.bool]),(8,false,[.at 800000001]),(9,false,[.ci .i64 0])],[(0,[.int .i64,.int .i64,.int .i64,.br tM,.int .i64,.int .i64,.int .i64,.int .i64,.int .i64,.br tW,.int .i64,.bool,.bool])],[(800000000,tI,.fz),(800000001,tI,.fz)]⟩
def yfo:Shape:=⟨[(7,false,[.bool]),(8,false,[.at 800000000])],[],[(800000000,tI,.fz)]⟩
def yiY:Shape:=⟨[],[],[]⟩
abbrev yeR (v0:Int) (v1:Bool) (v2:Int) (v3:dA) (v4 v5:List Int):(yb8).X:=(((v0,()),((),()),((),()),(v1,()),((),()),(v2,()),()),((v3.1,v3.2.1.1,v3.2.1.2,v3.2.2.1,v3.2.2.2.1,v3.2.2.2.2.1,v3.2.2.2.2.2.1,v3.2.2.2.2.2.2.1,v3.2.2.2.2.2.2.2.1,v3.2.2.2.2.2.2.2.2.1,v3.2.2.2.2.2.2.2.2.2.1,v3.2.2.2.2.2.2.2.2.2.2.1,v3.2.2.2.2.2.2.2.2.2.2.2,()),()),(v4,v5,()))
abbrev ywt (v0:Int) (v1:Bool) (v2:dA) (v3 v4:List Int):(yfz).X:=(((v0,()),((),()),((),()),(v1,()),((),()),((),()),()),((v2.1,v2.2.1.1,v2.2.1.2,v2.2.2.1,v2.2.2.2.1,v2.2.2.2.2.1,v2.2.2.2.2.2.1,v2.2.2.2.2.2.2.1,v2.2.2.2.2.2.2.2.1,v2.2.2.2.2.2.2.2.2.1,v2.2.2.2.2.2.2.2.2.2.1,v2.2.2.2.2.2.2.2.2.2.2.1,v2.2.2.2.2.2.2.2.2.2.2.2,()),()),(v3,v4,()))
abbrev ymS (v0:Bool) (v1:List Int):(yfo).X:=(((v0,()),((),()),()),(),(v1,()))
def yhN (v0:Int) (v1:Bool) (v2 v3 v4 v5:Int) (v6:List dM) (v7 v8 v9 v10 v11:Int) (v12:List dW) (v13:Int) (v14 v15:Bool) (v16 v17:List Int):Option ((yb8).X ⊕ ((yfo).X ⊕ (yiY).X)) :=bif(ltb v2 (i64.wrap (v4-1)))then bif v1 then let r3:=yjw (v4,v5) v0 v2;bif(inb r3 v16.length)then bif(zkl v17.length ([(nth v16 r3 0)]:List Int).length 8)then some (.inl (((v0,()),((),()),((),()),(v1,()),((),()),((i64.wrap (v2+1)),()),()),((v3,v4,v5,v6,v7,v8,v9,v10,v11,v12,v13,v14,v15,()),()),(v16,(v17++([(nth v16 r3 0)]:List Int)),()))) else none else none else some (.inr (.inl (((v1,()),((),()),()),(),(v17,())))) else some (.inr (.inl (((v1,()),((),()),()),(),(v17,()))))
def yax (x:(yb8).X):=yhN x.1.1.1 x.1.2.2.2.1.1 x.1.2.2.2.2.2.1.1 x.2.1.1.1 x.2.1.1.2.1 x.2.1.1.2.2.1 x.2.1.1.2.2.2.1 x.2.1.1.2.2.2.2.1 x.2.1.1.2.2.2.2.2.1 x.2.1.1.2.2.2.2.2.2.1 x.2.1.1.2.2.2.2.2.2.2.1 x.2.1.1.2.2.2.2.2.2.2.2.1 x.2.1.1.2.2.2.2.2.2.2.2.2.1 x.2.1.1.2.2.2.2.2.2.2.2.2.2.1 x.2.1.1.2.2.2.2.2.2.2.2.2.2.2.1 x.2.1.1.2.2.2.2.2.2.2.2.2.2.2.2.1 x.2.2.1 x.2.2.2.1
def ywa (x:(yfz).X):(yb8).X:=(((x.1.1.1,()),((),()),((),()),(x.1.2.2.2.1.1,()),((),()),(0,()),()),((x.2.1.1.1,x.2.1.1.2.1,x.2.1.1.2.2.1,x.2.1.1.2.2.2.1,x.2.1.1.2.2.2.2.1,x.2.1.1.2.2.2.2.2.1,x.2.1.1.2.2.2.2.2.2.1,x.2.1.1.2.2.2.2.2.2.2.1,x.2.1.1.2.2.2.2.2.2.2.2.1,x.2.1.1.2.2.2.2.2.2.2.2.2.1,x.2.1.1.2.2.2.2.2.2.2.2.2.2.1,x.2.1.1.2.2.2.2.2.2.2.2.2.2.2.1,x.2.1.1.2.2.2.2.2.2.2.2.2.2.2.2.1,()),()),(x.2.2.1,x.2.2.2.1,()))
def yxQ:Code:=(zd7 ynA 64 244).getD .skip
theorem yHT:zd7 ynA 64 61=some (.block 0 (.loop yxQ)):=by kernel_rfl
theorem yKq (x:(yb8).X):zhu ⟨yul,41,yzx⟩ 0 yxQ 244 yb8 yfo yiY x=yax x:=by kernel_rfl
def ywl (x:(yfz).X):Nat:=18446744073709551616
def yiO (x:(yfz).X):Option ((yfo).X ⊕ (yiY).X):=zF yax (ywl x) (ywa x)
def ywE:Seg:=⟨yfz,yfo,yiY,yiO⟩
def yKN:Nat→Option Seg:=fun q=>bif Nat.beq q 61 then some ywE else yzx q
theorem yIz:FrOk prog ⟨yul,41,yKN⟩ ynA:=(yIy).loop (sg:=ywE) yb8 ywa (by decide) yHT yax ywl (by decide) (fun _=>rfl) (fun x r _ h=>h) yKq
abbrev yjl:List Par:= [.rd tA,.rd tI]
abbrev ynV:List OT:= [⟨false,tL,(.ow .fz)⟩,⟨false,tB,.fz⟩]
def yrc (a0:dA) (a1:Int):Option (zaY ynV×zak yjl) :=bnd (yiw a0 a1) fun r1 =>zkt (yiO (((a1,()),((),()),((),()),(r1.1.2.1,()),((),()),((),()),()),((a0.1,a0.2.1.1,a0.2.1.2,a0.2.2.1,a0.2.2.2.1,a0.2.2.2.2.1,a0.2.2.2.2.2.1,a0.2.2.2.2.2.2.1,a0.2.2.2.2.2.2.2.1,a0.2.2.2.2.2.2.2.2.1,a0.2.2.2.2.2.2.2.2.2.1,a0.2.2.2.2.2.2.2.2.2.2.1,a0.2.2.2.2.2.2.2.2.2.2.2,()),()),(r1.1.1,([]:List Int),()))) (fun y3 =>some ((y3.2.2.1,y3.1.1.1,()),())) (fun y3 =>none)
theorem yM4:ConOk prog 218 ⟨yjl,ynV,fun x=>yrc x.1 x.2.1⟩:=zkI (yIz) func218 ntmps218.symm fun x=>by kernel_rfl
def yn0 (a0:dA) (a1:Int):List Int×Bool:=yta a0 a1
def yvt (a0:dA) (a1:Int):Bool:=yO a0.2.1 a1
theorem yO8 (a0:dA) (a1:Int) (hk:zjx yjl (a0,a1,())) (hq:yvt a0 a1=true):yrc a0 a1=(fun n=>some ((n.1,n.2,()),())) (yn0 a0 a1):=by
 have hs:yO a0.2.1 a1=true:=hq;have hg:=yl.1 (yah.1 hs).1;unfold yrc yn0 yta;rw[yAu a0 a1 (yah.1 hs).1,ye8];simp only[zkH];cases hw:(yP a0 a1).2
 ·have h1:yiO (ywt a1 false a0 (yP a0 a1).1 [])=some (.inl (ymS false [])) :=
   zkL (step:=yax) (fun i=>yeR a1 false i a0 (yP a0 a1).1 []) 0 _ (fun i hi=>absurd hi (Nat.not_lt_zero _)) (by
    simp only[yax,yeR,yhN,cond_false]
    cases ltb ((0:Nat):Int) (i64.wrap (a0.2.1.1-1))<;>rfl) _ (by show _<18446744073709551616; omega)
  rw[h1]; rfl
 ·have hL:=yFa hw
  have h1:yiO (ywt a1 true a0 (yP a0 a1).1 [])=some (.inl (ymS true ((List.range (a0.2.1.1-1).toNat).foldl (fun l (i:Nat)=>l++ [nth (yP a0 a1).1 (yba a0.2.1 a1 i) 0]) []))) :=
   zkD (step:=yax) (a0.2.1.1-1).toNat (fun i s=>yeR a1 true i a0 (yP a0 a1).1 s) (fun l (i:Nat)=>l++ [nth (yP a0 a1).1 (yba a0.2.1 a1 i) 0]) (fun i s=>s.length=i) (fun s=> .inl (ymS true s)) (fun i s hi hs2=>⟨by
    have hd:=yOz hs (show(0:Int)≤i by omega) (show(i:Int)≤a0.2.1.1-2 by omega);simp only[yax,yeR,yhN,wq (a0.2.1.1-1) (by omega) (by omega),zky (show(i:Int)<a0.2.1.1-1 by omega),cond_true,wq ((i:Int)+1) (by omega) (by omega),Int.natCast_add,Int.natCast_one,Int.toNat_natCast,zkX,yjw,zj6.2 (show 0≤yba a0.2.1 a1 i∧yba a0.2.1 a1 i<(yP a0 a1).1.length by omega)]
    rw[zkF.2 (show(s.length+ [nth (yP a0 a1).1 (yba a0.2.1 a1 i) 0].length)*8≤140737488355328 by simp only[List.length_cons,List.length_nil]; omega)]; rfl,by simp[hs2]⟩) (fun s hs2=>by simp only[yax,yeR,yhN,wq (a0.2.1.1-1) (by omega) (by omega),zk3 (show a0.2.1.1-1≤((a0.2.1.1-1).toNat:Int)by omega),cond_false]) [] rfl _ (by show _<18446744073709551616; omega)
  rw[h1,ywK]; rfl
def yn2 (a0:dA) (a1:Int):Option (zaY ynV×zak yjl):=bif yvt a0 a1 then(fun n=>some ((n.1,n.2,()),())) (yn0 a0 a1)else none
theorem yP0 (a0:dA) (a1:Int) (h:yvt a0 a1=true):yn2 a0 a1=(fun n=>some ((n.1,n.2,()),())) (yn0 a0 a1):=by unfold yn2; rw[h]; rfl
def yz8:Con:=⟨yjl,ynV,fun x=>yn2 x.1 x.2.1⟩
theorem yPS:ConOk prog 218 yz8:=(yM4).mono (fun x r hk h=>zkY h (fun hq=>yO8 x.1 x.2.1 hk hq))
end
end Go.Tf
