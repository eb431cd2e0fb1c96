/- Functions of the program, and what they come to. -/
import Derived.Test.YtgmadfpnljibhaaGreatExactSetBlockF4
namespace Go.Tf
noncomputable section
open Go.Proofs
set_option synthInstance.maxHeartbeats 400000
set_option synthInstance.maxSize 10000
set_option linter.unusedVariables false
set_option linter.unusedSimpArgs false
set_option maxRecDepth 100000
section
def yx9:Code:=(Tryz.f140.body).getD .skip
def yyJ:Env:=zki TT [(226,yw3)] []
theorem yDQ:FrOk Tryz.prog ⟨yyJ,25,fun _=>none⟩ yx9:=zkp yb yc ⟨yMB,trivial⟩
def yEF:Nat→Option Seg:=fun _=>none
abbrev yfJ:List Par:= [.rd tS]
abbrev ykP:List OT:= [⟨false,tL,(.ow .fz)⟩]
def ynX (a0:dS):Option (ResD ykP×MutD yfJ) :=
 let r1:=ynb a0
 bif (!r1) then
 some ((([]:List Int),()),())
 else
 some ((([21317,a0.1,a0.2.1,a0.2.2.1,a0.2.2.2.1,a0.2.2.2.2.1,a0.2.2.2.2.2.1,(IntKind.i64.wrap (a0.2.2.2.2.2.2.1+1)),a0.2.2.2.2.2.2.2]:List Int),()),())
theorem yKu (x:InD yfJ):zjH ⟨yyJ,25,yEF⟩ Tryz.f140.results.toList yx9 yfJ ykP x=ynX x.1:=by kernel_rfl
theorem yF7:ConOk Tryz.prog 140 ⟨yfJ,ykP,fun x=>ynX x.1⟩:=zkh (yDQ) Tryz.func140 (by kernel_rfl) (by kernel_rfl) Tryz.ntmps140.symm (by decide) (fun x r h=>(yKu x).trans h)
def yrn (a0:dS):(List Int) :=
 let r1:=ynb a0
 bif (!r1) then
 ([]:List Int)
 else
 ([21317,a0.1,a0.2.1,a0.2.2.1,a0.2.2.2.1,a0.2.2.2.2.1,a0.2.2.2.2.2.1,(IntKind.i64.wrap (a0.2.2.2.2.2.2.1+1)),a0.2.2.2.2.2.2.2]:List Int)
def yE1:Con:=⟨yfJ,ykP,fun x=>(fun n=>some ((n,()),())) (yrn x.1)⟩
theorem yIF (a0:dS):ynX a0=(fun n=>some ((n,()),())) (yrn a0):=zkS (p:=fun (n:(List Int))=>((n,()),())) (zkx (p:=fun (n:(List Int))=>((n,()),())) rfl rfl)
theorem yS6:ConOk Tryz.prog 140 yE1:=(yF7).mono (fun x r _ h=>(yIF x.1).trans h)
abbrev yu (a:dA):Bool:=a.2.2.2.2.2.2.2.2.2.2.1
def yTj (a:dA) (f:Int) (d:Bool):dA:=(a.1,a.2.1,a.2.2.1,a.2.2.2.1,a.2.2.2.2.1,a.2.2.2.2.2.1,a.2.2.2.2.2.2.1,a.2.2.2.2.2.2.2.1,a.2.2.2.2.2.2.2.2.1,f,d,a.2.2.2.2.2.2.2.2.2.2.2)
def opA (a:dA):Bool×dA:=bif yu a then (false,a) else bif a.2.2.2.2.2.2.2.2.2.1==0 then (false,yTj a (-1) true) else bif ltb 0 a.2.2.2.2.2.2.2.2.2.1 then (true,yTj a (IntKind.i64.wrap (a.2.2.2.2.2.2.2.2.2.1 - 1)) (yu a)) else (true,a)
def ySR (a:dA) (m:Int) (x:dM):dA:=(a.1,a.2.1,a.2.2.1.set m.toNat x,a.2.2.2)
def ynV (a:dA) (m n:Int) (s:List Int):dA:=bif (nth a.2.2.1 m yf).2.2.1 then a else bif (opA a).1 then ySR (opA a).2 m (ysF (nth a.2.2.1 m yf) n s).1 else (opA a).2
def yev (a:dA) (i:Nat):dA:=bif (nth a.2.2.1 i yf).2.2.1 then a else bif (opA a).1 then ySR (opA a).2 i (ysg (nth a.2.2.1 i yf)) else (opA a).2
def ydx (a:dA):dA:=(List.range a.2.2.1.length).foldl yev a
def yT4 (a:dA) (i:Int):dS:=(a.1,a.2.2.2.2.2.2.2.1,i,a.2.1.1,a.2.1.2,a.2.2.2.2.2.2.1,a.2.2.2.1,a.2.2.2.2.1)
def yA1 (a:dA) (i:Nat):dA:=ynV a i (a.2.2.2.2.2.2.2.1.tmod 2) (yrn (yT4 a i))
def yLi (a:dA):dA:=(a.1,a.2.1,a.2.2.1,a.2.2.2.1,a.2.2.2.2.1,a.2.2.2.2.2.1,a.2.2.2.2.2.2.1,IntKind.i64.wrap (a.2.2.2.2.2.2.2.1+1),a.2.2.2.2.2.2.2.2)
def ysN (a:dA):dA:=ydx ((List.range a.2.2.1.length).foldl yA1 (yLi a))
theorem yqc (a:dA):(opA a).2.2.2.1=a.2.2.1:=by
 unfold opA
 cases yu a
 ·cases (a.2.2.2.2.2.2.2.2.2.1==0)
  ·cases ltb 0 a.2.2.2.2.2.2.2.2.2.1<;>rfl
  ·rfl
 ·rfl
theorem ySs {a:dA} (h:yu a=false):yu (opA a).2= !(opA a).1:=by
 unfold opA
 rw [h]
 cases (a.2.2.2.2.2.2.2.2.2.1==0)
 ·cases ltb 0 a.2.2.2.2.2.2.2.2.2.1
  ·exact h
  ·rfl
 ·rfl
theorem ySt {a:dA} (h:yu a=true):opA a=(false,a):=by unfold opA; rw [h]; rfl
theorem yA7 (a:dA) (m n:Int) (s:List Int):(ynV a m n s).2.2.1.length=a.2.2.1.length:=by
 unfold ynV
 cases (nth a.2.2.1 m yf).2.2.1
 ·cases (opA a).1
  ·show (opA a).2.2.2.1.length=_; rw [yqc]
  ·show ((opA a).2.2.2.1.set m.toNat _).length=_; rw [List.length_set,yqc]
 ·rfl
theorem yGK (a:dA) (i:Nat):(yev a i).2.2.1.length=a.2.2.1.length:=by
 unfold yev
 cases (nth a.2.2.1 i yf).2.2.1
 ·cases (opA a).1
  ·show (opA a).2.2.2.1.length=_; rw [yqc]
  ·show ((opA a).2.2.2.1.set _ _).length=_; rw [List.length_set,yqc]
 ·rfl
theorem ypz {one:dA→Nat→dA} (h: ∀ a i,(one a i).2.2.1.length=a.2.2.1.length): ∀ (l:List Nat) (a:dA),(l.foldl one a).2.2.1.length=a.2.2.1.length
 | [],_=>rfl
 | x::l,a=>by rw [List.foldl_cons,ypz h l,h]
theorem yxV (a:dA):(ydx a).2.2.1.length=a.2.2.1.length:=ypz yGK _ _
theorem yR5 {a:dA} (h:yu a=true) (m n:Int) (s:List Int):ynV a m n s=a:=by
 unfold ynV
 rw [ySt h]
 cases (nth a.2.2.1 m yf).2.2.1<;>rfl
theorem ySb {a:dA} (i:Nat) (h:yu a=true):yev a i=a:=by
 unfold yev
 rw [ySt h]
 cases (nth a.2.2.1 i yf).2.2.1<;>rfl
theorem yDu {one:dA→Nat→dA} (hs: ∀ a i,yu a=true→one a i=a): ∀ (l:List Nat) (a:dA),yu a=true→l.foldl one a=a
 | [],_,_=>rfl
 | x::l,a,h=>by rw [List.foldl_cons,hs a x h]; exact yDu hs l a h
theorem yUr {a:dA} (h:yu a=true):ydx a=a:=yDu (fun _ i h=>ySb i h) _ a h
theorem yUA {a:dA} (h:yu a=false) (m n:Int) (s:List Int):yu (ynV a m n s)=(!(nth a.2.2.1 m yf).2.2.1&& !(opA a).1):=by
 have:=ySs h
 unfold ynV
 cases (nth a.2.2.1 m yf).2.2.1
 ·cases ho:(opA a).1
  ·rw [ho]at this; exact this
  ·rw [ho]at this; exact this
 ·exact h
theorem yTN {a:dA} (h:yu a=false) (i:Nat):yu (yev a i)=(!(nth a.2.2.1 i yf).2.2.1&& !(opA a).1):=by
 have:=ySs h
 unfold yev
 cases (nth a.2.2.1 i yf).2.2.1
 ·cases ho:(opA a).1
  ·rw [ho]at this; exact this
  ·rw [ho]at this; exact this
 ·exact h
theorem yS1 {one:dA→Nat→dA} (hs: ∀ a i,yu a=true→one a i=a): ∀ (k i:Nat) (s:dA),goE (fun i s=>bif yu (one s i) then (.inr (one s i):dA ⊕ dA) else .inl (one s i)) id k i s=(List.range' i k).foldl one s
 | 0,_,_=>rfl
 | k+1,i,s=>by
  rw [List.range'_succ,List.foldl_cons,goE]
  cases hd:yu (one s i)
  ·exact yS1 hs k (i+1) (one s i)
  ·exact (yDu hs _ _ hd).symm
theorem yR4 {a:dA} {m n:Int} {s:List Int} (h:yZ a.2.2.1) (hm:inb m a.2.2.1.length=true):yZ (ynV a m n s).2.2.1:=by
 unfold ynV
 cases (nth a.2.2.1 m yf).2.2.1
 ·cases (opA a).1
  ·show yZ (opA a).2.2.2.1; rw [yqc]; exact h
  ·show yZ ((opA a).2.2.2.1.set m.toNat _); rw [yqc]; exact yMj h (yTb _ _ (yPC h hm))
 ·exact h
theorem ySa {a:dA} {i:Nat} (h:yZ a.2.2.1) (hi:i < a.2.2.1.length):yZ (yev a i).2.2.1:=by
 unfold yev
 cases (nth a.2.2.1 i yf).2.2.1
 ·cases (opA a).1
  ·show yZ (opA a).2.2.2.1; rw [yqc]; exact h
  ·show yZ ((opA a).2.2.2.1.set _ _); rw [yqc]; exact yMj h (yS0 (yPC h (zkO hi)))
 ·exact h
theorem yDt {one:dA→Nat→dA} (hl: ∀ a i,(one a i).2.2.1.length=a.2.2.1.length) (ho: ∀ a i,yZ a.2.2.1→i < a.2.2.1.length→yZ (one a i).2.2.1): ∀ (n:Nat) (a:dA),n≤a.2.2.1.length→yZ a.2.2.1→yZ ((List.range n).foldl one a).2.2.1
 | 0,_,_,h=>h
 | n+1,a,hn,h=>by
  rw [List.range_succ,List.foldl_append]
  exact ho _ _ (yDt hl ho n a (by omega) h) (by rw [ypz hl]; exact hn)
theorem yzC {a:dA} (h:yZ a.2.2.1):yZ (ydx a).2.2.1:=yDt yGK (fun _ _=>ySa) _ a (Nat.le_refl _) h
theorem yDX {a:dA} (h:yZ a.2.2.1):yZ (ysN a).2.2.1 :=
 yzC (yDt (one:=yA1) (fun _ _=>yA7 _ _ _ _) (fun _ _ h hi=>yR4 h (zkO hi)) _ (yLi a) (Nat.le_refl _) h)
theorem yH2 (a:dA):(ysN a).2.2.1.length=a.2.2.1.length:=(yxV _).trans (ypz (one:=yA1) (fun _ _=>yA7 _ _ _ _) _ (yLi a))
theorem yBo (a:dA):(opA a).2.2.2.2.2.2.2.2.2.1=a.2.2.2.2.2.2.2.2.1:=by
 unfold opA
 cases yu a
 ·cases (a.2.2.2.2.2.2.2.2.2.1==0)
  ·cases ltb 0 a.2.2.2.2.2.2.2.2.2.1<;>rfl
  ·rfl
 ·rfl
theorem yPE (a:dA) (m n:Int) (s:List Int):(ynV a m n s).2.2.2.2.2.2.2.2.1=a.2.2.2.2.2.2.2.2.1:=by
 unfold ynV
 cases (nth a.2.2.1 m yf).2.2.1
 ·cases (opA a).1
  ·exact yBo a
  ·exact yBo a
 ·rfl
theorem yRh (a:dA) (i:Nat):(yev a i).2.2.2.2.2.2.2.2.1=a.2.2.2.2.2.2.2.2.1:=by
 unfold yev
 cases (nth a.2.2.1 i yf).2.2.1
 ·cases (opA a).1
  ·exact yBo a
  ·exact yBo a
 ·rfl
theorem yBg {one:dA→Nat→dA} (h: ∀ a i,(one a i).2.2.2.2.2.2.2.2.1=a.2.2.2.2.2.2.2.2.1): ∀ (l:List Nat) (a:dA),(l.foldl one a).2.2.2.2.2.2.2.2.1=a.2.2.2.2.2.2.2.2.1
 | [],_=>rfl
 | x::l,a=>by rw [List.foldl_cons,yBg h l,h]
theorem yvU (a:dA):(ydx a).2.2.2.2.2.2.2.2.1=a.2.2.2.2.2.2.2.2.1:=yBg yRh _ _
theorem yBj (a:dA):(ysN a).2.2.2.2.2.2.2.2.1=a.2.2.2.2.2.2.2.2.1:=(yvU _).trans (yBg (one:=yA1) (fun _ _=>yPE _ _ _ _) _ (yLi a))
theorem yPu {a x:dA} (ha:yd9 a≤2097152) (hl:x.2.2.1.length≤5) (hm:yZ x.2.2.1) (hd:x.2.2.2.2.2.2.2.2.1=a.2.2.2.2.2.2.2.2.1):yd9 x≤2105000:=by
 have:=yxE hm
 have:x.2.2.1.length * 1041≤5 * 1041:=Nat.mul_le_mul_right _ hl
 unfold yd9 at ha ⊢
 rw [hd]
 omega
theorem yG8 {a:dA} (h:yI a=true):a.2.2.1.length≤5:=by
 have h1:=yo.1 (ycY h)
 have h2:=yPt h
 omega
def yEt (a:dA):dA:=(a.1,a.2.1,a.2.2.1,a.2.2.2.1,a.2.2.2.2.1,a.2.2.2.2.2.1,a.2.2.2.2.2.1,a.2.2.2.2.2.2.2)
def yao (a:dA):dA:=bif yu (ydx a) then ydx a else ysN (yEt (ydx a))
theorem yKc {a:dA} (h:yZ a.2.2.1):yZ (yao a).2.2.1:=by
 unfold yao
 cases yu (ydx a)
 ·exact yDX (a:=yEt (ydx a)) (yzC h)
 ·exact yzC h
theorem yy2 (a:dA):(yao a).2.2.1.length=a.2.2.1.length:=by
 unfold yao
 cases yu (ydx a)
 ·exact (yH2 (yEt (ydx a))).trans (yxV a)
 ·exact yxV a
theorem ysM (a:dA):(yao a).2.2.2.2.2.2.2.2.1=a.2.2.2.2.2.2.2.2.1:=by
 unfold yao
 cases yu (ydx a)
 ·exact (yBj (yEt (ydx a))).trans (yvU a)
 ·exact yvU a
def ypx (b:dA):dA:=(b.1,b.2.1,b.2.2.1,-1,0,b.2.2.2.2.2)
def ywu (a:dA):dA×Int:=bif yu (yao a) then (yao a,6) else (ysN (ypx (yao a)),bif yu (ysN (ypx (yao a))) then 6 else 0)
def yJ9 (a:dA):dA×Int :=
 bif !(yI a) then (a,1) else bif yu a then (a,6) else bif a.2.2.2.1== -1||((nth a.2.2.1 a.2.2.2.1 yf).2.2.1||ltb a.2.2.2.2.1 a.2.1.2) then (a,2) else bif a.2.2.2.2.2.2.2.2.2.2.2 then (a,5) else bif leb 59990 a.2.2.2.2.2.2.2.1 then (a,7) else ywu a
theorem yTV {a:dA} (ha:yd9 a≤2097152):yd9 (yJ9 a).1≤2105000:=by
 have h0:yd9 a≤2105000:=by omega
 unfold yJ9
 cases hk:yI a
 ·exact h0
 have h5:=yG8 hk
 have hc:=yKc (yBe hk)
 have hn:=yPu (x:=ysN (ypx (yao a))) ha (by rw [yH2,show (ypx (yao a)).2.2.1=(yao a).2.2.1 from rfl,yy2]; exact h5) (yDX (a:=ypx (yao a)) hc) ((yBj _).trans (ysM a))
 have hn2:=yPu (x:=yao a) ha (by rw [yy2]; exact h5) hc (ysM a)
 cases yu a
 ·cases (a.2.2.2.1== -1||((nth a.2.2.1 a.2.2.2.1 yf).2.2.1||ltb a.2.2.2.2.1 a.2.1.2))
  ·cases a.2.2.2.2.2.2.2.2.2.2.2
   ·cases leb 59990 a.2.2.2.2.2.2.2.1
    ·show yd9 (ywu a).1≤_
     unfold ywu
     cases yu (yao a)
     ·exact hn
     ·exact hn2
    ·exact h0
   ·exact h0
  ·exact h0
 ·exact h0
def yaL (a:dA):Int×(Int×Int)×Int×Int×Int×Int×Int×List dW×Bool:=(a.1,a.2.1,a.2.2.2.1,a.2.2.2.2.1,a.2.2.2.2.2.1,a.2.2.2.2.2.2.1,a.2.2.2.2.2.2.2.1,a.2.2.2.2.2.2.2.2.1,a.2.2.2.2.2.2.2.2.2.2.2)
theorem yEz (a:dA):yaL (opA a).2=yaL a:=by
 unfold opA
 cases yu a
 ·cases (a.2.2.2.2.2.2.2.2.2.1==0)
  ·cases ltb 0 a.2.2.2.2.2.2.2.2.2.1<;>rfl
  ·rfl
 ·rfl
theorem yJj (a:dA) (m n:Int) (s:List Int):yaL (ynV a m n s)=yaL a:=by
 unfold ynV
 cases (nth a.2.2.1 m yf).2.2.1
 ·cases (opA a).1
  ·exact yEz a
  ·exact yEz a
 ·rfl
theorem yR9 (a:dA) (i:Nat):yaL (yev a i)=yaL a:=by
 unfold yev
 cases (nth a.2.2.1 i yf).2.2.1
 ·cases (opA a).1
  ·exact yEz a
  ·exact yEz a
 ·rfl
theorem ytn {one:dA→Nat→dA} (h: ∀ a i,yaL (one a i)=yaL a): ∀ (l:List Nat) (a:dA),yaL (l.foldl one a)=yaL a
 | [],_=>rfl
 | x::l,a=>by rw [List.foldl_cons,ytn h l,h]
theorem yzB (a:dA):yaL (ydx a)=yaL a:=ytn yR9 _ _
theorem ySJ (a:dA):yaL (ysN a)=yaL (yLi a):=(yzB _).trans (ytn (one:=yA1) (fun _ _=>yJj _ _ _ _) _ _)
theorem yG9 {a b:dA} (h:yaL a=yaL b):a.2.1=b.2.1:=congrArg (fun x=>x.2.1) h
theorem yT1 {a b:dA} (h:yaL a=yaL b):a.2.2.2.2.1=b.2.2.2.2.1:=congrArg (fun x=>x.2.2.2.1) h
theorem yKf {a b:dA} (h:yaL a=yaL b):a.2.2.2.2.2.2.2.2.1=b.2.2.2.2.2.2.2.2.1:=congrArg (fun x=>x.2.2.2.2.2.2.2.1) h
def yeC (d:List dW) (x:dA):Prop:=x.2.2.1.length≤5∧yZ x.2.2.1∧x.2.2.2.2.2.2.2.2.1=d
theorem yUy {a:dA} (h:yI a=true):yeC a.2.2.2.2.2.2.2.2.1 a:=⟨yG8 h,yBe h,rfl⟩
theorem yRQ {d:List dW} {a:dA} {m n:Int} {s:List Int} (h:yeC d a) (hm:inb m a.2.2.1.length=true):yeC d (ynV a m n s):=⟨by rw [yA7]; exact h.1,yR4 h.2.1 hm,(yPE _ _ _ _).trans h.2.2⟩
theorem ySP {d:List dW} {a:dA} (h:yeC d a):yeC d (ydx a):=⟨by rw [yxV]; exact h.1,yzC h.2.1,(yvU _).trans h.2.2⟩
theorem ySO {d:List dW} {a:dA} (h:yeC d a):yeC d (ysN a):=⟨by rw [yH2]; exact h.1,yDX h.2.1,(yBj _).trans h.2.2⟩
theorem yLn {d:List dW} {a:dA} (h:yeC d a):yeC d (yao a):=⟨by rw [yy2]; exact h.1,yKc h.2.1,(ysM _).trans h.2.2⟩
theorem ySB {d:List dW} {x:dA} (h:yeC d x):yd9 x≤yhl d+5205:=by
 have:=yxE h.2.1
 have:x.2.2.1.length * 1041≤5 * 1041:=Nat.mul_le_mul_right _ h.1
 unfold yd9
 rw [h.2.2]
 omega
theorem yUt {a x:dA} (ha:yd9 a≤2097152) (h:yeC a.2.2.2.2.2.2.2.2.1 x):yd9 x≤2105000:=by
 have:=ySB h
 unfold yd9 at ha
 omega
theorem yT2 {d:List dW} {a:dA} (h:yeC d a):yeC d (yJ9 a).1:=by
 have hn:yeC d (ysN (ypx (yao a))):=ySO (a:=ypx (yao a)) (yLn h)
 unfold yJ9
 cases yI a
 ·exact h
 cases yu a
 ·cases (a.2.2.2.1== -1||((nth a.2.2.1 a.2.2.2.1 yf).2.2.1||ltb a.2.2.2.2.1 a.2.1.2))
  ·cases a.2.2.2.2.2.2.2.2.2.2.2
   ·cases leb 59990 a.2.2.2.2.2.2.2.1
    ·show yeC d (ywu a).1
     unfold ywu
     cases yu (yao a)
     ·exact hn
     ·exact yLn h
    ·exact h
   ·exact h
  ·exact h
 ·exact h
end
section
def yBL:Code:=(Tryz.f146.body).getD .skip
def yB8:Env:=zki TT [(46,yse),(135,yl),(225,yeU)] []
theorem yHZ:FrOk Tryz.prog ⟨yB8,48,fun _=>none⟩ yBL:=zkp yb yc ⟨yCh,yv,yk3,trivial⟩
def yJV:Nat→Option Seg:=fun _=>none
abbrev yjP:List Par:= [.rd tA,.rd tI,.rd tL]
abbrev yo7:List OT:= [⟨false,tI,.fz⟩]
def yrF (a0:dA) (a1:Int) (a2:List Int):Option (ResD yo7×MutD yjP) :=
 let r1:=yb3 a0
 bif (!(!r1)) then
 bif (!((a2.length:Int) !=(IntKind.i64.wrap (a0.2.1.1 - 1)))) then
 let r2:=yy a2
 bif (!r2) then
 some ((1,()),())
 else
 bif a0.2.2.2.2.2.2.2.2.2.2.1 then
 some ((6,()),())
 else
 let r3:=ya a1 0 (IntKind.i64.wrap (a0.2.1.2 - 1))
 bif (!r3) then
 some ((2,()),())
 else
 bif a0.2.2.2.2.2.2.2.2.2.2.2 then
 some ((5,()),())
 else
 bif (!(leb 60000 a0.2.2.2.2.2.1)) then
 bif (leb 59990 a0.2.2.2.2.2.2.2.1) then
 some ((7,()),())
 else
 some ((0,()),())
 else
 some ((7,()),())
 else
 some ((1,()),())
 else
 some ((1,()),())
theorem yQg (x:InD yjP):zjH ⟨yB8,48,yJV⟩ Tryz.f146.results.toList yBL yjP yo7 x=yrF x.1 x.2.1 x.2.2.1:=by kernel_rfl
theorem yMh:ConOk Tryz.prog 146 ⟨yjP,yo7,fun x=>yrF x.1 x.2.1 x.2.2.1⟩:=zkh (yHZ) Tryz.func146 (by kernel_rfl) (by kernel_rfl) Tryz.ntmps146.symm (by decide) (fun x r h=>(yQg x).trans h)
def yfx (a0:dA) (a1:Int) (a2:List Int):Int :=
 let r1:=yb3 a0
 bif (!(!r1)) then
 bif (!((a2.length:Int) !=(IntKind.i64.wrap (a0.2.1.1 - 1)))) then
 let r2:=yy a2
 bif (!r2) then
 1
 else
 bif a0.2.2.2.2.2.2.2.2.2.2.1 then
 6
 else
 let r3:=ya a1 0 (IntKind.i64.wrap (a0.2.1.2 - 1))
 bif (!r3) then
 2
 else
 bif a0.2.2.2.2.2.2.2.2.2.2.2 then
 5
 else
 bif (!(leb 60000 a0.2.2.2.2.2.1)) then
 bif (leb 59990 a0.2.2.2.2.2.2.2.1) then
 7
 else
 0
 else
 7
 else
 1
 else
 1
def yKe:Con:=⟨yjP,yo7,fun x=>(fun n=>some ((n,()),())) (yfx x.1 x.2.1 x.2.2.1)⟩
theorem yOr (a0:dA) (a1:Int) (a2:List Int):yrF a0 a1 a2=(fun n=>some ((n,()),())) (yfx a0 a1 a2):=zkS (p:=fun (n:Int)=>((n,()),())) (zkx (p:=fun (n:Int)=>((n,()),())) (zkx (p:=fun (n:Int)=>((n,()),())) (zkx (p:=fun (n:Int)=>((n,()),())) rfl (zkx (p:=fun (n:Int)=>((n,()),())) rfl (zkx (p:=fun (n:Int)=>((n,()),())) rfl (zkx (p:=fun (n:Int)=>((n,()),())) rfl (zkx (p:=fun (n:Int)=>((n,()),())) (zkx (p:=fun (n:Int)=>((n,()),())) rfl rfl) rfl))))) rfl) rfl)
theorem yTz:ConOk Tryz.prog 146 yKe:=(yMh).mono (fun x r _ h=>(yOr x.1 x.2.1 x.2.2.1).trans h)
end
section
def yBH:Code:=(Tryz.f160.body).getD .skip
def yB4:Env:=zki TT [] []
theorem yHL:FrOk Tryz.prog ⟨yB4,8,fun _=>none⟩ yBH:=zkp yb yc trivial
def yJR:Nat→Option Seg:=fun _=>none
abbrev yjM:List Par:= [.rd tI]
abbrev yo1:List OT:= [⟨false,tI,.fz⟩]
def yrC (a0:Int):Option (ResD yo1×MutD yjM) :=
 bif (ltb a0 0) then
 some (((-1),()),())
 else
 some (((IntKind.i64.wrap (2+(a0.tmod 4))),()),())
theorem yP8 (x:InD yjM):zjH ⟨yB4,8,yJR⟩ Tryz.f160.results.toList yBH yjM yo1 x=yrC x.1:=by kernel_rfl
theorem yL9:ConOk Tryz.prog 160 ⟨yjM,yo1,fun x=>yrC x.1⟩:=zkh (yHL) Tryz.func160 (by kernel_rfl) (by kernel_rfl) Tryz.ntmps160.symm (by decide) (fun x r h=>(yP8 x).trans h)
def yt5 (a0:Int):Int :=
 bif (ltb a0 0) then
 (-1)
 else
 (IntKind.i64.wrap (2+(a0.tmod 4)))
def yKd:Con:=⟨yjM,yo1,fun x=>(fun n=>some ((n,()),())) (yt5 x.1)⟩
theorem yOj (a0:Int):yrC a0=(fun n=>some ((n,()),())) (yt5 a0):=zkS (p:=fun (n:Int)=>((n,()),())) (zkx (p:=fun (n:Int)=>((n,()),())) rfl rfl)
theorem yTy:ConOk Tryz.prog 160 yKd:=(yL9).mono (fun x r _ h=>(yOj x.1).trans h)
end
section
def yx7:Code:=(Tryz.f242.body).getD .skip
def yyH:Env:=zki TT [(120,yy3),(126,yp)] []
theorem yDC:FrOk Tryz.prog ⟨yyH,10,fun _=>none⟩ yx7:=zkp yb yc ⟨yOX,yF,trivial⟩
def yED:Nat→Option Seg:=fun _=>none
abbrev yfI:List Par:= [.rd tG,.rd tI]
abbrev ykH:List OT:= [⟨false,tB,.fz⟩]
def ynW (a0:dG) (a1:Int):Option (ResD ykH×MutD yfI) :=
 let r1:=yjY a0
 let r2:=ye a1 0 (IntKind.i64.wrap (r1 - 1))
 some ((r2,()),())
theorem yKm (x:InD yfI):zjH ⟨yyH,10,yED⟩ Tryz.f242.results.toList yx7 yfI ykH x=ynW x.1 x.2.1:=by kernel_rfl
theorem yFZ:ConOk Tryz.prog 242 ⟨yfI,ykH,fun x=>ynW x.1 x.2.1⟩:=zkh (yDC) Tryz.func242 (by kernel_rfl) (by kernel_rfl) Tryz.ntmps242.symm (by decide) (fun x r h=>(yKm x).trans h)
def yaM (a0:dG) (a1:Int):Bool :=
 let r1:=yjY a0
 let r2:=ye a1 0 (IntKind.i64.wrap (r1 - 1))
 r2
def yhk:Con:=⟨yfI,ykH,fun x=>(fun n=>some ((n,()),())) (yaM x.1 x.2.1)⟩
theorem yIx (a0:dG) (a1:Int):ynW a0 a1=(fun n=>some ((n,()),())) (yaM a0 a1):=zkS (p:=fun (n:Bool)=>((n,()),())) rfl
theorem ypK:ConOk Tryz.prog 242 yhk:=(yFZ).mono (fun x r _ h=>(yIx x.1 x.2.1).trans h)
theorem yzG (g:dG) (b:Int):yaM g b=ygx g b:=by
 unfold yaM
 simp only [yNR,yaf,yKb]
end
section
def yvX:Code:=(Tryz.f171.body).getD .skip
def yws:Env:=zki TT [(45,ysc),(242,yhk)] []
theorem yCm:FrOk Tryz.prog ⟨yws,18,fun _=>none⟩ yvX:=zkp yb yc ⟨yCf,ypK,trivial⟩
def yCV:Nat→Option Seg:=fun _=>none
abbrev yey:List Par:= [.rd tA,.rd tI]
abbrev yiP:List OT:= [⟨false,tI,.fz⟩]
def ymg (a0:dA) (a1:Int):Option (ResD yiP×MutD yey) :=
 let r1:=yc0 a0
 bif (!r1) then
 some ((1,()),())
 else
 bif a0.2.2.2.2.2.2.2.2.2.2.1 then
 some ((6,()),())
 else
 let r2:=yaM a0.2.1 a1
 bif (!r2) then
 some ((2,()),())
 else
 some ((0,()),())
theorem yHa (x:InD yey):zjH ⟨yws,18,yCV⟩ Tryz.f171.results.toList yvX yey yiP x=ymg x.1 x.2.1:=by kernel_rfl
theorem yEh:ConOk Tryz.prog 171 ⟨yey,yiP,fun x=>ymg x.1 x.2.1⟩:=zkh (yCm) Tryz.func171 (by kernel_rfl) (by kernel_rfl) Tryz.ntmps171.symm (by decide) (fun x r h=>(yHa x).trans h)
def yeX (a0:dA) (a1:Int):Int :=
 let r1:=yc0 a0
 bif (!r1) then
 1
 else
 bif a0.2.2.2.2.2.2.2.2.2.2.1 then
 6
 else
 let r2:=yaM a0.2.1 a1
 bif (!r2) then
 2
 else
 0
def ys3:Con:=⟨yey,yiP,fun x=>(fun n=>some ((n,()),())) (yeX x.1 x.2.1)⟩
theorem yFQ (a0:dA) (a1:Int):ymg a0 a1=(fun n=>some ((n,()),())) (yeX a0 a1):=zkS (p:=fun (n:Int)=>((n,()),())) (zkx (p:=fun (n:Int)=>((n,()),())) rfl (zkx (p:=fun (n:Int)=>((n,()),())) rfl (zkx (p:=fun (n:Int)=>((n,()),())) rfl rfl)))
theorem yGc:ConOk Tryz.prog 171 ys3:=(yEh).mono (fun x r _ h=>(yFQ x.1 x.2.1).trans h)
theorem yRO (a:dA) (b:Int):yeX a b=yan a b:=by
 unfold yeX yan yc0
 simp only [yzG]
 cases yI a<;>cases a.2.2.2.2.2.2.2.2.2.2.1<;>cases ygx a.2.1 b<;>rfl
end
section
def yBv:Code:=(Tryz.f47.body).getD .skip
def yBS:Env:=zki TT [(126,yp)] []
theorem yHj:FrOk Tryz.prog ⟨yBS,34,fun _=>none⟩ yBv:=zkp yb yc ⟨yF,trivial⟩
def yJF:Nat→Option Seg:=fun _=>none
abbrev yfg:List Par:= [.rd tA,.rd tI,.rd tI]
abbrev yoI:List OT:= [⟨false,tB,.fz⟩]
def yk6 (a0:dA) (a1 a2:Int):Option (ResD yoI×MutD yfg) :=
 let r1:=ye a1 0 (IntKind.i64.wrap ((a0.2.2.1.length:Int) - 1))
 bif r1 then
 bif (inb a1 a0.2.2.1.length) then
 bif (!((((nth a0.2.2.1 a1 ([],[],false,[])).2).2).1)) then
 bif (!(a0.2.2.2.1 !=a1)) then
 some (((ltb a2 a0.2.2.2.2.1),()),())
 else
 some ((true,()),())
 else
 some ((false,()),())
 else none
 else
 some ((false,()),())
theorem yPO (x:InD yfg):zjH ⟨yBS,34,yJF⟩ Tryz.f47.results.toList yBv yfg yoI x=yk6 x.1 x.2.1 x.2.2.1:=by kernel_rfl
theorem yLP:ConOk Tryz.prog 47 ⟨yfg,yoI,fun x=>yk6 x.1 x.2.1 x.2.2.1⟩:=zkh (yHj) Tryz.func47 (by kernel_rfl) (by kernel_rfl) Tryz.ntmps47.symm (by decide) (fun x r h=>(yPO x).trans h)
def yj1 (a0:dA) (a1 a2:Int):Bool:=yeV a0 a1 a2
theorem yNZ (a0:dA) (a1 a2:Int) (hk:zi9 yfg (a0,a1,a2,())):yk6 a0 a1 a2=(fun n=>some ((n,()),())) (yj1 a0 a1 a2):=by
 have hb:a0.2.2.1.length * 80≤2 ^ 47:=hk.1.2.2.1.1
 unfold yk6 yj1 yeV yf
 rw [yaf,yrh (show a0.2.2.1.length≤1152921504606846976 by omega),bne_comm]
 cases inb a1 a0.2.2.1.length
 ·rfl
 ·cases (nth a0.2.2.1 a1 ([],[],false,[])).2.2.1<;>cases (a1 !=a0.2.2.2.1)<;>rfl
def yy7:Con:=⟨yfg,yoI,fun x=>(fun n=>some ((n,()),())) (yj1 x.1 x.2.1 x.2.2.1)⟩
theorem yO1:ConOk Tryz.prog 47 yy7:=(yLP).mono (fun x r hk h=>(yNZ x.1 x.2.1 x.2.2.1 hk).trans h)
end
end
end Go.Tf
