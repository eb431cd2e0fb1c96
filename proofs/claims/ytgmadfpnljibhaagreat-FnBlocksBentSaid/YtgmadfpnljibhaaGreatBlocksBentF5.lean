/- Functions of the program, and what they come to. -/
import Derived.Test.YtgmadfpnljibhaaGreatBlocksBentF4
namespace Go.Tf
noncomputable section
open Go.Proofs
set_option synthInstance.maxHeartbeats 400000
set_option synthInstance.maxSize 10000
set_option linter.unusedVariables false
set_option linter.unusedSimpArgs false
set_option maxRecDepth 100000
section
def yGd:Code:=(Tryz.f140.body).getD .skip
def yGT:Env:=zj3 TT [(226,yEw)] []
theorem yOA:FrOk Tryz.prog ⟨yGT,25,fun _=>none⟩ yGd:=zj7 yb yc ⟨yZt,trivial⟩
def yPZ:Nat→Option Seg:=fun _=>none
abbrev yjt:List Par:= [.rd tS]
abbrev ypV:List OT:= [⟨false,tL,(.ow .fz)⟩]
def ytB (a0:dS):Option (ResD ypV×MutD yjt) :=
 let r1:=ybG a0
 bif (!r1) then
 some ((([]:List Int),()),())
 else
 some ((([21317,a0.1,a0.2.1,a0.2.2.1,a0.2.2.2.1,a0.2.2.2.2.1,a0.2.2.2.2.2.1,(IntKind.i64.wrap (a0.2.2.2.2.2.2.1+1)),a0.2.2.2.2.2.2.2]:List Int),()),())
theorem yW9 (x:InD yjt):zjx ⟨yGT,25,yPZ⟩ Tryz.f140.results.toList yGd yjt ypV x=ytB x.1:=by kernel_rfl
theorem yRN:ConOk Tryz.prog 140 ⟨yjt,ypV,fun x=>ytB x.1⟩:=zj2 (yOA) Tryz.func140 (by kernel_rfl) (by kernel_rfl) Tryz.ntmps140.symm (by decide) (fun x r h=>(yW9 x).trans h)
def yM (a0:dS):(List Int) :=
 let r1:=ybG a0
 bif (!r1) then
 ([]:List Int)
 else
 ([21317,a0.1,a0.2.1,a0.2.2.1,a0.2.2.2.1,a0.2.2.2.2.1,a0.2.2.2.2.2.1,(IntKind.i64.wrap (a0.2.2.2.2.2.2.1+1)),a0.2.2.2.2.2.2.2]:List Int)
def ytg:Con:=⟨yjt,ypV,fun x=>(fun n=>some ((n,()),())) (yM x.1)⟩
theorem yUK (a0:dS):ytB a0=(fun n=>some ((n,()),())) (yM a0):=zkq (p:=fun (n:(List Int))=>((n,()),())) (zkc (p:=fun (n:(List Int))=>((n,()),())) rfl rfl)
theorem yFo:ConOk Tryz.prog 140 ytg:=(yRN).mono (fun x r _ h=>(yUK x.1).trans h)
abbrev ye (a:dA):Bool:=a.2.2.2.2.2.2.2.2.2.2.1
def y4j (a:dA) (f:Int) (d:Bool):dA:=(a.1,a.2.1,a.2.2.1,a.2.2.2.1,a.2.2.2.2.1,a.2.2.2.2.2.1,a.2.2.2.2.2.2.1,a.2.2.2.2.2.2.2.1,a.2.2.2.2.2.2.2.2.1,f,d,a.2.2.2.2.2.2.2.2.2.2.2)
def opA (a:dA):Bool×dA:=bif ye a then (false,a) else bif a.2.2.2.2.2.2.2.2.2.1==0 then (false,y4j a (-1) true) else bif ltb 0 a.2.2.2.2.2.2.2.2.2.1 then (true,y4j a (IntKind.i64.wrap (a.2.2.2.2.2.2.2.2.2.1 - 1)) (ye a)) else (true,a)
def setMem (a:dA) (m:Int) (x:dM):dA:=(a.1,a.2.1,a.2.2.1.set m.toNat x,a.2.2.2)
def yds (a:dA) (m n:Int) (s:List Int):dA:=bif (nth a.2.2.1 m noMem).2.2.1 then a else bif (opA a).1 then setMem (opA a).2 m (ygv (nth a.2.2.1 m noMem) n s).1 else (opA a).2
def yD (a:dA) (i:Nat):dA:=bif (nth a.2.2.1 i noMem).2.2.1 then a else bif (opA a).1 then setMem (opA a).2 i (ye4 (nth a.2.2.1 i noMem)) else (opA a).2
def yK (a:dA):dA:=(List.range a.2.2.1.length).foldl yD a
def y7O (a:dA) (i:Int):dS:=(a.1,a.2.2.2.2.2.2.2.1,i,a.2.1.1,a.2.1.2,a.2.2.2.2.2.2.1,a.2.2.2.1,a.2.2.2.2.1)
def yaL (a:dA) (i:Nat):dA:=yds a i (a.2.2.2.2.2.2.2.1.tmod 2) (yM (y7O a i))
def yhe (a:dA):dA:=(a.1,a.2.1,a.2.2.1,a.2.2.2.1,a.2.2.2.2.1,a.2.2.2.2.2.1,a.2.2.2.2.2.2.1,IntKind.i64.wrap (a.2.2.2.2.2.2.2.1+1),a.2.2.2.2.2.2.2.2)
def markA (a:dA):dA:=yK ((List.range a.2.2.1.length).foldl yaL (yhe a))
theorem yaN (a:dA):(opA a).2.2.2.1=a.2.2.1:=by
 unfold opA
 cases ye a
 ·cases (a.2.2.2.2.2.2.2.2.2.1==0)
  ·cases ltb 0 a.2.2.2.2.2.2.2.2.2.1<;>rfl
  ·rfl
 ·rfl
theorem y2k {a:dA} (h:ye a=false):ye (opA a).2= !(opA a).1:=by
 unfold opA
 rw [h]
 cases (a.2.2.2.2.2.2.2.2.2.1==0)
 ·cases ltb 0 a.2.2.2.2.2.2.2.2.2.1
  ·exact h
  ·rfl
 ·rfl
theorem y5Q {a:dA} (h:ye a=true):opA a=(false,a):=by unfold opA; rw [h]; rfl
theorem ywh (a:dA) (m n:Int) (s:List Int):(yds a m n s).2.2.1.length=a.2.2.1.length:=by
 unfold yds
 cases (nth a.2.2.1 m noMem).2.2.1
 ·cases (opA a).1
  ·show (opA a).2.2.2.1.length=_; rw [yaN]
  ·show ((opA a).2.2.2.1.set m.toNat _).length=_; rw [List.length_set,yaN]
 ·rfl
theorem yoW (a:dA) (i:Nat):(yD a i).2.2.1.length=a.2.2.1.length:=by
 unfold yD
 cases (nth a.2.2.1 i noMem).2.2.1
 ·cases (opA a).1
  ·show (opA a).2.2.2.1.length=_; rw [yaN]
  ·show ((opA a).2.2.2.1.set _ _).length=_; rw [List.length_set,yaN]
 ·rfl
theorem yvn {one:dA→Nat→dA} (h: ∀ a i,(one a i).2.2.1.length=a.2.2.1.length): ∀ (l:List Nat) (a:dA),(l.foldl one a).2.2.1.length=a.2.2.1.length
 | [],_=>rfl
 | x::l,a=>by rw [List.foldl_cons,yvn h l,h]
theorem yFS (a:dA):(yK a).2.2.1.length=a.2.2.1.length:=yvn yoW _ _
theorem yVz {a:dA} (h:ye a=true) (m n:Int) (s:List Int):yds a m n s=a:=by
 unfold yds
 rw [y5Q h]
 cases (nth a.2.2.1 m noMem).2.2.1<;>rfl
theorem yPD {a:dA} (i:Nat) (h:ye a=true):yD a i=a:=by
 unfold yD
 rw [y5Q h]
 cases (nth a.2.2.1 i noMem).2.2.1<;>rfl
theorem yN5 {one:dA→Nat→dA} (hs: ∀ a i,ye a=true→one a i=a): ∀ (l:List Nat) (a:dA),ye a=true→l.foldl one a=a
 | [],_,_=>rfl
 | x::l,a,h=>by rw [List.foldl_cons,hs a x h]; exact yN5 hs l a h
theorem y2P {a:dA} (h:ye a=true):yK a=a:=yN5 (fun _ i h=>yPD i h) _ a h
theorem y65 {a:dA} (h:ye a=false) (m n:Int) (s:List Int):ye (yds a m n s)=(!(nth a.2.2.1 m noMem).2.2.1&& !(opA a).1):=by
 have:=y2k h
 unfold yds
 cases (nth a.2.2.1 m noMem).2.2.1
 ·cases ho:(opA a).1
  ·rw [ho]at this; exact this
  ·rw [ho]at this; exact this
 ·exact h
theorem y5i {a:dA} (h:ye a=false) (i:Nat):ye (yD a i)=(!(nth a.2.2.1 i noMem).2.2.1&& !(opA a).1):=by
 have:=y2k h
 unfold yD
 cases (nth a.2.2.1 i noMem).2.2.1
 ·cases ho:(opA a).1
  ·rw [ho]at this; exact this
  ·rw [ho]at this; exact this
 ·exact h
theorem yE6 {one:dA→Nat→dA} (hs: ∀ a i,ye a=true→one a i=a): ∀ (k i:Nat) (s:dA),goE (fun i s=>bif ye (one s i) then (.inr (one s i):dA ⊕ dA) else .inl (one s i)) id k i s=(List.range' i k).foldl one s
 | 0,_,_=>rfl
 | k+1,i,s=>by
  rw [List.range'_succ,List.foldl_cons,goE]
  cases hd:ye (one s i)
  ·exact yE6 hs k (i+1) (one s i)
  ·exact (yN5 hs _ _ hd).symm
def yKg (a:dA) (m:Int):dA:=(a.1,a.2.1,a.2.2.1.set m.toNat (yDD (nth a.2.2.1 m noMem)),m,0,a.2.2.2.2.2)
def yXi (a:dA) (m:Int):dA:=(a.1,a.2.1,a.2.2.1.set m.toNat (yDD (nth a.2.2.1 m noMem)),a.2.2.2.1,a.2.2.2.2.1,a.2.2.2.2.2.1,a.2.2.2.2.2.2.1,a.2.2.2.2.2.2.2.1,a.2.2.2.2.2.2.2.2.1,a.2.2.2.2.2.2.2.2.2.1,a.2.2.2.2.2.2.2.2.2.2.1,true)
def failOne (a:dA) (m:Int):dA:=bif a.2.2.2.1== -1||a.2.2.2.1==m then (bif !(ye a)&&(!a.2.2.2.2.2.2.2.2.2.2.2&&ltb a.2.2.2.2.2.2.2.1 60000) then markA (yKg a m) else yKg a m) else yXi a m
theorem y5c {a:dA} {m n:Int} {s:List Int} (h:ya7 a.2.2.1) (hm:inb m a.2.2.1.length=true):ya7 (yds a m n s).2.2.1:=by
 unfold yds
 cases (nth a.2.2.1 m noMem).2.2.1
 ·cases (opA a).1
  ·show ya7 (opA a).2.2.2.1; rw [yaN]; exact h
  ·show ya7 ((opA a).2.2.2.1.set m.toNat _); rw [yaN]; exact yZj h (yVO _ _ (y2K h hm))
 ·exact h
theorem y5j {a:dA} {i:Nat} (h:ya7 a.2.2.1) (hi:i < a.2.2.1.length):ya7 (yD a i).2.2.1:=by
 unfold yD
 cases (nth a.2.2.1 i noMem).2.2.1
 ·cases (opA a).1
  ·show ya7 (opA a).2.2.2.1; rw [yaN]; exact h
  ·show ya7 ((opA a).2.2.2.1.set _ _); rw [yaN]; exact yZj h (yS1 (y2K h (zkm hi)))
 ·exact h
theorem yN4 {one:dA→Nat→dA} (hl: ∀ a i,(one a i).2.2.1.length=a.2.2.1.length) (ho: ∀ a i,ya7 a.2.2.1→i < a.2.2.1.length→ya7 (one a i).2.2.1): ∀ (n:Nat) (a:dA),n≤a.2.2.1.length→ya7 a.2.2.1→ya7 ((List.range n).foldl one a).2.2.1
 | 0,_,_,h=>h
 | n+1,a,hn,h=>by
  rw [List.range_succ,List.foldl_append]
  exact ho _ _ (yN4 hl ho n a (by omega) h) (by rw [yvn hl]; exact hn)
theorem yHS {a:dA} (h:ya7 a.2.2.1):ya7 (yK a).2.2.1:=yN4 yoW (fun _ _=>y5j) _ a (Nat.le_refl _) h
theorem y6y {a:dA} (h:ya7 a.2.2.1):ya7 (markA a).2.2.1 :=
 yHS (yN4 (one:=yaL) (fun _ _=>ywh _ _ _ _) (fun _ _ h hi=>y5c h (zkm hi)) _ (yhe a) (Nat.le_refl _) h)
theorem y62 (a:dA):(markA a).2.2.1.length=a.2.2.1.length:=(yFS _).trans (yvn (one:=yaL) (fun _ _=>ywh _ _ _ _) _ (yhe a))
theorem yKO (a:dA):(opA a).2.2.2.2.2.2.2.2.2.1=a.2.2.2.2.2.2.2.2.1:=by
 unfold opA
 cases ye a
 ·cases (a.2.2.2.2.2.2.2.2.2.1==0)
  ·cases ltb 0 a.2.2.2.2.2.2.2.2.2.1<;>rfl
  ·rfl
 ·rfl
theorem y2M (a:dA) (m n:Int) (s:List Int):(yds a m n s).2.2.2.2.2.2.2.2.1=a.2.2.2.2.2.2.2.2.1:=by
 unfold yds
 cases (nth a.2.2.1 m noMem).2.2.1
 ·cases (opA a).1
  ·exact yKO a
  ·exact yKO a
 ·rfl
theorem y4h (a:dA) (i:Nat):(yD a i).2.2.2.2.2.2.2.2.1=a.2.2.2.2.2.2.2.2.1:=by
 unfold yD
 cases (nth a.2.2.1 i noMem).2.2.1
 ·cases (opA a).1
  ·exact yKO a
  ·exact yKO a
 ·rfl
theorem yKh {one:dA→Nat→dA} (h: ∀ a i,(one a i).2.2.2.2.2.2.2.2.1=a.2.2.2.2.2.2.2.2.1): ∀ (l:List Nat) (a:dA),(l.foldl one a).2.2.2.2.2.2.2.2.1=a.2.2.2.2.2.2.2.2.1
 | [],_=>rfl
 | x::l,a=>by rw [List.foldl_cons,yKh h l,h]
theorem yDC (a:dA):(yK a).2.2.2.2.2.2.2.2.1=a.2.2.2.2.2.2.2.2.1:=yKh y4h _ _
theorem y53 (a:dA):(markA a).2.2.2.2.2.2.2.2.1=a.2.2.2.2.2.2.2.2.1:=(yDC _).trans (yKh (one:=yaL) (fun _ _=>y2M _ _ _ _) _ (yhe a))
theorem y4m {a:dA} (h:yx a=true):a.2.2.1.length≤5:=by
 have h1:=yk.1 (yR h)
 have h2:=yG0 h
 omega
def yeQ (n:Int):dM:=bif leb 1 n&&leb n 20 then (List.replicate n.toNat [],[],false,[]) else noMem
theorem y2F {n:Int} (h1:1≤n) (h2:n≤20):yw (yeQ n)=true:=by
 unfold yeQ
 rw [zkx h1,zkx h2]
 refine yzF ?_ rfl rfl ?_ ?_ (Nat.zero_le _)
 ·show (List.replicate n.toNat ([]:List Int)).all yaj=true
  rw [List.all_eq_true]
  intro x hx
  rw [(List.mem_replicate.1 hx).2]; rfl
 ·show 1≤(List.replicate n.toNat ([]:List Int)).length; rw [List.length_replicate]; omega
 ·show (List.replicate n.toNat ([]:List Int)).length≤20; rw [List.length_replicate]; omega
def spareNew (a:dA):dA:=(a.1,a.2.1,a.2.2.1.set a.2.2.2.1.toNat (yeQ (6+a.2.1.2)),a.2.2.2.1,0,a.2.2.2.2.2)
def yiv (a:dA):dA:=(a.1,a.2.1,a.2.2.1,a.2.2.2.1,a.2.2.2.2.1,a.2.2.2.2.2.1,a.2.2.2.2.2.1,a.2.2.2.2.2.2.2)
def checkA (a:dA):dA:=bif ye (yK a) then yK a else markA (yiv (yK a))
theorem y5V {a:dA} (h:ya7 a.2.2.1):ya7 (checkA a).2.2.1:=by
 unfold checkA
 cases ye (yK a)
 ·exact y6y (a:=yiv (yK a)) (yHS h)
 ·exact yHS h
theorem yNS (a:dA):(checkA a).2.2.1.length=a.2.2.1.length:=by
 unfold checkA
 cases ye (yK a)
 ·exact (y62 (yiv (yK a))).trans (yFS a)
 ·exact yFS a
theorem ySk (a:dA):(checkA a).2.2.2.2.2.2.2.2.1=a.2.2.2.2.2.2.2.2.1:=by
 unfold checkA
 cases ye (yK a)
 ·exact (y53 (yiv (yK a))).trans (yDC a)
 ·exact yDC a
def y7y (id:Int) (g:dG) (i:Int):dS:=(id,0,i,g.1,g.2,0,-1,0)
def yJJ (m:dM) (s:Nat):dM:=(m.1.set (s+6) [0],m.2)
def yBe (id:Int) (g:dG) (i:Int):dM:=((yeQ (6+g.2)).1.set 0 (yM (y7y id g i)),(yeQ (6+g.2)).2)
def yF (id:Int) (g:dG) (i:Int):dM:=(List.range g.2.toNat).foldl yJJ (yBe id g i)
def yD8 (a:dA) (m:dM):dA:=(a.1,a.2.1,a.2.2.1++ [m],a.2.2.2)
def yEa (id:Int) (g:dG):dA:=(id,g,[],-1,0,0,0,0,[],-1,false,false)
def yAm (id:Int) (g:dG):dA:=bif yg g&&(leb 1 id&&leb id 60000) then (List.range g.1.toNat).foldl (fun a (i:Nat)=>yD8 a (yF id g i)) (yEa id g) else yaC
theorem y5v (l:List Nat) (m:dM):(l.foldl yJJ m).1.length=m.1.length:=by
 induction l generalizing m with
 | nil=>rfl
 | cons x t ih=>rw [List.foldl_cons,ih]; show (m.1.set _ _).length=_; rw [List.length_set]
def yJ (a:dA):Int×(Int×Int)×Int×Int×Int×Int×Int×List dW×Bool:=(a.1,a.2.1,a.2.2.2.1,a.2.2.2.2.1,a.2.2.2.2.2.1,a.2.2.2.2.2.2.1,a.2.2.2.2.2.2.2.1,a.2.2.2.2.2.2.2.2.1,a.2.2.2.2.2.2.2.2.2.2.2)
theorem yJ2 (a:dA):yJ (opA a).2=yJ a:=by
 unfold opA
 cases ye a
 ·cases (a.2.2.2.2.2.2.2.2.2.1==0)
  ·cases ltb 0 a.2.2.2.2.2.2.2.2.2.1<;>rfl
  ·rfl
 ·rfl
theorem yFw (a:dA) (m n:Int) (s:List Int):yJ (yds a m n s)=yJ a:=by
 unfold yds
 cases (nth a.2.2.1 m noMem).2.2.1
 ·cases (opA a).1
  ·exact yJ2 a
  ·exact yJ2 a
 ·rfl
theorem y5h (a:dA) (i:Nat):yJ (yD a i)=yJ a:=by
 unfold yD
 cases (nth a.2.2.1 i noMem).2.2.1
 ·cases (opA a).1
  ·exact yJ2 a
  ·exact yJ2 a
 ·rfl
theorem yAQ {one:dA→Nat→dA} (h: ∀ a i,yJ (one a i)=yJ a): ∀ (l:List Nat) (a:dA),yJ (l.foldl one a)=yJ a
 | [],_=>rfl
 | x::l,a=>by rw [List.foldl_cons,yAQ h l,h]
theorem ywl (a:dA):yJ (yK a)=yJ a:=yAQ y5h _ _
theorem yOM (a:dA):yJ (markA a)=yJ (yhe a):=(ywl _).trans (yAQ (one:=yaL) (fun _ _=>yFw _ _ _ _) _ _)
theorem ynm {a b:dA} (h:yJ a=yJ b):a.2.1=b.2.1:=congrArg (fun x=>x.2.1) h
theorem y5W {a b:dA} (h:yJ a=yJ b):a.2.2.2.2.1=b.2.2.2.2.1:=congrArg (fun x=>x.2.2.2.1) h
theorem yWI {a b:dA} (h:yJ a=yJ b):a.2.2.2.2.2.2.2.2.1=b.2.2.2.2.2.2.2.2.1:=congrArg (fun x=>x.2.2.2.2.2.2.2.1) h
def yl9 (d:List dW) (x:dA):Prop:=x.2.2.1.length≤5∧ya7 x.2.2.1∧x.2.2.2.2.2.2.2.2.1=d
theorem y63 {a:dA} (h:yx a=true):yl9 a.2.2.2.2.2.2.2.2.1 a:=⟨y4m h,yWE h,rfl⟩
theorem y44 {d:List dW} {a:dA} {m n:Int} {s:List Int} (h:yl9 d a) (hm:inb m a.2.2.1.length=true):yl9 d (yds a m n s):=⟨by rw [ywh]; exact h.1,y5c h.2.1 hm,(y2M _ _ _ _).trans h.2.2⟩
theorem y6D {d:List dW} {a:dA} (h:yl9 d a):yl9 d (yK a):=⟨by rw [yFS]; exact h.1,yHS h.2.1,(yDC _).trans h.2.2⟩
theorem y57 {d:List dW} {a:dA} (h:yl9 d a):yl9 d (checkA a):=⟨by rw [yNS]; exact h.1,y5V h.2.1,(ySk _).trans h.2.2⟩
def y6H (b:dA):dA:=(b.1,b.2.1,b.2.2.1,b.2.2.2.1,IntKind.i64.wrap (b.2.2.2.2.1+1),b.2.2.2.2.2)
def yjc (a:dA):dA:=yds a a.2.2.2.1 (dataAt a.2.2.2.2.1) [nth (yal a a.2.2.2.2.1).1 a.2.2.2.1 0]
def stepOne (a:dA):Int×dA:=bif (yal a a.2.2.2.2.1).2 then (bif ye (yjc a) then (6,yjc a) else (0,y6H (yjc a))) else (5,a)
def yE8 (lost:Int) (br:Bool) (S:Int) (i:Nat) (m:dM):Prop:=yw m=true∧(m.1.length:Int)=6+S∧(m.2.2.1=true→(i:Int)=lost∨br=true)
def yPN (lost:Int) (br:Bool) (S:Int) (l:List dM):Prop:= ∀ i,i < l.length→yE8 lost br S i (nth l i noMem)
theorem yON {lost S:Int} {br:Bool} {l:List dM} {i:Nat} {x:dM} (h:yPN lost br S l) (hx:i < l.length→yE8 lost br S i x):yPN lost br S (l.set i x):=fun j hj=>by
 rw [List.length_set]at hj
 by_cases e:j=i
 ·subst e
  rw [zkn,zke (by rw [List.length_set]; exact hj),List.getElem_set_self]; exact hx hj
 ·have:=h j hj
  rw [zkn,zke hj]at this
  rw [zkn,zke (by rw [List.length_set]; exact hj),List.getElem_set_ne (fun e'=>e e'.symm)]; exact this
theorem y56 {a:dA}:yoz a=true↔yPN a.2.2.2.1 a.2.2.2.2.2.2.2.2.2.2.2 a.2.1.2 a.2.2.1∧(a.2.2.1.length:Int)=a.2.1.1:=by
 constructor
 ·intro h
  refine ⟨fun i hi=>y2G h hi,?_⟩
  simp only [yoz,Bool.and_eq_true,beq_iff_eq]at h; exact h.2
 ·rintro ⟨h1,h2⟩
  simp only [yoz,Bool.and_eq_true,beq_iff_eq,Bool.not_eq_true',List.any_eq_false,List.mem_range]
  refine ⟨fun i hi=> ?_,h2⟩
  obtain ⟨g1,g2,g3⟩:=h1 i hi
  unfold yin
  rw [g1,show (((nth a.2.2.1 i noMem).1.length:Int) !=6+a.2.1.2)=false from bne_eq_false_iff_eq.2 g2]
  cases hf:(nth a.2.2.1 i noMem).2.2.1
  ·simp
  ·rcases g3 hf with e | e
   ·rw [show ((i:Int) !=a.2.2.2.1)=false from bne_eq_false_iff_eq.2 e]; simp
   ·rw [e]; simp
def fuz (a:dA):Int:=a.2.2.2.2.2.2.2.2.2.1
def ybB (a:dA):Prop:=(yPN a.2.2.2.1 a.2.2.2.2.2.2.2.2.2.2.2 a.2.1.2 a.2.2.1∧(a.2.2.1.length:Int)=a.2.1.1)∧ -1≤fuz a∧fuz a≤1000
def yeP (a:dA):Prop:=yg a.2.1=true∧(1≤a.1∧a.1≤60000)∧yaK a.2.1 a.2.2.2.2.2.2.2.2.1=true∧(-1≤a.2.2.2.1∧a.2.2.2.1≤a.2.1.1 - 1)∧(0≤a.2.2.2.2.1∧a.2.2.2.2.1≤a.2.1.2)∧(a.2.2.2.1= -1→a.2.2.2.2.1=0) ∧
 (0≤a.2.2.2.2.2.2.1∧a.2.2.2.2.2.2.1≤60000)∧(a.2.2.2.2.2.2.1≤a.2.2.2.2.2.1∧a.2.2.2.2.2.1≤60000)∧a.2.2.2.2.2.1≤a.2.2.2.2.2.2.1+4∧0≤a.2.2.2.2.2.2.2.1∧a.2.2.2.2.2.2.2.1≤60000
theorem y0e {a:dA}:yx a=true↔yeP a∧ybB a:=by
 unfold yx yeP ybB fuz
 simp only [Bool.and_eq_true,zjE,y56,Bool.not_eq_true',Bool.and_eq_false_iff,beq_eq_false_iff_ne,bne_eq_false_iff_eq]
 constructor
 ·rintro ⟨h1,h2,h3,h4,h5,h6,h7,h8,h9,h10,h11,h12⟩
  exact ⟨⟨h1,h2,h4,h5,h6,fun e=>h7.resolve_left (fun g=>g e),h8,h9,h10,h11.1,h11.2⟩,h3,h12⟩
 ·rintro ⟨⟨h1,h2,h4,h5,h6,h7,h8,h9,h10,h11,h11'⟩,h3,h12⟩
  exact ⟨h1,h2,h3,h4,h5,h6,(Decidable.em (a.2.2.2.1= -1)).elim (fun e=> .inr (h7 e)) (fun e=> .inl e),h8,h9,h10,⟨h11,h11'⟩,h12⟩
theorem y7f {a b:dA} (h:yJ b=yJ a) (ha:yeP a):yeP b:=by
 unfold yJ at h
 simp only [Prod.mk.injEq]at h
 obtain ⟨h1,h2,h3,h4,h5,h6,h7,h8,h9⟩:=h
 unfold yeP at *
 rw [h1,h2,h3,h4,h5,h6,h7,h8]; exact ha
theorem y7l {a b:dA} (h:yJ b=yJ a) (hl:b.2.2.1.length=a.2.2.1.length) (hm:yPN a.2.2.2.1 a.2.2.2.2.2.2.2.2.2.2.2 a.2.1.2 b.2.2.1) (hn:(a.2.2.1.length:Int)=a.2.1.1) (hf: -1≤fuz b∧fuz b≤1000):ybB b:=by
 unfold yJ at h
 simp only [Prod.mk.injEq]at h
 obtain ⟨h1,h2,h3,h4,h5,h6,h7,h8,h9⟩:=h
 unfold ybB
 rw [h2,h3,h9,hl]; exact ⟨⟨hm,hn⟩,hf⟩
theorem y7z {a:dA} (h: -1≤fuz a∧fuz a≤1000): -1≤fuz (opA a).2∧fuz (opA a).2≤1000:=by
 unfold opA
 cases ye a
 ·cases h0:(a.2.2.2.2.2.2.2.2.2.1==0)
  ·cases h1:ltb 0 a.2.2.2.2.2.2.2.2.2.1
   ·exact h
   ·have:=zjH.1 h1
    unfold fuz at h
    show -1≤IntKind.i64.wrap (a.2.2.2.2.2.2.2.2.2.1 - 1)∧IntKind.i64.wrap (a.2.2.2.2.2.2.2.2.2.1 - 1)≤1000
    rw [wr (by omega) (by omega)]; omega
  ·show -1≤(-1:Int)∧(-1:Int)≤1000; omega
 ·exact h
theorem yPM {a:dA} (h:ybB a):ybB (opA a).2:=y7l (yJ2 a) (by rw [yaN]) (by rw [yaN]; exact h.1.1) h.1.2 (y7z h.2)
theorem yH3 {a:dA} {m:Int} {x:dM} (h:ybB a) (hm:inb m a.2.2.1.length=true) (hx:yE8 a.2.2.2.1 a.2.2.2.2.2.2.2.2.2.2.2 a.2.1.2 m.toNat (nth a.2.2.1 m noMem)→yE8 a.2.2.2.1 a.2.2.2.2.2.2.2.2.2.2.2 a.2.1.2 m.toNat x):ybB (setMem a m x):=by
 have hm:=zjD.1 hm
 refine ⟨⟨yON h.1.1 (fun hi=>hx ?_),by show ((a.2.2.1.set m.toNat x).length:Int)=_; rw [List.length_set]; exact h.1.2⟩,h.2⟩
 have:=h.1.1 m.toNat hi
 rwa [Int.toNat_of_nonneg hm.1]at this
theorem y55 {lost S:Int} {br:Bool} {i:Nat} {m:dM} (n:Int) (s:List Int) (h:yE8 lost br S i m):yE8 lost br S i (ygv m n s).1 :=
 ⟨yVO n s h.1,by rw [(y2T m n s).1]; exact h.2.1,by rw [(y2T m n s).2]; exact h.2.2⟩
theorem y54 {lost S:Int} {br:Bool} {i:Nat} {m:dM} (h:yE8 lost br S i m):yE8 lost br S i (ye4 m) :=
 ⟨yS1 h.1,by rw [(y2C m).1]; exact h.2.1,by rw [(y2C m).2]; exact h.2.2⟩
theorem yKq {a:dA} {m n:Int} {s:List Int} (h:ybB a) (hm:inb m a.2.2.1.length=true):ybB (yds a m n s):=by
 unfold yds
 cases (nth a.2.2.1 m noMem).2.2.1
 ·cases (opA a).1
  ·exact yPM h
  ·exact yH3 (yPM h) (by rw [yaN]; exact hm) (fun g=>by rw [yaN]at g; exact y55 _ _ g)
 ·exact h
theorem y4Y {a:dA} {i:Nat} (h:ybB a) (hi:i < a.2.2.1.length):ybB (yD a i):=by
 unfold yD
 cases (nth a.2.2.1 i noMem).2.2.1
 ·cases (opA a).1
  ·exact yPM h
  ·exact yH3 (yPM h) (by rw [yaN]; exact zkm hi) (fun g=>by rw [yaN]at g; exact y54 g)
 ·exact h
theorem ynn {P:dA→Prop} {one:dA→Nat→dA} (hl: ∀ a i,(one a i).2.2.1.length=a.2.2.1.length) (ho: ∀ a i,P a→i < a.2.2.1.length→P (one a i)): ∀ (n:Nat) (a:dA),n≤a.2.2.1.length→P a→P ((List.range n).foldl one a)
 | 0,_,_,h=>h
 | n+1,a,hn,h=>by
  rw [List.range_succ,List.foldl_append]
  exact ho _ _ (ynn hl ho n a (by omega) h) (by rw [yvn hl]; exact hn)
theorem yOL {a:dA} (h:ybB a):ybB (yK a):=ynn (P:=ybB) (one:=yD) yoW (fun _ _=>y4Y) _ a (Nat.le_refl _) h
theorem y6w {a:dA} (h:ybB a):ybB (markA a) :=
 yOL (ynn (P:=ybB) (one:=yaL) (fun _ _=>ywh _ _ _ _) (fun _ _ h hi=>yKq h (zkm hi)) _ (yhe a) (Nat.le_refl _) h)
def ykL (a:dA):Prop:=ye a=false∧fuz a= -1
theorem y5P {a:dA} (h:ykL a):opA a=(true,a):=by
 unfold opA
 rw [h.1,show a.2.2.2.2.2.2.2.2.2.1= -1 from h.2]; rfl
theorem yKo {a:dA} (h:ykL a) (m n:Int) (s:List Int):ykL (yds a m n s):=by
 unfold yds
 rw [y5P h]
 cases (nth a.2.2.1 m noMem).2.2.1<;>exact h
theorem y4V {a:dA} (h:ykL a) (i:Nat):ykL (yD a i):=by
 unfold yD
 rw [y5P h]
 cases (nth a.2.2.1 i noMem).2.2.1<;>exact h
theorem yHD {a:dA} (h:ykL a):ykL (yK a):=ynn (P:=ykL) (one:=yD) yoW (fun _ i h _=>y4V h i) _ a (Nat.le_refl _) h
theorem y6t {a:dA} (h:ykL a):ykL (markA a) :=
 yHD (ynn (P:=ykL) (one:=yaL) (fun _ _=>ywh _ _ _ _) (fun _ _ h _=>yKo h _ _ _) _ (yhe a) (Nat.le_refl _) h)
theorem yWH {a:dA} (h:ykL a):checkA a=markA (yiv (yK a)):=by
 unfold checkA
 rw [(yHD h).1]; rfl
def Wk (k:Int) (a:dA):Prop:=yeP a∧ybB a∧ykL a∧a.2.2.2.2.2.2.2.2.2.2.2=false∧a.2.2.2.2.2.2.2.1≤k
theorem y6K {k:Int} {a:dA} (h:Wk k a):yx a=true:=y0e.2 ⟨h.1,h.2.1⟩
theorem yep {k j:Int} {a:dA} (h:Wk k a) (hj:k≤j):Wk j a:=⟨h.1,h.2.1,h.2.2.1,h.2.2.2.1,Int.le_trans h.2.2.2.2 hj⟩
theorem yDE {k:Int} {a b:dA} (hc:yJ b=yJ a) (hk:ybB b) (hf:ykL b) (h:Wk k a):Wk k b:=by
 refine ⟨y7f hc h.1,hk,hf,?_⟩
 unfold yJ at hc
 simp only [Prod.mk.injEq]at hc
 obtain ⟨_,_,_,_,_,_,h7,_,h9⟩:=hc
 rw [h7,h9]; exact h.2.2.2
theorem y7L {k:Int} {a:dA} {m n:Int} {s:List Int} (h:Wk k a) (hm:inb m a.2.2.1.length=true):Wk k (yds a m n s):=yDE (yFw _ _ _ _) (yKq h.2.1 hm) (yKo h.2.2.1 _ _ _) h
theorem y7q {k:Int} {a:dA} (h:Wk k a):Wk k (yK a):=yDE (ywl _) (yOL h.2.1) (yHD h.2.2.1) h
theorem y68 {k:Int} {a:dA} (h:Wk k a) (hk:k+1≤60000):Wk (k+1) (yhe a):=by
 obtain ⟨⟨c1,c2,c3,c4,c5,c6,c7,c8,c9,c10,c11⟩,h2,h3,h4,h5⟩:=h
 have e:IntKind.i64.wrap (a.2.2.2.2.2.2.2.1+1)=a.2.2.2.2.2.2.2.1+1:=wr (by omega) (by omega)
 refine ⟨⟨c1,c2,c3,c4,c5,c6,c7,c8,c9,?_,?_⟩,h2,h3,h4,?_⟩
 ·show 0≤IntKind.i64.wrap (a.2.2.2.2.2.2.2.1+1); omega
 ·show IntKind.i64.wrap (a.2.2.2.2.2.2.2.1+1)≤_; omega
 ·show IntKind.i64.wrap (a.2.2.2.2.2.2.2.1+1)≤_; omega
theorem y2u {k:Int} {a:dA} (h:Wk k a) (hk:k+1≤60000):Wk (k+1) (markA a):=yDE (yOM _) (y6w h.2.1) (y6t h.2.2.1) (y68 h hk)
theorem y6M {k:Int} {a:dA} (h:Wk k a):Wk k (yiv a):=by
 obtain ⟨⟨c1,c2,c3,c4,c5,c6,c7,c8,c9,c10,c11⟩,h2,h3,h4,h5⟩:=h
 refine ⟨⟨c1,c2,c3,c4,c5,c6,⟨?_,?_⟩,⟨Int.le_refl _,c8.2⟩,?_,c10,c11⟩,h2,h3,h4,h5⟩
 ·show 0≤a.2.2.2.2.2.1; omega
 ·show a.2.2.2.2.2.1≤60000; omega
 ·show a.2.2.2.2.2.1≤a.2.2.2.2.2.1+4; omega
theorem y5m {k:Int} {a:dA} (h:Wk k a) (hk:k+1≤60000):Wk (k+1) (checkA a):=by
 rw [yWH h.2.2.1]; exact y2u (y6M (y7q h)) hk
theorem y6L {k:Int} {a:dA} {m:Int} {x:dM} (h:Wk k a) (hm:inb m a.2.2.1.length=true) (hx:yE8 a.2.2.2.1 a.2.2.2.2.2.2.2.2.2.2.2 a.2.1.2 m.toNat (nth a.2.2.1 m noMem)→yE8 a.2.2.2.1 a.2.2.2.2.2.2.2.2.2.2.2 a.2.1.2 m.toNat x):Wk k (setMem a m x) :=
 yDE (a:=a) (b:=setMem a m x) rfl (yH3 h.2.1 hm hx) h.2.2.1 h
theorem y7o {k m:Int} {a:dA} (h:Wk k a) (hl:a.2.2.2.1= -1) (hm:inb m a.2.2.1.length=true) (hk:k+1≤60000):Wk (k+1) (failOne a m):=by
 have hmi:=zjD.1 hm
 have hw:Wk k (yKg a m):=by
  obtain ⟨⟨c1,c2,c3,c4,c5,c6,c7,c8,c9,c10,c11⟩,⟨⟨g1,g2⟩,g3⟩,f,b,t⟩:=h
  refine ⟨⟨c1,c2,c3,⟨?_,?_⟩,⟨Int.le_refl _,by show (0:Int)≤a.2.1.2; omega⟩,fun e=>rfl,c7,c8,c9,c10,c11⟩,⟨⟨?_,?_⟩,g3⟩,f,b,t⟩
  ·show -1≤m; omega
  ·show m≤a.2.1.1 - 1; omega
  ·show yPN m a.2.2.2.2.2.2.2.2.2.2.2 a.2.1.2 (a.2.2.1.set m.toNat (yDD (nth a.2.2.1 m noMem)))
   refine yON (fun i hi=> ?_) (fun hi=> ?_)
   ·obtain ⟨e1,e2,e3⟩:=g1 i hi
    refine ⟨e1,e2,fun e=> ?_⟩
    rcases e3 e with e | e
    ·omega
    ·exact .inr e
   ·have:=g1 m.toNat hi
    rw [Int.toNat_of_nonneg hmi.1]at this
    exact ⟨y7i this.1,this.2.1,fun _=> .inl (Int.toNat_of_nonneg hmi.1)⟩
  ·show ((a.2.2.1.set m.toNat (yDD (nth a.2.2.1 m noMem))).length:Int)=a.2.1.1
   rw [List.length_set]; exact g2
 unfold failOne
 rw [show (a.2.2.2.1== -1)=true from beq_iff_eq.2 hl,h.2.2.1.1,h.2.2.2.1]
 cases ltb a.2.2.2.2.2.2.2.1 60000
 ·exact yep hw (by omega)
 ·exact y2u hw hk
theorem y7a {k:Int} {a:dA} (h:Wk k a) (hl:inb a.2.2.2.1 a.2.2.1.length=true) (hk:k+1≤60000):Wk (k+1) (markA (spareNew a)):=by
 have hmi:=zjD.1 hl
 refine y2u ?_ hk
 obtain ⟨⟨c1,c2,c3,c4,c5,c6,c7,c8,c9,c10,c11⟩,⟨⟨g1,g2⟩,g3⟩,f,b,t⟩:=h
 have hg:=yk.1 c1
 refine ⟨⟨c1,c2,c3,c4,⟨Int.le_refl _,by show (0:Int)≤a.2.1.2; omega⟩,fun e=>rfl,c7,c8,c9,c10,c11⟩,⟨⟨yON g1 (fun hi=>⟨y2F (by omega) (by omega),?_,fun e=> ?_⟩),?_⟩,g3⟩,f,b,t⟩
 ·unfold yeQ
  rw [zkx (show 1≤6+a.2.1.2 by omega),zkx (show 6+a.2.1.2≤20 by omega)]
  show ((List.replicate (6+a.2.1.2).toNat ([]:List Int)).length:Int)=6+a.2.1.2
  rw [List.length_replicate]; omega
 ·unfold yeQ at e
  rw [zkx (show 1≤6+a.2.1.2 by omega),zkx (show 6+a.2.1.2≤20 by omega)] at e
  cases e
 ·show ((a.2.2.1.set a.2.2.2.1.toNat (yeQ (6+a.2.1.2))).length:Int)=a.2.1.1
  rw [List.length_set]; exact g2
theorem y7p {k:Int} {a:dA} (h:Wk k a) (hl:inb a.2.2.2.1 a.2.2.1.length=true) (hb:a.2.2.2.2.1 < a.2.1.2):Wk k (stepOne a).2:=by
 have hp:Wk k (yjc a):=y7L h hl
 have e:=yFw a a.2.2.2.1 (dataAt a.2.2.2.2.1) [nth (yal a a.2.2.2.2.1).1 a.2.2.2.1 0]
 have e1:(yjc a).2.2.2.2.1=a.2.2.2.2.1:=y5W e
 have e2:(yjc a).2.1=a.2.1:=ynm e
 have e3:(yjc a).2.2.2.1=a.2.2.2.1:=congrArg (fun x=>x.2.2.1) e
 unfold stepOne
 cases (yal a a.2.2.2.2.1).2
 ·exact h
 ·generalize yjc a=R at hp e1 e2 e3 ⊢
  rw [hp.2.2.1.1]
  have hmi:=zjD.1 hl
  obtain ⟨⟨c1,c2,c3,c4,c5,c6,c7,c8,c9,c10,c11⟩,g2,g3,g4,g5⟩:=hp
  have hg:=yk.1 c1
  have e4:IntKind.i64.wrap (R.2.2.2.2.1+1)=R.2.2.2.2.1+1:=wr (by omega) (by omega)
  refine ⟨⟨c1,c2,c3,c4,⟨?_,?_⟩,fun e=> ?_,c7,c8,c9,c10,c11⟩,g2,g3,g4,g5⟩
  ·show 0≤IntKind.i64.wrap (R.2.2.2.2.1+1); omega
  ·show IntKind.i64.wrap (R.2.2.2.2.1+1)≤R.2.1.2; rw [e4,e1,e2]; omega
  ·have:R.2.2.2.1= -1:=e
   omega
def yff (a:dA):Prop:=a.2.2.1.length≤1000000000∧(∀ m∈a.2.2.1,m.1.length≤1000000000∧m.2.1.length≤1000000000)∧a.2.2.2.2.2.2.2.2.1.length≤1000000000
theorem y41 {d:List dW} {a:dA} (h:yl9 d a) (hd:d.length≤1000000000):yff a:=by
 refine ⟨by have:=h.1; omega,fun m hm=> ?_,by rw [h.2.2]; exact hd⟩
 obtain ⟨_,_,_,_,h5,h6⟩:=yby (h.2.1 m hm)
 omega
theorem y5d (s:dS):yaj (yM s)=true:=by
 unfold yM
 cases h:ybG s
 ·rfl
 ·unfold ybG at h
  simp only [ybE]at h
  cases hg:yg (s.2.2.2.1,s.2.2.2.2.1)
  ·rw [hg]at h; cases h
  have hge:=yk.1 hg
  simp only at hge
  rw [hg,wr (show -9223372036854775808≤s.2.2.2.1 - 1 by omega) (by omega)] at h
  cases h2:(leb 1 s.1&&leb s.1 60000)
  ·rw [h2]at h; cases h
  cases h3:(leb 0 s.2.1&&leb s.2.1 60000)
  ·rw [h2,h3]at h; cases h
  cases h4:(leb 0 s.2.2.1&&leb s.2.2.1 (s.2.2.2.1 - 1))
  ·rw [h2,h3,h4]at h; cases h
  cases h5:(leb 0 s.2.2.2.2.2.1&&leb s.2.2.2.2.2.1 60000)
  ·rw [h2,h3,h4,h5]at h; cases h
  cases h6:(leb (-1) s.2.2.2.2.2.2.1&&leb s.2.2.2.2.2.2.1 (s.2.2.2.1 - 1))
  ·rw [h2,h3,h4,h5,h6]at h; cases h
  cases h7:(leb 0 s.2.2.2.2.2.2.2&&leb s.2.2.2.2.2.2.2 s.2.2.2.2.1)
  ·rw [h2,h3,h4,h5,h6,h7]at h; cases h
  simp only [Bool.and_eq_true,zjE]at h2 h3 h4 h5 h6 h7
  rw [y6G]
  refine ⟨by show (9:Nat)≤12; omega,?_⟩
  have hw:IntKind.i64.wrap (s.2.2.2.2.2.2.1+1)=s.2.2.2.2.2.2.1+1:=wr (by omega) (by omega)
  simp only [Bool.not_true,cond_false,hw,List.mem_cons,List.not_mem_nil,or_false]
  rintro x (rfl | rfl | rfl | rfl | rfl | rfl | rfl | rfl | rfl)<;>omega
theorem y59 {g:dG} (id i:Int) (hg:yg g=true):yw (yF id g i)=true∧((yF id g i).1.length:Int)=6+g.2∧(yF id g i).2=([],false,[]):=by
 have hge:=yk.1 hg
 have hm:yeQ (6+g.2)=(List.replicate (6+g.2).toNat [],[],false,[]):=by
  unfold yeQ
  rw [zkx (show 1≤6+g.2 by omega),zkx (show 6+g.2≤20 by omega)]; rfl
 have key: ∀ (l:List Nat) (m:dM),m.1.all yaj=true∧m.2=([],false,[])→(l.foldl yJJ m).1.all yaj=true∧(l.foldl yJJ m).2=([],false,[]):=by
  intro l
  induction l with
  | nil=>intro m h; exact h
  | cons x t ih =>
   intro m h
   refine ih _ ⟨?_,h.2⟩
   rw [List.all_eq_true]
   intro y hy
   rcases List.mem_or_eq_of_mem_set hy with h1 | rfl
   ·exact List.all_eq_true.1 h.1 y h1
   ·rfl
 have ht:(yBe id g i).1.all yaj=true∧(yBe id g i).2=([],false,[]):=by
  unfold yBe
  rw [hm]
  refine ⟨?_,rfl⟩
  rw [List.all_eq_true]
  intro y hy
  rcases List.mem_or_eq_of_mem_set hy with h1 | rfl
  ·rw [List.eq_of_mem_replicate h1]; rfl
  ·exact y5d _
 have hl:((yF id g i).1.length:Int)=6+g.2:=by
  unfold yF
  rw [y5v]
  unfold yBe
  rw [hm]
  show (((List.replicate (6+g.2).toNat ([]:List Int)).set 0 _).length:Int)=_
  rw [List.length_set,List.length_replicate]; omega
 obtain ⟨h1,h2⟩:=key (List.range g.2.toNat) _ ht
 refine ⟨yzF h1 ?_ ?_ ?_ ?_ ?_,hl,h2⟩
 ·show List.all ((yF id g i).2).1 _=true
  rw [show (yF id g i).2=([],false,[]) from h2]; rfl
 ·show ysv _ ((yF id g i).2).2.2=true
  rw [show (yF id g i).2=([],false,[]) from h2,yro]
  exact ⟨fun x hx=>absurd hx List.not_mem_nil,List.Pairwise.nil⟩
 ·show 1≤(yF id g i).1.length; omega
 ·show (yF id g i).1.length≤20; omega
 ·show ((yF id g i).2).1.length≤60
  rw [show (yF id g i).2=([],false,[]) from h2]; exact Nat.zero_le _
theorem y6k {id:Int} {g:dG} (hg:yg g=true) (h1:1≤id) (h2:id≤60000):yAm id g=(id,g,(List.range g.1.toNat).map (fun (i:Nat)=>yF id g i),-1,0,0,0,0,[],-1,false,false):=by
 unfold yAm
 rw [hg,zkx h1,zkx h2]
 have: ∀ (n:Nat),(List.range n).foldl (fun a (i:Nat)=>yD8 a (yF id g i)) (yEa id g)=(id,g,(List.range n).map (fun (i:Nat)=>yF id g i),-1,0,0,0,0,[],-1,false,false):=by
  intro n
  induction n with
  | zero=>rfl
  | succ n ih=>rw [List.range_succ,List.foldl_append,ih,List.map_append]; rfl
 exact this _
theorem y7K {id:Int} {g:dG} (hg:yg g=true) (h1:1≤id) (h2:id≤60000):Wk 0 (yAm id g):=by
 have hge:=yk.1 hg
 rw [y6k hg h1 h2]
 have hl:((List.range g.1.toNat).map (fun (i:Nat)=>yF id g i)).length=g.1.toNat:=by rw [List.length_map,List.length_range]
 refine ⟨⟨hg,⟨h1,h2⟩,?_,⟨Int.le_refl _,?_⟩,⟨Int.le_refl _,?_⟩,fun _=>rfl,?_,?_,?_,?_,?_⟩,⟨⟨fun i hi=> ?_,?_⟩,?_,?_⟩,⟨rfl,rfl⟩,rfl,Int.le_refl _⟩
 ·rfl
 ·show (-1:Int)≤g.1 - 1; omega
 ·show (0:Int)≤g.2; omega
 ·show (0:Int)≤0∧(0:Int)≤60000; omega
 ·show (0:Int)≤0∧(0:Int)≤60000; omega
 ·show (0:Int)≤0+4; omega
 ·show (0:Int)≤0; omega
 ·show (0:Int)≤60000; omega
 ·have hi':i < ((List.range g.1.toNat).map (fun (i:Nat)=>yF id g i)).length:=hi
  show yE8 (-1) false g.2 i (nth ((List.range g.1.toNat).map (fun (i:Nat)=>yF id g i)) i noMem)
  rw [zkn,zke hi',List.getElem_map,List.getElem_range]
  obtain ⟨k1,k2,k3⟩:=y59 id i hg
  refine ⟨k1,k2,fun e=> ?_⟩
  rw [show (yF id g i).2=([],false,[]) from k3]at e
  cases e
 ·show (((List.range g.1.toNat).map (fun (i:Nat)=>yF id g i)).length:Int)=g.1
  rw [hl]; omega
 ·show (-1:Int)≤ -1; omega
 ·show (-1:Int)≤1000; omega
theorem y7b {k m n:Int} {a:dA} (h:Wk k a) (hm:inb m a.2.2.1.length=true):Wk k (setMem a m (spoil (nth a.2.2.1 m noMem) n)) :=
 y6L h hm (fun g=>⟨y5g n g.1,by rw [(y2O _ _).1]; exact g.2.1,by rw [(y2O _ _).2]; exact g.2.2⟩)
end
section
def yBP:Code:=(Tryz.f223.body).getD .skip
def yCd:Env:=zj3 TT [] []
theorem yKm:FrOk Tryz.prog ⟨yCd,7,fun _=>none⟩ yBP:=zj7 yb yc trivial
def yMd:Nat→Option Seg:=fun _=>none
abbrev ygy:List Par:= [.rd tI,.rp tI]
abbrev ykX:List OT:= [⟨false,tB,.fz⟩]
def ypf (a0 a1:Int):Option (ResD ykX×MutD ygy) :=
 some (((a0==a1),()),())
theorem yQn (x:InD ygy):zjx ⟨yCd,7,yMd⟩ Tryz.f223.results.toList yBP ygy ykX x=ypf x.1 x.2.1:=by kernel_rfl
theorem yMS:ConOk Tryz.prog 223 ⟨ygy,ykX,fun x=>ypf x.1 x.2.1⟩:=zj2 (yKm) Tryz.func223 (by kernel_rfl) (by kernel_rfl) Tryz.ntmps223.symm (by decide) (fun x r h=>(yQn x).trans h)
def yd7 (a0 a1:Int):Bool :=
 (a0==a1)
def yo2:Con:=⟨ygy,ykX,fun x=>(fun n=>some ((n,()),())) (yd7 x.1 x.2.1)⟩
theorem yPc (a0 a1:Int):ypf a0 a1=(fun n=>some ((n,()),())) (yd7 a0 a1):=zkq (p:=fun (n:Bool)=>((n,()),())) rfl
theorem yBf:ConOk Tryz.prog 223 yo2:=(yMS).mono (fun x r _ h=>(yPc x.1 x.2.1).trans h)
end
section
def ycr:Code:=(Tryz.f268.body).getD .skip
def yfe:Env:=zj3 TT [(223,yo2)] []
theorem yDu:FrOk Tryz.prog ⟨yfe,19,fun _=>none⟩ ycr:=zj7 yb yc ⟨yBf,trivial⟩
def yqT:Nat→Option Seg:=fun _=>none
def yT:Shape:=⟨[(0,false,[.br tI]),(1,false,[.fx 223 tI]),(7,false,[.int .i64]),(8,false,[.int .i64])],[],[]⟩
def ya3:Shape:=⟨[(0,false,[.br tI]),(1,false,[.fx 223 tI]),(7,false,[.int .i64]),(8,false,[.ci .i64 0])],[],[]⟩
def ya1:Shape:=⟨[],[],[]⟩
def ya5:Shape:=⟨[(4,false,[.int .i64])],[],[]⟩
abbrev ygp (v0:List Int) (v1 v2 v3:Int):(yT).X:=(((v0,()),(v1,()),(v2,()),(v3,()),()),(),())
abbrev yBD (v0:List Int) (v1 v2:Int):(ya3).X:=(((v0,()),(v1,()),(v2,()),((),()),()),(),())
abbrev yBB  :(ya1).X:=((),(),())
abbrev yoB (v0:Int):(ya5).X:=(((v0,()),()),(),())
def ygu (v0:List Int) (v1 v2 v3:Int):Option ((yT).X ⊕ ((ya1).X ⊕ (ya5).X)) :=
 bif (ltb v3 v2) then
 bif (inb v3 v0.length) then
 let r2:=yd7 (nth v0 v3 0) v1
 bif r2 then
 some (.inr (.inr (((v3,()),()),(),())))
 else
 some (.inl (((v0,()),(v1,()),(v2,()),((IntKind.i64.wrap (v3+1)),()),()),(),()))
 else none
 else
 some (.inr (.inl ((),(),())))
def yab (x:(yT).X):=ygu x.1.1.1 x.1.2.1.1 x.1.2.2.1.1 x.1.2.2.2.1.1
def yov (x:(ya3).X):(yT).X:=(((x.1.1.1,()),(x.1.2.1.1,()),(x.1.2.2.1.1,()),(0,()),()),(),())
def yqa:Code:=(zdD ycr 64 52).getD .skip
theorem yDp:zdD ycr 64 13=some (.block 0 (.loop yqa)):=by kernel_rfl
theorem yDA (x:(yT).X):zg0 ⟨yfe,19,yqT⟩ 0 yqa 52 yT ya1 ya5 x=yab x:=by kernel_rfl
def yoy (x:(ya3).X):Nat:=18446744073709551616
def yhc (x:(ya3).X):Option ((ya1).X ⊕ (ya5).X):=zz yab (yoy x) (yov x)
def yoS:Seg:=⟨ya3,ya1,ya5,yhc⟩
def yqU:Nat→Option Seg:=fun q=>bif Nat.beq q 13 then some yoS else yqT q
theorem yDv:FrOk Tryz.prog ⟨yfe,19,yqU⟩ ycr:=(yDu).loop (sg:=yoS) yT yov (by decide) yDp yab yoy (by decide) (fun _=>rfl) (fun x r _ h=>h) yDA
abbrev yaJ:List Par:= [.rd tL,.fn 223 tI]
abbrev yfh:List OT:= [⟨false,tI,.fz⟩]
def yd1 (a0:List Int) (a1:Int):Option (ResD yfh×MutD yaJ) :=
 zjZ (yhc (((a0,()),(a1,()),((a0.length:Int),()),((),()),()),(),())) (fun y2 =>
 some (((-1),()),())) (fun y2 =>
 some ((y2.1.1.1,()),()))
theorem yHV (x:InD yaJ):zjx ⟨yfe,19,yqU⟩ Tryz.f268.results.toList ycr yaJ yfh x=yd1 x.1 x.2.1:=by kernel_rfl
theorem yFg:ConOk Tryz.prog 268 ⟨yaJ,yfh,fun x=>yd1 x.1 x.2.1⟩:=zj2 (yDv) Tryz.func268 (by kernel_rfl) (by kernel_rfl) Tryz.ntmps268.symm (by decide) (fun x r h=>(yHV x).trans h)
def ycu (a0:List Int) (a1:Int):Int:=yL (fun e:Int=>e==a1) a0
theorem yFX (a0:List Int) (a1:Int) (hk:zi2 yaJ (a0,a1,())):yd1 a0 a1=(fun n=>some ((n,()),())) (ycu a0 a1):=by
 have hb:a0.length * 8≤2 ^ 47:=hk.1.1
 have h1:yhc (yBD a0 a1 a0.length)=some (bif leb 0 (yL (fun e:Int=>e==a1) a0) then .inr (yoB (yL (fun e:Int=>e==a1) a0)) else .inl yBB) :=
  yHG (step:=yab) a0 0 (fun i=>ygp a0 a1 a0.length i) (fun e:Int=>e==a1) (fun i=> .inr (yoB i)) _ (fun i hi=>by
   simp only [yab,ygp,ygu,zj5 (show (i:Int) < a0.length by omega),cond_true,wr (show -9223372036854775808≤(i:Int)+1 by omega) (by omega),Int.natCast_add,Int.natCast_one,Int.toNat_natCast,zkm hi,zkn,yd7]
   cases (a0.getD i 0==a1)<;>rfl) (by simp only [yab,ygp,ygu,zky (Int.le_refl _),cond_false]) _ (by show _ < 18446744073709551616; omega)
 unfold yd1 ycu
 rw [h1]
 cases h:leb 0 (yL (fun e:Int=>e==a1) a0)
 ·rw [yPL h]; rfl
 ·rfl
def yrr:Con:=⟨yaJ,yfh,fun x=>(fun n=>some ((n,()),())) (ycu x.1 x.2.1)⟩
theorem yF0:ConOk Tryz.prog 268 yrr:=(yFg).mono (fun x r hk h=>(yFX x.1 x.2.1 hk).trans h)
end
section
def ybQ:Code:=(Tryz.f222.body).getD .skip
def yez:Env:=zj3 TT [(223,yo2),(268,yrr)] []
theorem yBy:FrOk Tryz.prog ⟨yez,42,fun _=>none⟩ ybQ:=zj7 yb yc ⟨yBf,yF0,trivial⟩
def ypp:Nat→Option Seg:=fun _=>none
def yQ:Shape:=⟨[(0,false,[.at 800000000]),(1,false,[.fx 223 tI]),(5,false,[.int .i64]),(6,false,[.int .i64])],[],[(800000000,tI,.fz)]⟩
def yaF:Shape:=⟨[(0,false,[.at 800000000]),(1,false,[.fx 223 tI]),(5,false,[.int .i64]),(6,false,[.int .i64])],[],[(800000000,tI,.fz)]⟩
def yaE:Shape:=⟨[(0,false,[.at 800000000]),(5,false,[.int .i64])],[],[(800000000,tI,.fz)]⟩
def ycy:Shape:=⟨[],[],[]⟩
abbrev yb7 (v0 v1 v2:Int) (v3:List Int):(yQ).X:=((((),()),(v0,()),(v1,()),(v2,()),()),(),(v3,()))
abbrev yBd (v0 v1 v2:Int) (v3:List Int):(yaF).X:=((((),()),(v0,()),(v1,()),(v2,()),()),(),(v3,()))
abbrev yBb (v0:Int) (v1:List Int):(yaE).X:=((((),()),(v0,()),()),(),(v1,()))
def yfN (v0 v1 v2:Int) (v3:List Int):Option ((yQ).X ⊕ ((yaE).X ⊕ (ycy).X)) :=
 bif (ltb v2 (v3.length:Int)) then
 bif (inb v2 v3.length) then
 let r3:=yd7 (nth v3 v2 0) v0
 bif (!r3) then
 bif (inb v1 v3.length) then
 some (.inl ((((),()),(v0,()),((IntKind.i64.wrap (v1+1)),()),((IntKind.i64.wrap (v2+1)),()),()),(),((v3.set (v1).toNat (nth v3 v2 0)),())))
 else none
 else
 some (.inl ((((),()),(v0,()),(v1,()),((IntKind.i64.wrap (v2+1)),()),()),(),(v3,())))
 else none
 else
 some (.inr (.inl ((((),()),(v1,()),()),(),(v3,()))))
def yV (x:(yQ).X):=yfN x.1.2.1.1 x.1.2.2.1.1 x.1.2.2.2.1.1 x.2.2.1
def ymX (x:(yaF).X):(yQ).X:=((((),()),(x.1.2.1.1,()),(x.1.2.2.1.1,()),(x.1.2.2.2.1.1,()),()),(),(x.2.2.1,()))
def yot:Code:=(zdD ybQ 64 244).getD .skip
theorem yBv:zdD ybQ 64 61=some (.block 0 (.loop yot)):=by kernel_rfl
theorem yBJ (x:(yQ).X):zg0 ⟨yez,42,ypp⟩ 0 yot 244 yQ yaE ycy x=yV x:=by kernel_rfl
def ymY (x:(yaF).X):Nat:=18446744073709551616
def ygj (x:(yaF).X):Option ((yaE).X ⊕ (ycy).X):=zz yV (ymY x) (ymX x)
def ymZ:Seg:=⟨yaF,yaE,ycy,ygj⟩
def ypq:Nat→Option Seg:=fun q=>bif Nat.beq q 61 then some ymZ else ypp q
theorem yBz:FrOk Tryz.prog ⟨yez,42,ypq⟩ ybQ:=(yBy).loop (sg:=ymZ) yQ ymX (by decide) yBv yV ymY (by decide) (fun _=>rfl) (fun x r _ h=>h) yBJ
abbrev yaw:List Par:= [.kp tL (.ow .fz),.fn 223 tI]
abbrev yeA:List OT:= [⟨false,tL,(.ow .fz)⟩]
def ydr (a0:List Int) (a1:Int):Option (ResD yeA×MutD yaw) :=
 let r1:=ycu a0 a1
 bif (r1==(-1)) then
 some ((a0,()),())
 else
 zjZ (ygj ((((),()),(a1,()),(r1,()),((IntKind.i64.wrap (r1+1)),()),()),(),(a0,()))) (fun y3 =>
 bif (zjw y3.1.2.1.1 (y3.2.2.1.length:Int) y3.2.2.1.length) then
 bif (zjw 0 y3.1.2.1.1 (y3.2.2.1.take (y3.1.2.1.1).toNat++(List.replicate ((y3.2.2.1.length:Int) - y3.1.2.1.1).toNat (0:Int))++y3.2.2.1.drop ((y3.1.2.1.1).toNat+(List.replicate ((y3.2.2.1.length:Int) - y3.1.2.1.1).toNat (0:Int)).length)).length) then
 some (((((y3.2.2.1.take (y3.1.2.1.1).toNat++(List.replicate ((y3.2.2.1.length:Int) - y3.1.2.1.1).toNat (0:Int))++y3.2.2.1.drop ((y3.1.2.1.1).toNat+(List.replicate ((y3.2.2.1.length:Int) - y3.1.2.1.1).toNat (0:Int)).length)).drop (0:Int).toNat).take (y3.1.2.1.1 - 0).toNat),()),())
 else none
 else none) (fun y3 =>
 none)
theorem yFV (x:InD yaw):zjx ⟨yez,42,ypq⟩ Tryz.f222.results.toList ybQ yaw yeA x=ydr x.1 x.2.1:=by kernel_rfl
theorem yDy:ConOk Tryz.prog 222 ⟨yaw,yeA,fun x=>ydr x.1 x.2.1⟩:=zj2 (yBz) Tryz.func222 (by kernel_rfl) (by kernel_rfl) Tryz.ntmps222.symm (by decide) (fun x r h=>(yFV x).trans h)
def ybS (a0:List Int) (a1:Int):List Int:=y2s a0 a1
theorem yFe (a0:List Int) (a1:Int) (hk:zi2 yaw (a0,a1,())):ydr a0 a1=(fun n=>some ((n,()),())) (ybS a0 a1):=by
 have hb:a0.length * 8≤2 ^ 47:=hk.1.1
 have hs:y2s a0 a1=a0.filter (fun x=> !(x==a1)):=rfl
 unfold ydr ybS ycu
 simp only []
 cases hi:leb 0 (yL (fun e:Int=>e==a1) a0)
 ·rw [yPL hi,hs,y6Z hi]; rfl
 ·obtain ⟨h1,h2⟩:=yno (d:=(0:Int)) hi
  have h3:=zjD.1 h1
  have h4:=y2E hi
  generalize hk0:yL (fun e:Int=>e==a1) a0=k at *
  obtain ⟨k,rfl⟩: ∃ m:Nat,k=m:=⟨k.toNat,by omega⟩
  rw [Int.toNat_natCast]at h4
  rw [show ((k:Int)== -1)=false from beq_eq_false_iff_ne.2 (by omega),cond_false,wr (show -9223372036854775808≤(k:Int)+1 by omega) (by omega)]
  obtain ⟨b,e,i,s,rfl,q1,q2,q3⟩:=ziP (step:=yV) (fun x=>(a0.length - Int.toNat x.1.2.2.2.1.1))
   (fun x=> ∃ (i j:Nat) (s:List Int),x=yb7 a1 i j s∧i < j∧j≤a0.length∧s.length=a0.length∧s.take i=(a0.take j).filter (fun x=> !(x==a1))∧s.drop j=a0.drop j)
   (fun b=> ∃ (i:Nat) (s:List Int),b= .inl (yBb i s)∧i≤a0.length∧s.length=a0.length∧s.take i=a0.filter (fun x=> !(x==a1)))
   (fun x hx=>by
    obtain ⟨i,j,s,rfl,p1,p2,p3,p4,p5⟩:=hx
    by_cases hj:j < a0.length
    ·left
     have e1:nth s j 0=a0[j]:=by
      rw [zkn,zke (by omega)]
      have:=List.getElem_drop (xs:=s) (i:=j) (j:=0) (h:=by rw [List.length_drop]; omega)
      have h6:(s.drop j)[0]'(by rw [List.length_drop]; omega)=(a0.drop j)[0]'(by rw [List.length_drop]; omega):=by simp only [p5]
      simpa using h6
     have e2:a0.take (j+1)=a0.take j++ [a0[j]]:=(List.take_append_getElem hj).symm
     simp only [yV,yb7,yfN,p3,zj5 (show (j:Int) < a0.length by omega),zkm hj,zkm (show i < a0.length by omega),e1,yd7,wr (show -9223372036854775808≤(j:Int)+1 by omega) (by omega),wr (show -9223372036854775808≤(i:Int)+1 by omega) (by omega),cond_true,Int.toNat_natCast]
     cases hx:(a0[j]==a1)
     ·refine ⟨_,rfl,⟨i+1,j+1,s.set i a0[j],rfl,by omega,by omega,by rw [List.length_set,p3],?_,?_⟩,by show a0.length - ((j:Int)+1).toNat < a0.length - ((j:Int)).toNat; omega⟩
      ·rw [List.take_set,← List.take_append_getElem (show i < s.length by omega),List.set_append_right _ _ (by rw [List.length_take]; omega),p4,e2,List.filter_append,List.filter_cons,hx]
       have:i - (List.filter (fun x=> !x==a1) (a0.take j)).length=0:=by rw [← p4,List.length_take]; omega
       rw [this]; rfl
      ·rw [List.drop_set_of_lt (by omega),← List.drop_drop,p5,List.drop_drop]
     ·refine ⟨_,rfl,⟨i,j+1,s,rfl,by omega,by omega,p3,?_,?_⟩,by show a0.length - ((j:Int)+1).toNat < a0.length - ((j:Int)).toNat; omega⟩
      ·rw [p4,e2,List.filter_append,List.filter_cons,hx]; simp
      ·rw [← List.drop_drop,p5,List.drop_drop]
    ·right
     have:j=a0.length:=by omega
     subst this
     rw [List.take_length]at p4
     refine ⟨_,?_,i,s,rfl,by omega,p3,p4⟩
     simp only [yV,yb7,yfN,p3,zky (Int.le_refl _),cond_false]) 18446744073709551616 (yb7 a1 k (k+1:Nat) a0) ⟨k,k+1,a0,rfl,by omega,by omega,rfl,h4.symm,rfl⟩ (by show a0.length - ((k+1:Nat):Int).toNat < 18446744073709551616; omega)
  rw [show ((k+1:Nat):Int)=(k:Int)+1 by omega]at e
  rw [show ygj (yBd a1 k ((k:Int)+1) a0)=_ from e]
  rw [hs,← q3]
  have hL:(s.take i++List.replicate ((s.length:Int) - i).toNat (0:Int)++s.drop ((i:Int).toNat+(List.replicate ((s.length:Int) - i).toNat (0:Int)).length)).length=s.length:=by
   simp only [List.length_append,List.length_take,List.length_replicate,List.length_drop]; omega
  show (bif zjw i s.length s.length then bif zjw 0 i (s.take i++List.replicate ((s.length:Int) - i).toNat (0:Int)++s.drop ((i:Int).toNat+(List.replicate ((s.length:Int) - i).toNat (0:Int)).length)).length then some ((((s.take i++List.replicate ((s.length:Int) - i).toNat (0:Int)++s.drop ((i:Int).toNat+(List.replicate ((s.length:Int) - i).toNat (0:Int)).length)).drop 0).take ((i:Int) - 0).toNat,()),()) else none else none)=some ((s.take i,()),())
  rw [hL,zj6.2 (show 0≤(i:Int)∧(i:Int)≤s.length∧(s.length:Int)≤s.length by omega),zj6.2 (show (0:Int)≤0∧(0:Int)≤i∧(i:Int)≤s.length by omega),List.drop_zero,show ((i:Int) - 0).toNat=i by omega,List.append_assoc,List.take_append_of_le_length (by rw [List.length_take]; omega),List.take_take,Nat.min_self]; rfl
def yqc:Con:=⟨yaw,yeA,fun x=>(fun n=>some ((n,()),())) (ybS x.1 x.2.1)⟩
theorem yFl:ConOk Tryz.prog 222 yqc:=(yDy).mono (fun x r hk h=>(yFe x.1 x.2.1 hk).trans h)
end
section
def yF6:Code:=(Tryz.f129.body).getD .skip
def yGM:Env:=zj3 TT [(133,ymo),(200,yaS),(219,ynj),(220,yqb),(221,yzv),(222,yqc)] []
theorem yOl:FrOk Tryz.prog ⟨yGM,51,fun _=>none⟩ yF6:=zj7 yb yc ⟨yuX,ycT,yx4,yzH,yLY,yFl,trivial⟩
def yPS:Nat→Option Seg:=fun _=>none
abbrev yfU:List Par:= [.rd tM,.rd tI,.rd tL]
abbrev ypK:List OT:= [⟨false,tM,(.pr (.ow (.ow .fz)) (.pr (.ow (.pr .fz (.ow .fz))) (.pr .fz (.ow .fz))))⟩,⟨false,tB,.fz⟩]
def ylo (a0:dM) (a1:Int) (a2:List Int):Option (ResD ypK×MutD yfU) :=
 let r1:=ybF a0
 let r2:=ybv a0
 bif (!(!r2)) then
 bif (!a0.2.2.1) then
 let r3:=ybz a0 a1
 bif (!(!r3)) then
 let r4:=yip a2
 bif (!(!r4)) then
 bif ((a0.2.1.length:Int)==60) then
 some ((r1,false,()),())
 else
 let r5:=yl a2
 bif (zjR r1.2.1.length ([(a1,r5)]:List dW).length 32) then
 let r6:=ybS r1.2.2.2 a1
 some (((r1.1,(r1.2.1++([(a1,r5)]:List dW)),r1.2.2.1,r6),true,()),())
 else none
 else
 some ((r1,false,()),())
 else
 some ((r1,false,()),())
 else
 some ((r1,false,()),())
 else
 some ((r1,false,()),())
theorem yWY (x:InD yfU):zjx ⟨yGM,51,yPS⟩ Tryz.f129.results.toList yF6 yfU ypK x=ylo x.1 x.2.1 x.2.2.1:=by kernel_rfl
theorem yRC:ConOk Tryz.prog 129 ⟨yfU,ypK,fun x=>ylo x.1 x.2.1 x.2.2.1⟩:=zj2 (yOl) Tryz.func129 (by kernel_rfl) (by kernel_rfl) Tryz.ntmps129.symm (by decide) (fun x r h=>(yWY x).trans h)
def yky (a0:dM) (a1:Int) (a2:List Int):dM×Bool:=ygv a0 a1 a2
theorem yUB (a0:dM) (a1:Int) (a2:List Int) (hk:zi2 yfU (a0,a1,a2,())):ylo a0 a1 a2=(fun n=>some ((n.1,n.2,()),())) (yky a0 a1 a2):=by
 have hb1:a0.1.length * 24≤2 ^ 47:=hk.1.1.1
 unfold ylo yky ygv yzu
 simp only [ybF,ybv,ybz,yag,yru (show a0.1.length≤1152921504606846976 by omega),yH2,yl,ybS]
 cases hm:yw a0
 ·rfl
 have hc:=(yby hm).2.2.2.2.2
 cases a0.2.2.1
 ·cases inb a1 a0.1.length
  ·rfl
  cases yaj a2
  ·rfl
  by_cases h:(a0.2.1.length:Int) < 60
  ·rw [zj5 h,show ((a0.2.1.length:Int)==60)=false from beq_eq_false_iff_ne.2 (by omega),zkb.2 (show (a0.2.1.length+ [(a1,a2)].length) * 32≤140737488355328 by simp only [List.length_cons,List.length_nil]; omega)]; rfl
  ·rw [zky (by omega),show ((a0.2.1.length:Int)==60)=true from beq_iff_eq.2 (by omega)]; rfl
 ·rfl
def yCz:Con:=⟨yfU,ypK,fun x=>(fun n=>some ((n.1,n.2,()),())) (yky x.1 x.2.1 x.2.2.1)⟩
theorem yVp:ConOk Tryz.prog 129 yCz:=(yRC).mono (fun x r hk h=>(yUB x.1 x.2.1 x.2.2.1 hk).trans h)
end
section
def yKW:Code:=(Tryz.f205.body).getD .skip
def yLt:Env:=zj3 TT [] []
theorem yS2:FrOk Tryz.prog ⟨yLt,26,fun _=>none⟩ yKW:=zj7 yb yc trivial
def yVS:Nat→Option Seg:=fun _=>none
abbrev yn1:List Par:= [.pt tA (.pr .fz (.pr (.pr .fz .fz) (.pr (.ow (.pr (.ow (.ow .fz)) (.pr (.ow (.pr .fz (.ow .fz))) (.pr .fz (.ow .fz))))) (.pr .fz (.pr .fz (.pr .fz (.pr .fz (.pr .fz (.pr (.ow (.pr .fz (.ow .fz))) (.pr .fz (.pr .fz .fz)))))))))))]
abbrev yud:List OT:= [⟨false,tB,.fz⟩]
def yx9 (a0:dA):Option (ResD yud×MutD yn1) :=
 bif (a0.2.2.2.2.2.2.2.2.2.1==0) then
 some ((false,()),((a0.1,a0.2.1,a0.2.2.1,a0.2.2.2.1,a0.2.2.2.2.1,a0.2.2.2.2.2.1,a0.2.2.2.2.2.2.1,a0.2.2.2.2.2.2.2.1,a0.2.2.2.2.2.2.2.2.1,(-1),true,a0.2.2.2.2.2.2.2.2.2.2.2),()))
 else
 bif (ltb 0 a0.2.2.2.2.2.2.2.2.2.1) then
 some ((true,()),((a0.1,a0.2.1,a0.2.2.1,a0.2.2.2.1,a0.2.2.2.2.1,a0.2.2.2.2.2.1,a0.2.2.2.2.2.2.1,a0.2.2.2.2.2.2.2.1,a0.2.2.2.2.2.2.2.2.1,(IntKind.i64.wrap (a0.2.2.2.2.2.2.2.2.2.1 - 1)),a0.2.2.2.2.2.2.2.2.2.2),()))
 else
 some ((true,()),(a0,()))
theorem y2W (x:InD yn1):zjx ⟨yLt,26,yVS⟩ Tryz.f205.results.toList yKW yn1 yud x=yx9 x.1:=by kernel_rfl
theorem yYC:ConOk Tryz.prog 205 ⟨yn1,yud,fun x=>yx9 x.1⟩:=zj2 (yS2) Tryz.func205 (by kernel_rfl) (by kernel_rfl) Tryz.ntmps205.symm (by decide) (fun x r h=>(y2W x).trans h)
def yi8 (a0:dA):Bool×dA :=
 bif (a0.2.2.2.2.2.2.2.2.2.1==0) then
 (false,(a0.1,a0.2.1,a0.2.2.1,a0.2.2.2.1,a0.2.2.2.2.1,a0.2.2.2.2.2.1,a0.2.2.2.2.2.2.1,a0.2.2.2.2.2.2.2.1,a0.2.2.2.2.2.2.2.2.1,(-1),true,a0.2.2.2.2.2.2.2.2.2.2.2))
 else
 bif (ltb 0 a0.2.2.2.2.2.2.2.2.2.1) then
 (true,(a0.1,a0.2.1,a0.2.2.1,a0.2.2.2.1,a0.2.2.2.2.1,a0.2.2.2.2.2.1,a0.2.2.2.2.2.2.1,a0.2.2.2.2.2.2.2.1,a0.2.2.2.2.2.2.2.2.1,(IntKind.i64.wrap (a0.2.2.2.2.2.2.2.2.2.1 - 1)),a0.2.2.2.2.2.2.2.2.2.2))
 else
 (true,a0)
def yxo:Con:=⟨yn1,yud,fun x=>(fun n=>some ((n.1,()),(n.2,()))) (yi8 x.1)⟩
theorem y0Q (a0:dA):yx9 a0=(fun n=>some ((n.1,()),(n.2,()))) (yi8 a0):=zkq (p:=fun (n:Bool×dA)=>((n.1,()),(n.2,()))) (zkc (p:=fun (n:Bool×dA)=>((n.1,()),(n.2,()))) rfl (zkc (p:=fun (n:Bool×dA)=>((n.1,()),(n.2,()))) rfl rfl))
theorem yJP:ConOk Tryz.prog 205 yxo:=(yYC).mono (fun x r _ h=>(y0Q x.1).trans h)
theorem yX8 {a:dA} (h:ye a=false):yi8 a=opA a:=by
 unfold yi8 opA
 rw [h]
 cases (a.2.2.2.2.2.2.2.2.2.1==0)
 ·cases ltb 0 a.2.2.2.2.2.2.2.2.2.1
  ·rfl
  ·show (true,_)=(true,y4j a _ false)
   unfold y4j
   rw [show a.2.2.2.2.2.2.2.2.2.2=(ye a,a.2.2.2.2.2.2.2.2.2.2.2) from rfl,h]
 ·rfl
end
end
end Go.Tf
