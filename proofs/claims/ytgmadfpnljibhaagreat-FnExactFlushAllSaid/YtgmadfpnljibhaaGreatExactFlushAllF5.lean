/- Functions of the program, and what they come to. -/
import Derived.Test.YtgmadfpnljibhaaGreatExactFlushAllF4
namespace Go.Tf
noncomputable section
open Go.Proofs
set_option synthInstance.maxHeartbeats 400000
set_option synthInstance.maxSize 10000
set_option linter.unusedVariables false
set_option linter.unusedSimpArgs false
set_option maxRecDepth 100000
section
def yFb:Code:=(Tryz.f140.body).getD .skip
def yFQ:Env:=zki TT [(226,yDJ)] []
theorem yMo:FrOk Tryz.prog ⟨yFQ,25,fun _=>none⟩ yFb:=zkp yb yc ⟨yWz,trivial⟩
def yNA:Nat→Option Seg:=fun _=>none
abbrev yid:List Par:= [.rd tS]
abbrev yoP:List OT:= [⟨false,tL,(.ow .fz)⟩]
def ysk (a0:dS):Option (ResD yoP×MutD yid) :=
 let r1:=ycu a0
 bif (!r1) then
 some ((([]:List Int),()),())
 else
 some ((([21317,a0.1,a0.2.1,a0.2.2.1,a0.2.2.2.1,a0.2.2.2.2.1,a0.2.2.2.2.2.1,(IntKind.i64.wrap (a0.2.2.2.2.2.2.1+1)),a0.2.2.2.2.2.2.2]:List Int),()),())
theorem yUd (x:InD yid):zjH ⟨yFQ,25,yNA⟩ Tryz.f140.results.toList yFb yid yoP x=ysk x.1:=by kernel_rfl
theorem yPb:ConOk Tryz.prog 140 ⟨yid,yoP,fun x=>ysk x.1⟩:=zkh (yMo) Tryz.func140 (by kernel_rfl) (by kernel_rfl) Tryz.ntmps140.symm (by decide) (fun x r h=>(yUd x).trans h)
def yaJ (a0:dS):(List Int) :=
 let r1:=ycu a0
 bif (!r1) then
 ([]:List Int)
 else
 ([21317,a0.1,a0.2.1,a0.2.2.1,a0.2.2.2.1,a0.2.2.2.2.1,a0.2.2.2.2.2.1,(IntKind.i64.wrap (a0.2.2.2.2.2.2.1+1)),a0.2.2.2.2.2.2.2]:List Int)
def yBB:Con:=⟨yid,yoP,fun x=>(fun n=>some ((n,()),())) (yaJ x.1)⟩
theorem yR7 (a0:dS):ysk a0=(fun n=>some ((n,()),())) (yaJ a0):=zkS (p:=fun (n:(List Int))=>((n,()),())) (zkx (p:=fun (n:(List Int))=>((n,()),())) rfl rfl)
theorem ySM:ConOk Tryz.prog 140 yBB:=(yPb).mono (fun x r _ h=>(yR7 x.1).trans h)
abbrev yd (a:dA):Bool:=a.2.2.2.2.2.2.2.2.2.2.1
def y1Y (a:dA) (f:Int) (d:Bool):dA:=(a.1,a.2.1,a.2.2.1,a.2.2.2.1,a.2.2.2.2.1,a.2.2.2.2.2.1,a.2.2.2.2.2.2.1,a.2.2.2.2.2.2.2.1,a.2.2.2.2.2.2.2.2.1,f,d,a.2.2.2.2.2.2.2.2.2.2.2)
def opA (a:dA):Bool×dA:=bif yd a then (false,a) else bif a.2.2.2.2.2.2.2.2.2.1==0 then (false,y1Y a (-1) true) else bif ltb 0 a.2.2.2.2.2.2.2.2.2.1 then (true,y1Y a (IntKind.i64.wrap (a.2.2.2.2.2.2.2.2.2.1 - 1)) (yd a)) else (true,a)
def yz2 (a:dA) (m:Int) (x:dM):dA:=(a.1,a.2.1,a.2.2.1.set m.toNat x,a.2.2.2)
def yeR (a:dA) (m n:Int) (s:List Int):dA:=bif (nth a.2.2.1 m yh).2.2.1 then a else bif (opA a).1 then yz2 (opA a).2 m (yhd (nth a.2.2.1 m yh) n s).1 else (opA a).2
def yC (a:dA) (i:Nat):dA:=bif (nth a.2.2.1 i yh).2.2.1 then a else bif (opA a).1 then yz2 (opA a).2 i (yfr (nth a.2.2.1 i yh)) else (opA a).2
def yz (a:dA):dA:=(List.range a.2.2.1.length).foldl yC a
def y5o (a:dA) (i:Int):dS:=(a.1,a.2.2.2.2.2.2.2.1,i,a.2.1.1,a.2.1.2,a.2.2.2.2.2.2.1,a.2.2.2.1,a.2.2.2.2.1)
def yaL (a:dA) (i:Nat):dA:=yeR a i (a.2.2.2.2.2.2.2.1.tmod 2) (yaJ (y5o a i))
def ymq (a:dA):dA:=(a.1,a.2.1,a.2.2.1,a.2.2.2.1,a.2.2.2.2.1,a.2.2.2.2.2.1,a.2.2.2.2.2.2.1,IntKind.i64.wrap (a.2.2.2.2.2.2.2.1+1),a.2.2.2.2.2.2.2.2)
def ygd (a:dA):dA:=yz ((List.range a.2.2.1.length).foldl yaL (ymq a))
theorem yau (a:dA):(opA a).2.2.2.1=a.2.2.1:=by
 unfold opA
 cases yd a
 ·cases (a.2.2.2.2.2.2.2.2.2.1==0)
  ·cases ltb 0 a.2.2.2.2.2.2.2.2.2.1<;>rfl
  ·rfl
 ·rfl
theorem yZG {a:dA} (h:yd a=false):yd (opA a).2= !(opA a).1:=by
 unfold opA
 rw [h]
 cases (a.2.2.2.2.2.2.2.2.2.1==0)
 ·cases ltb 0 a.2.2.2.2.2.2.2.2.2.1
  ·exact h
  ·rfl
 ·rfl
theorem y3u {a:dA} (h:yd a=true):opA a=(false,a):=by unfold opA; rw [h]; rfl
theorem yyb (a:dA) (m n:Int) (s:List Int):(yeR a m n s).2.2.1.length=a.2.2.1.length:=by
 unfold yeR
 cases (nth a.2.2.1 m yh).2.2.1
 ·cases (opA a).1
  ·show (opA a).2.2.2.1.length=_; rw [yau]
  ·show ((opA a).2.2.2.1.set m.toNat _).length=_; rw [List.length_set,yau]
 ·rfl
theorem ysP (a:dA) (i:Nat):(yC a i).2.2.1.length=a.2.2.1.length:=by
 unfold yC
 cases (nth a.2.2.1 i yh).2.2.1
 ·cases (opA a).1
  ·show (opA a).2.2.2.1.length=_; rw [yau]
  ·show ((opA a).2.2.2.1.set _ _).length=_; rw [List.length_set,yau]
 ·rfl
theorem yqo {one:dA→Nat→dA} (h: ∀ a i,(one a i).2.2.1.length=a.2.2.1.length): ∀ (l:List Nat) (a:dA),(l.foldl one a).2.2.1.length=a.2.2.1.length
 | [],_=>rfl
 | x::l,a=>by rw [List.foldl_cons,yqo h l,h]
theorem yEW (a:dA):(yz a).2.2.1.length=a.2.2.1.length:=yqo ysP _ _
theorem yST {a:dA} (h:yd a=true) (m n:Int) (s:List Int):yeR a m n s=a:=by
 unfold yeR
 rw [y3u h]
 cases (nth a.2.2.1 m yh).2.2.1<;>rfl
theorem yNn {a:dA} (i:Nat) (h:yd a=true):yC a i=a:=by
 unfold yC
 rw [y3u h]
 cases (nth a.2.2.1 i yh).2.2.1<;>rfl
theorem yLS {one:dA→Nat→dA} (hs: ∀ a i,yd a=true→one a i=a): ∀ (l:List Nat) (a:dA),yd a=true→l.foldl one a=a
 | [],_,_=>rfl
 | x::l,a,h=>by rw [List.foldl_cons,hs a x h]; exact yLS hs l a h
theorem yZ5 {a:dA} (h:yd a=true):yz a=a:=yLS (fun _ i h=>yNn i h) _ a h
theorem y4u {a:dA} (h:yd a=false) (m n:Int) (s:List Int):yd (yeR a m n s)=(!(nth a.2.2.1 m yh).2.2.1&& !(opA a).1):=by
 have:=yZG h
 unfold yeR
 cases (nth a.2.2.1 m yh).2.2.1
 ·cases ho:(opA a).1
  ·rw [ho]at this; exact this
  ·rw [ho]at this; exact this
 ·exact h
theorem y24 {a:dA} (h:yd a=false) (i:Nat):yd (yC a i)=(!(nth a.2.2.1 i yh).2.2.1&& !(opA a).1):=by
 have:=yZG h
 unfold yC
 cases (nth a.2.2.1 i yh).2.2.1
 ·cases ho:(opA a).1
  ·rw [ho]at this; exact this
  ·rw [ho]at this; exact this
 ·exact h
theorem yEl {one:dA→Nat→dA} (hs: ∀ a i,yd a=true→one a i=a): ∀ (k i:Nat) (s:dA),goE (fun i s=>bif yd (one s i) then (.inr (one s i):dA ⊕ dA) else .inl (one s i)) id k i s=(List.range' i k).foldl one s
 | 0,_,_=>rfl
 | k+1,i,s=>by
  rw [List.range'_succ,List.foldl_cons,goE]
  cases hd:yd (one s i)
  ·exact yEl hs k (i+1) (one s i)
  ·exact (yLS hs _ _ hd).symm
theorem y21 {a:dA} {m n:Int} {s:List Int} (h:yae a.2.2.1) (hm:inb m a.2.2.1.length=true):yae (yeR a m n s).2.2.1:=by
 unfold yeR
 cases (nth a.2.2.1 m yh).2.2.1
 ·cases (opA a).1
  ·show yae (opA a).2.2.2.1; rw [yau]; exact h
  ·show yae ((opA a).2.2.2.1.set m.toNat _); rw [yau]; exact yWm h (y27 _ _ (yZ1 h hm))
 ·exact h
theorem y25 {a:dA} {i:Nat} (h:yae a.2.2.1) (hi:i < a.2.2.1.length):yae (yC a i).2.2.1:=by
 unfold yC
 cases (nth a.2.2.1 i yh).2.2.1
 ·cases (opA a).1
  ·show yae (opA a).2.2.2.1; rw [yau]; exact h
  ·show yae ((opA a).2.2.2.1.set _ _); rw [yau]; exact yWm h (y2F (yZ1 h (zkO hi)))
 ·exact h
theorem yLR {one:dA→Nat→dA} (hl: ∀ a i,(one a i).2.2.1.length=a.2.2.1.length) (ho: ∀ a i,yae a.2.2.1→i < a.2.2.1.length→yae (one a i).2.2.1): ∀ (n:Nat) (a:dA),n≤a.2.2.1.length→yae a.2.2.1→yae ((List.range n).foldl one a).2.2.1
 | 0,_,_,h=>h
 | n+1,a,hn,h=>by
  rw [List.range_succ,List.foldl_append]
  exact ho _ _ (yLR hl ho n a (by omega) h) (by rw [yqo hl]; exact hn)
theorem yGR {a:dA} (h:yae a.2.2.1):yae (yz a).2.2.1:=yLR ysP (fun _ _=>y25) _ a (Nat.le_refl _) h
theorem yMw {a:dA} (h:yae a.2.2.1):yae (ygd a).2.2.1 :=
 yGR (yLR (one:=yaL) (fun _ _=>yyb _ _ _ _) (fun _ _ h hi=>y21 h (zkO hi)) _ (ymq a) (Nat.le_refl _) h)
theorem yRl (a:dA):(ygd a).2.2.1.length=a.2.2.1.length:=(yEW _).trans (yqo (one:=yaL) (fun _ _=>yyb _ _ _ _) _ (ymq a))
theorem yI1 (a:dA):(opA a).2.2.2.2.2.2.2.2.2.1=a.2.2.2.2.2.2.2.2.1:=by
 unfold opA
 cases yd a
 ·cases (a.2.2.2.2.2.2.2.2.2.1==0)
  ·cases ltb 0 a.2.2.2.2.2.2.2.2.2.1<;>rfl
  ·rfl
 ·rfl
theorem yZ3 (a:dA) (m n:Int) (s:List Int):(yeR a m n s).2.2.2.2.2.2.2.2.1=a.2.2.2.2.2.2.2.2.1:=by
 unfold yeR
 cases (nth a.2.2.1 m yh).2.2.1
 ·cases (opA a).1
  ·exact yI1 a
  ·exact yI1 a
 ·rfl
theorem y1U (a:dA) (i:Nat):(yC a i).2.2.2.2.2.2.2.2.1=a.2.2.2.2.2.2.2.2.1:=by
 unfold yC
 cases (nth a.2.2.1 i yh).2.2.1
 ·cases (opA a).1
  ·exact yI1 a
  ·exact yI1 a
 ·rfl
theorem yIH {one:dA→Nat→dA} (h: ∀ a i,(one a i).2.2.2.2.2.2.2.2.1=a.2.2.2.2.2.2.2.2.1): ∀ (l:List Nat) (a:dA),(l.foldl one a).2.2.2.2.2.2.2.2.1=a.2.2.2.2.2.2.2.2.1
 | [],_=>rfl
 | x::l,a=>by rw [List.foldl_cons,yIH h l,h]
theorem yCG (a:dA):(yz a).2.2.2.2.2.2.2.2.1=a.2.2.2.2.2.2.2.2.1:=yIH y1U _ _
theorem yIR (a:dA):(ygd a).2.2.2.2.2.2.2.2.1=a.2.2.2.2.2.2.2.2.1:=(yCG _).trans (yIH (one:=yaL) (fun _ _=>yZ3 _ _ _ _) _ (ymq a))
theorem yZQ {a x:dA} (ha:ybw a≤2097152) (hl:x.2.2.1.length≤5) (hm:yae x.2.2.1) (hd:x.2.2.2.2.2.2.2.2.1=a.2.2.2.2.2.2.2.2.1):ybw x≤2105000:=by
 have:=yM2 hm
 have:x.2.2.1.length * 1041≤5 * 1041:=Nat.mul_le_mul_right _ hl
 unfold ybw at ha ⊢
 rw [hd]
 omega
theorem yQj {a:dA} (h:yp a=true):a.2.2.1.length≤5:=by
 have h1:=yo.1 (yaZ h)
 have h2:=yLJ h
 omega
def ynG (a:dA):dA:=(a.1,a.2.1,a.2.2.1,a.2.2.2.1,a.2.2.2.2.1,a.2.2.2.2.2.1,a.2.2.2.2.2.1,a.2.2.2.2.2.2.2)
def yv (a:dA):dA:=bif yd (yz a) then yz a else ygd (ynG (yz a))
theorem yTT {a:dA} (h:yae a.2.2.1):yae (yv a).2.2.1:=by
 unfold yv
 cases yd (yz a)
 ·exact yMw (a:=ynG (yz a)) (yGR h)
 ·exact yGR h
theorem yuR (a:dA):(yv a).2.2.1.length=a.2.2.1.length:=by
 unfold yv
 cases yd (yz a)
 ·exact (yRl (ynG (yz a))).trans (yEW a)
 ·exact yEW a
theorem yyI (a:dA):(yv a).2.2.2.2.2.2.2.2.1=a.2.2.2.2.2.2.2.2.1:=by
 unfold yv
 cases yd (yz a)
 ·exact (yIR (ynG (yz a))).trans (yCG a)
 ·exact yCG a
def yt4 (b:dA):dA:=(b.1,b.2.1,b.2.2.1,-1,0,b.2.2.2.2.2)
def yDf (a:dA):dA×Int:=bif yd (yv a) then (yv a,6) else (ygd (yt4 (yv a)),bif yd (ygd (yt4 (yv a))) then 6 else 0)
def yTQ (a:dA):dA×Int :=
 bif !(yp a) then (a,1) else bif yd a then (a,6) else bif a.2.2.2.1== -1||((nth a.2.2.1 a.2.2.2.1 yh).2.2.1||ltb a.2.2.2.2.1 a.2.1.2) then (a,2) else bif a.2.2.2.2.2.2.2.2.2.2.2 then (a,5) else bif leb 59990 a.2.2.2.2.2.2.2.1 then (a,7) else yDf a
theorem y5h {a:dA} (ha:ybw a≤2097152):ybw (yTQ a).1≤2105000:=by
 have h0:ybw a≤2105000:=by omega
 unfold yTQ
 cases hk:yp a
 ·exact h0
 have h5:=yQj hk
 have hc:=yTT (yIF hk)
 have hn:=yZQ (x:=ygd (yt4 (yv a))) ha (by rw [yRl,show (yt4 (yv a)).2.2.1=(yv a).2.2.1 from rfl,yuR]; exact h5) (yMw (a:=yt4 (yv a)) hc) ((yIR _).trans (yyI a))
 have hn2:=yZQ (x:=yv a) ha (by rw [yuR]; exact h5) hc (yyI a)
 cases yd a
 ·cases (a.2.2.2.1== -1||((nth a.2.2.1 a.2.2.2.1 yh).2.2.1||ltb a.2.2.2.2.1 a.2.1.2))
  ·cases a.2.2.2.2.2.2.2.2.2.2.2
   ·cases leb 59990 a.2.2.2.2.2.2.2.1
    ·show ybw (yDf a).1≤_
     unfold yDf
     cases yd (yv a)
     ·exact hn
     ·exact hn2
    ·exact h0
   ·exact h0
  ·exact h0
 ·exact h0
def yab (a:dA):Int×(Int×Int)×Int×Int×Int×Int×Int×List dW×Bool:=(a.1,a.2.1,a.2.2.2.1,a.2.2.2.2.1,a.2.2.2.2.2.1,a.2.2.2.2.2.2.1,a.2.2.2.2.2.2.2.1,a.2.2.2.2.2.2.2.2.1,a.2.2.2.2.2.2.2.2.2.2.2)
theorem yIw (a:dA):yab (opA a).2=yab a:=by
 unfold opA
 cases yd a
 ·cases (a.2.2.2.2.2.2.2.2.2.1==0)
  ·cases ltb 0 a.2.2.2.2.2.2.2.2.2.1<;>rfl
  ·rfl
 ·rfl
theorem ySS (a:dA) (m n:Int) (s:List Int):yab (yeR a m n s)=yab a:=by
 unfold yeR
 cases (nth a.2.2.1 m yh).2.2.1
 ·cases (opA a).1
  ·exact yIw a
  ·exact yIw a
 ·rfl
theorem y23 (a:dA) (i:Nat):yab (yC a i)=yab a:=by
 unfold yC
 cases (nth a.2.2.1 i yh).2.2.1
 ·cases (opA a).1
  ·exact yIw a
  ·exact yIw a
 ·rfl
theorem yzD {one:dA→Nat→dA} (h: ∀ a i,yab (one a i)=yab a): ∀ (l:List Nat) (a:dA),yab (l.foldl one a)=yab a
 | [],_=>rfl
 | x::l,a=>by rw [List.foldl_cons,yzD h l,h]
theorem yGQ (a:dA):yab (yz a)=yab a:=yzD y23 _ _
theorem y3X (a:dA):yab (ygd a)=yab (ymq a):=(yGQ _).trans (yzD (one:=yaL) (fun _ _=>ySS _ _ _ _) _ _)
theorem yx5 {a b:dA} (h:yab a=yab b):a.2.1=b.2.1:=congrArg (fun x=>x.2.1) h
theorem y5k {a b:dA} (h:yab a=yab b):a.2.2.2.2.1=b.2.2.2.2.1:=congrArg (fun x=>x.2.2.2.1) h
theorem yTU {a b:dA} (h:yab a=yab b):a.2.2.2.2.2.2.2.2.1=b.2.2.2.2.2.2.2.2.1:=congrArg (fun x=>x.2.2.2.2.2.2.2.1) h
def ydP (d:List dW) (x:dA):Prop:=x.2.2.1.length≤5∧yae x.2.2.1∧x.2.2.2.2.2.2.2.2.1=d
theorem y5M {a:dA} (h:yp a=true):ydP a.2.2.2.2.2.2.2.2.1 a:=⟨yQj h,yIF h,rfl⟩
theorem y2N {d:List dW} {a:dA} {m n:Int} {s:List Int} (h:ydP d a) (hm:inb m a.2.2.1.length=true):ydP d (yeR a m n s):=⟨by rw [yyb]; exact h.1,y21 h.2.1 hm,(yZ3 _ _ _ _).trans h.2.2⟩
theorem y36 {d:List dW} {a:dA} (h:ydP d a):ydP d (yz a):=⟨by rw [yEW]; exact h.1,yGR h.2.1,(yCG _).trans h.2.2⟩
theorem y35 {d:List dW} {a:dA} (h:ydP d a):ydP d (ygd a):=⟨by rw [yRl]; exact h.1,yMw h.2.1,(yIR _).trans h.2.2⟩
theorem yIV {d:List dW} {a:dA} (h:ydP d a):ydP d (yv a):=⟨by rw [yuR]; exact h.1,yTT h.2.1,(yyI _).trans h.2.2⟩
theorem yVi {d:List dW} {x:dA} (h:ydP d x):ybw x≤yb0 d+5205:=by
 have:=yM2 h.2.1
 have:x.2.2.1.length * 1041≤5 * 1041:=Nat.mul_le_mul_right _ h.1
 unfold ybw
 rw [h.2.2]
 omega
theorem y5G {a x:dA} (ha:ybw a≤2097152) (h:ydP a.2.2.2.2.2.2.2.2.1 x):ybw x≤2105000:=by
 have:=yVi h
 unfold ybw at ha
 omega
theorem y5m {d:List dW} {a:dA} (h:ydP d a):ydP d (yTQ a).1:=by
 have hn:ydP d (ygd (yt4 (yv a))):=y35 (a:=yt4 (yv a)) (yIV h)
 unfold yTQ
 cases yp a
 ·exact h
 cases yd a
 ·cases (a.2.2.2.1== -1||((nth a.2.2.1 a.2.2.2.1 yh).2.2.1||ltb a.2.2.2.2.1 a.2.1.2))
  ·cases a.2.2.2.2.2.2.2.2.2.2.2
   ·cases leb 59990 a.2.2.2.2.2.2.2.1
    ·show ydP d (yDf a).1
     unfold yDf
     cases yd (yv a)
     ·exact hn
     ·exact yIV h
    ·exact h
   ·exact h
  ·exact h
 ·exact h
def yMx (lost:Int) (br:Bool) (S:Int) (i:Nat) (m:dM):Prop:=yu m=true∧(m.1.length:Int)=6+S∧(m.2.2.1=true→(i:Int)=lost∨br=true)
def yVc (lost:Int) (br:Bool) (S:Int) (l:List dM):Prop:= ∀ i,i < l.length→yMx lost br S i (nth l i yh)
theorem y30 {lost S:Int} {br:Bool} {l:List dM} {i:Nat} {x:dM} (h:yVc lost br S l) (hx:i < l.length→yMx lost br S i x):yVc lost br S (l.set i x):=fun j hj=>by
 rw [List.length_set]at hj
 by_cases e:j=i
 ·subst e
  rw [zjW,zcq (by rw [List.length_set]; exact hj),List.getElem_set_self]; exact hx hj
 ·have:=h j hj
  rw [zjW,zcq hj]at this
  rw [zjW,zcq (by rw [List.length_set]; exact hj),List.getElem_set_ne (fun e'=>e e'.symm)]; exact this
theorem y3E {a:dA}:ynt a=true↔yVc a.2.2.2.1 a.2.2.2.2.2.2.2.2.2.2.2 a.2.1.2 a.2.2.1∧(a.2.2.1.length:Int)=a.2.1.1:=by
 constructor
 ·intro h
  refine ⟨fun i hi=>yZZ h hi,?_⟩
  simp only [ynt,Bool.and_eq_true,beq_iff_eq]at h; exact h.2
 ·rintro ⟨h1,h2⟩
  simp only [ynt,Bool.and_eq_true,beq_iff_eq,Bool.not_eq_true',List.any_eq_false,List.mem_range]
  refine ⟨fun i hi=> ?_,h2⟩
  obtain ⟨g1,g2,g3⟩:=h1 i hi
  unfold yg2
  rw [g1,show (((nth a.2.2.1 i yh).1.length:Int) !=6+a.2.1.2)=false from bne_eq_false_iff_eq.2 g2]
  cases hf:(nth a.2.2.1 i yh).2.2.1
  ·simp
  ·rcases g3 hf with e | e
   ·rw [show ((i:Int) !=a.2.2.2.1)=false from bne_eq_false_iff_eq.2 e]; simp
   ·rw [e]; simp
def fuz (a:dA):Int:=a.2.2.2.2.2.2.2.2.2.1
def yk5 (a:dA):Prop:=(yVc a.2.2.2.1 a.2.2.2.2.2.2.2.2.2.2.2 a.2.1.2 a.2.2.1∧(a.2.2.1.length:Int)=a.2.1.1)∧ -1≤fuz a∧fuz a≤1000
def yH9 (a:dA):Prop:=yf a.2.1=true∧(1≤a.1∧a.1≤60000)∧yaK a.2.1 a.2.2.2.2.2.2.2.2.1=true∧(-1≤a.2.2.2.1∧a.2.2.2.1≤a.2.1.1 - 1)∧(0≤a.2.2.2.2.1∧a.2.2.2.2.1≤a.2.1.2)∧(a.2.2.2.1= -1→a.2.2.2.2.1=0) ∧
 (0≤a.2.2.2.2.2.2.1∧a.2.2.2.2.2.2.1≤60000)∧(a.2.2.2.2.2.2.1≤a.2.2.2.2.2.1∧a.2.2.2.2.2.1≤60000)∧a.2.2.2.2.2.1≤a.2.2.2.2.2.2.1+4∧0≤a.2.2.2.2.2.2.2.1∧a.2.2.2.2.2.2.2.1≤60000
theorem y4G {a:dA}:yp a=true↔yH9 a∧yk5 a:=by
 unfold yp yH9 yk5 fuz
 simp only [Bool.and_eq_true,zjQ,y3E,Bool.not_eq_true',Bool.and_eq_false_iff,beq_eq_false_iff_ne,bne_eq_false_iff_eq]
 constructor
 ·rintro ⟨h1,h2,h3,h4,h5,h6,h7,h8,h9,h10,h11,h12⟩
  exact ⟨⟨h1,h2,h4,h5,h6,fun e=>h7.resolve_left (fun g=>g e),h8,h9,h10,h11.1,h11.2⟩,h3,h12⟩
 ·rintro ⟨⟨h1,h2,h4,h5,h6,h7,h8,h9,h10,h11,h11'⟩,h3,h12⟩
  exact ⟨h1,h2,h3,h4,h5,h6,(Decidable.em (a.2.2.2.1= -1)).elim (fun e=> .inr (h7 e)) (fun e=> .inl e),h8,h9,h10,⟨h11,h11'⟩,h12⟩
theorem y5T {a b:dA} (h:yab b=yab a) (ha:yH9 a):yH9 b:=by
 unfold yab at h
 simp only [Prod.mk.injEq]at h
 obtain ⟨h1,h2,h3,h4,h5,h6,h7,h8,h9⟩:=h
 unfold yH9 at *
 rw [h1,h2,h3,h4,h5,h6,h7,h8]; exact ha
theorem y4U {a b:dA} (h:yab b=yab a) (hl:b.2.2.1.length=a.2.2.1.length) (hm:yVc a.2.2.2.1 a.2.2.2.2.2.2.2.2.2.2.2 a.2.1.2 b.2.2.1) (hn:(a.2.2.1.length:Int)=a.2.1.1) (hf: -1≤fuz b∧fuz b≤1000):yk5 b:=by
 unfold yab at h
 simp only [Prod.mk.injEq]at h
 obtain ⟨h1,h2,h3,h4,h5,h6,h7,h8,h9⟩:=h
 unfold yk5
 rw [h2,h3,h9,hl]; exact ⟨⟨hm,hn⟩,hf⟩
theorem y48 {a:dA} (h: -1≤fuz a∧fuz a≤1000): -1≤fuz (opA a).2∧fuz (opA a).2≤1000:=by
 unfold opA
 cases yd a
 ·cases h0:(a.2.2.2.2.2.2.2.2.2.1==0)
  ·cases h1:ltb 0 a.2.2.2.2.2.2.2.2.2.1
   ·exact h
   ·have:=zjT.1 h1
    unfold fuz at h
    show -1≤IntKind.i64.wrap (a.2.2.2.2.2.2.2.2.2.1 - 1)∧IntKind.i64.wrap (a.2.2.2.2.2.2.2.2.2.1 - 1)≤1000
    rw [wr (by omega) (by omega)]; omega
  ·show -1≤(-1:Int)∧(-1:Int)≤1000; omega
 ·exact h
theorem yNs {a:dA} (h:yk5 a):yk5 (opA a).2:=y4U (yIw a) (by rw [yau]) (by rw [yau]; exact h.1.1) h.1.2 (y48 h.2)
theorem yPN {a:dA} {m:Int} {x:dM} (h:yk5 a) (hm:inb m a.2.2.1.length=true) (hx:yMx a.2.2.2.1 a.2.2.2.2.2.2.2.2.2.2.2 a.2.1.2 m.toNat (nth a.2.2.1 m yh)→yMx a.2.2.2.1 a.2.2.2.2.2.2.2.2.2.2.2 a.2.1.2 m.toNat x):yk5 (yz2 a m x):=by
 have hm:=zjP.1 hm
 refine ⟨⟨y30 h.1.1 (fun hi=>hx ?_),by show ((a.2.2.1.set m.toNat x).length:Int)=_; rw [List.length_set]; exact h.1.2⟩,h.2⟩
 have:=h.1.1 m.toNat hi
 rwa [Int.toNat_of_nonneg hm.1]at this
theorem y3D {lost S:Int} {br:Bool} {i:Nat} {m:dM} (n:Int) (s:List Int) (h:yMx lost br S i m):yMx lost br S i (yhd m n s).1 :=
 ⟨y27 n s h.1,by rw [(yZ6 m n s).1]; exact h.2.1,by rw [(yZ6 m n s).2]; exact h.2.2⟩
theorem y3C {lost S:Int} {br:Bool} {i:Nat} {m:dM} (h:yMx lost br S i m):yMx lost br S i (yfr m) :=
 ⟨y2F h.1,by rw [(yZU m).1]; exact h.2.1,by rw [(yZU m).2]; exact h.2.2⟩
theorem y4q {a:dA} {m n:Int} {s:List Int} (h:yk5 a) (hm:inb m a.2.2.1.length=true):yk5 (yeR a m n s):=by
 unfold yeR
 cases (nth a.2.2.1 m yh).2.2.1
 ·cases (opA a).1
  ·exact yNs h
  ·exact yPN (yNs h) (by rw [yau]; exact hm) (fun g=>by rw [yau]at g; exact y3D _ _ g)
 ·exact h
theorem y2K {a:dA} {i:Nat} (h:yk5 a) (hi:i < a.2.2.1.length):yk5 (yC a i):=by
 unfold yC
 cases (nth a.2.2.1 i yh).2.2.1
 ·cases (opA a).1
  ·exact yNs h
  ·exact yPN (yNs h) (by rw [yau]; exact zkO hi) (fun g=>by rw [yau]at g; exact y3C g)
 ·exact h
theorem yQr {P:dA→Prop} {one:dA→Nat→dA} (hl: ∀ a i,(one a i).2.2.1.length=a.2.2.1.length) (ho: ∀ a i,P a→i < a.2.2.1.length→P (one a i)): ∀ (n:Nat) (a:dA),n≤a.2.2.1.length→P a→P ((List.range n).foldl one a)
 | 0,_,_,h=>h
 | n+1,a,hn,h=>by
  rw [List.range_succ,List.foldl_append]
  exact ho _ _ (yQr hl ho n a (by omega) h) (by rw [yqo hl]; exact hn)
theorem yMu {a:dA} (h:yk5 a):yk5 (yz a):=yQr (P:=yk5) (one:=yC) ysP (fun _ _=>y2K) _ a (Nat.le_refl _) h
theorem y3W {a:dA} (h:yk5 a):yk5 (ygd a) :=
 yMu (yQr (P:=yk5) (one:=yaL) (fun _ _=>yyb _ _ _ _) (fun _ _ h hi=>y4q h (zkO hi)) _ (ymq a) (Nat.le_refl _) h)
theorem y5l {a:dA} (h:yk5 a):yk5 (yv a):=by
 unfold yv
 cases yd (yz a)
 ·exact y3W (a:=ynG (yz a)) (yMu h)
 ·exact yMu h
end
section
def yAG:Code:=(Tryz.f223.body).getD .skip
def yA8:Env:=zki TT [] []
theorem yIN:FrOk Tryz.prog ⟨yA8,7,fun _=>none⟩ yAG:=zkp yb yc trivial
def yJ7:Nat→Option Seg:=fun _=>none
abbrev yfE:List Par:= [.rd tI,.rp tI]
abbrev yjV:List OT:= [⟨false,tB,.fz⟩]
def ynZ (a0 a1:Int):Option (ResD yjV×MutD yfE) :=
 some (((a0==a1),()),())
theorem yNX (x:InD yfE):zjH ⟨yA8,7,yJ7⟩ Tryz.f223.results.toList yAG yfE yjV x=ynZ x.1 x.2.1:=by kernel_rfl
theorem yKD:ConOk Tryz.prog 223 ⟨yfE,yjV,fun x=>ynZ x.1 x.2.1⟩:=zkh (yIN) Tryz.func223 (by kernel_rfl) (by kernel_rfl) Tryz.ntmps223.symm (by decide) (fun x r h=>(yNX x).trans h)
def ydq (a0 a1:Int):Bool :=
 (a0==a1)
def ynN:Con:=⟨yfE,yjV,fun x=>(fun n=>some ((n,()),())) (ydq x.1 x.2.1)⟩
theorem yMT (a0 a1:Int):ynZ a0 a1=(fun n=>some ((n,()),())) (ydq a0 a1):=zkS (p:=fun (n:Bool)=>((n,()),())) rfl
theorem yz0:ConOk Tryz.prog 223 ynN:=(yKD).mono (fun x r _ h=>(yMT x.1 x.2.1).trans h)
end
section
def ybU:Code:=(Tryz.f268.body).getD .skip
def yen:Env:=zki TT [(223,ynN)] []
theorem yCy:FrOk Tryz.prog ⟨yen,19,fun _=>none⟩ ybU:=zkp yb yc ⟨yz0,trivial⟩
def ypM:Nat→Option Seg:=fun _=>none
def yE:Shape:=⟨[(0,false,[.br tI]),(1,false,[.fx 223 tI]),(7,false,[.int .i64]),(8,false,[.int .i64])],[],[]⟩
def yaE:Shape:=⟨[(0,false,[.br tI]),(1,false,[.fx 223 tI]),(7,false,[.int .i64]),(8,false,[.ci .i64 0])],[],[]⟩
def yaC:Shape:=⟨[],[],[]⟩
def yaG:Shape:=⟨[(4,false,[.int .i64])],[],[]⟩
abbrev yft (v0:List Int) (v1 v2 v3:Int):(yE).X:=(((v0,()),(v1,()),(v2,()),(v3,()),()),(),())
abbrev yAq (v0:List Int) (v1 v2:Int):(yaE).X:=(((v0,()),(v1,()),(v2,()),((),()),()),(),())
abbrev yAo  :(yaC).X:=((),(),())
abbrev ynv (v0:Int):(yaG).X:=(((v0,()),()),(),())
def yfA (v0:List Int) (v1 v2 v3:Int):Option ((yE).X ⊕ ((yaC).X ⊕ (yaG).X)) :=
 bif (ltb v3 v2) then
 bif (inb v3 v0.length) then
 let r2:=ydq (nth v0 v3 0) v1
 bif r2 then
 some (.inr (.inr (((v3,()),()),(),())))
 else
 some (.inl (((v0,()),(v1,()),(v2,()),((IntKind.i64.wrap (v3+1)),()),()),(),()))
 else none
 else
 some (.inr (.inl ((),(),())))
def yN (x:(yE).X):=yfA x.1.1.1 x.1.2.1.1 x.1.2.2.1.1 x.1.2.2.2.1.1
def ynq (x:(yaE).X):(yE).X:=(((x.1.1.1,()),(x.1.2.1.1,()),(x.1.2.2.1.1,()),(0,()),()),(),())
def yo3:Code:=(zdI ybU 64 52).getD .skip
theorem yCt:zdI ybU 64 13=some (.block 0 (.loop yo3)):=by kernel_rfl
theorem yCD (x:(yE).X):zg7 ⟨yen,19,ypM⟩ 0 yo3 52 yE yaC yaG x=yN x:=by kernel_rfl
def yns (x:(yaE).X):Nat:=18446744073709551616
def ygc (x:(yaE).X):Option ((yaC).X ⊕ (yaG).X):=zr yN (yns x) (ynq x)
def ynF:Seg:=⟨yaE,yaC,yaG,ygc⟩
def ypN:Nat→Option Seg:=fun q=>bif Nat.beq q 13 then some ynF else ypM q
theorem yCz:FrOk Tryz.prog ⟨yen,19,ypN⟩ ybU:=(yCy).loop (sg:=ynF) yE ynq (by decide) yCt yN yns (by decide) (fun _=>rfl) (fun x r _ h=>h) yCD
abbrev yas:List Par:= [.rd tL,.fn 223 tI]
abbrev yeq:List OT:= [⟨false,tI,.fz⟩]
def ydg (a0:List Int) (a1:Int):Option (ResD yeq×MutD yas) :=
 zjw (ygc (((a0,()),(a1,()),((a0.length:Int),()),((),()),()),(),())) (fun y2 =>
 some (((-1),()),())) (fun y2 =>
 some ((y2.1.1.1,()),()))
theorem yGW (x:InD yas):zjH ⟨yen,19,ypN⟩ Tryz.f268.results.toList ybU yas yeq x=ydg x.1 x.2.1:=by kernel_rfl
theorem yEy:ConOk Tryz.prog 268 ⟨yas,yeq,fun x=>ydg x.1 x.2.1⟩:=zkh (yCz) Tryz.func268 (by kernel_rfl) (by kernel_rfl) Tryz.ntmps268.symm (by decide) (fun x r h=>(yGW x).trans h)
def ybX (a0:List Int) (a1:Int):Int:=yB (fun e:Int=>e==a1) a0
theorem yE1 (a0:List Int) (a1:Int) (hk:zi9 yas (a0,a1,())):ydg a0 a1=(fun n=>some ((n,()),())) (ybX a0 a1):=by
 have hb:a0.length * 8≤2 ^ 47:=hk.1.1
 have h1:ygc (yAq a0 a1 a0.length)=some (bif leb 0 (yB (fun e:Int=>e==a1) a0) then .inr (ynv (yB (fun e:Int=>e==a1) a0)) else .inl yAo) :=
  yMv (step:=yN) a0 0 (fun i=>yft a0 a1 a0.length i) (fun e:Int=>e==a1) (fun i=> .inr (ynv i)) _ (fun i hi=>by
   simp only [yN,yft,yfA,zjI (show (i:Int) < a0.length by omega),cond_true,wr (show -9223372036854775808≤(i:Int)+1 by omega) (by omega),Int.natCast_add,Int.natCast_one,Int.toNat_natCast,zkO hi,zjW,ydq]
   cases (a0.getD i 0==a1)<;>rfl) (by simp only [yN,yft,yfA,zkm (Int.le_refl _),cond_false]) _ (by show _ < 18446744073709551616; omega)
 unfold ydg ybX
 rw [h1]
 cases h:leb 0 (yB (fun e:Int=>e==a1) a0)
 ·rw [yNr h]; rfl
 ·rfl
def yqn:Con:=⟨yas,yeq,fun x=>(fun n=>some ((n,()),())) (ybX x.1 x.2.1)⟩
theorem yE4:ConOk Tryz.prog 268 yqn:=(yEy).mono (fun x r hk h=>(yE1 x.1 x.2.1 hk).trans h)
end
section
def ybl:Code:=(Tryz.f222.body).getD .skip
def ydQ:Env:=zki TT [(223,ynN),(268,yqn)] []
theorem yAl:FrOk Tryz.prog ⟨ydQ,42,fun _=>none⟩ ybl:=zkp yb yc ⟨yz0,yE4,trivial⟩
def yoe:Nat→Option Seg:=fun _=>none
def yA:Shape:=⟨[(0,false,[.at 800000000]),(1,false,[.fx 223 tI]),(5,false,[.int .i64]),(6,false,[.int .i64])],[],[(800000000,tI,.fz)]⟩
def yal:Shape:=⟨[(0,false,[.at 800000000]),(1,false,[.fx 223 tI]),(5,false,[.int .i64]),(6,false,[.int .i64])],[],[(800000000,tI,.fz)]⟩
def yak:Shape:=⟨[(0,false,[.at 800000000]),(5,false,[.int .i64])],[],[(800000000,tI,.fz)]⟩
def ybZ:Shape:=⟨[],[],[]⟩
abbrev ybx (v0 v1 v2:Int) (v3:List Int):(yA).X:=((((),()),(v0,()),(v1,()),(v2,()),()),(),(v3,()))
abbrev yzY (v0 v1 v2:Int) (v3:List Int):(yal).X:=((((),()),(v0,()),(v1,()),(v2,()),()),(),(v3,()))
abbrev yzW (v0:Int) (v1:List Int):(yak).X:=((((),()),(v0,()),()),(),(v1,()))
def yeS (v0 v1 v2:Int) (v3:List Int):Option ((yA).X ⊕ ((yak).X ⊕ (ybZ).X)) :=
 bif (ltb v2 (v3.length:Int)) then
 bif (inb v2 v3.length) then
 let r3:=ydq (nth v3 v2 0) v0
 bif (!r3) then
 bif (inb v1 v3.length) then
 some (.inl ((((),()),(v0,()),((IntKind.i64.wrap (v1+1)),()),((IntKind.i64.wrap (v2+1)),()),()),(),((v3.set (v1).toNat (nth v3 v2 0)),())))
 else none
 else
 some (.inl ((((),()),(v0,()),(v1,()),((IntKind.i64.wrap (v2+1)),()),()),(),(v3,())))
 else none
 else
 some (.inr (.inl ((((),()),(v1,()),()),(),(v3,()))))
def yI (x:(yA).X):=yeS x.1.2.1.1 x.1.2.2.1.1 x.1.2.2.2.1.1 x.2.2.1
def ylG (x:(yal).X):(yA).X:=((((),()),(x.1.2.1.1,()),(x.1.2.2.1.1,()),(x.1.2.2.2.1.1,()),()),(),(x.2.2.1,()))
def yno:Code:=(zdI ybl 64 244).getD .skip
theorem yAi:zdI ybl 64 61=some (.block 0 (.loop yno)):=by kernel_rfl
theorem yAy (x:(yA).X):zg7 ⟨ydQ,42,yoe⟩ 0 yno 244 yA yak ybZ x=yI x:=by kernel_rfl
def ylH (x:(yal).X):Nat:=18446744073709551616
def yfn (x:(yal).X):Option ((yak).X ⊕ (ybZ).X):=zr yI (ylH x) (ylG x)
def ylI:Seg:=⟨yal,yak,ybZ,yfn⟩
def yof:Nat→Option Seg:=fun q=>bif Nat.beq q 61 then some ylI else yoe q
theorem yAm:FrOk Tryz.prog ⟨ydQ,42,yof⟩ ybl:=(yAl).loop (sg:=ylI) yA ylG (by decide) yAi yI ylH (by decide) (fun _=>rfl) (fun x r _ h=>h) yAy
abbrev yag:List Par:= [.kp tL (.ow .fz),.fn 223 tI]
abbrev ydR:List OT:= [⟨false,tL,(.ow .fz)⟩]
def ycL (a0:List Int) (a1:Int):Option (ResD ydR×MutD yag) :=
 let r1:=ybX a0 a1
 bif (r1==(-1)) then
 some ((a0,()),())
 else
 zjw (yfn ((((),()),(a1,()),(r1,()),((IntKind.i64.wrap (r1+1)),()),()),(),(a0,()))) (fun y3 =>
 bif (zjG y3.1.2.1.1 (y3.2.2.1.length:Int) y3.2.2.1.length) then
 bif (zjG 0 y3.1.2.1.1 (y3.2.2.1.take (y3.1.2.1.1).toNat++(List.replicate ((y3.2.2.1.length:Int) - y3.1.2.1.1).toNat (0:Int))++y3.2.2.1.drop ((y3.1.2.1.1).toNat+(List.replicate ((y3.2.2.1.length:Int) - y3.1.2.1.1).toNat (0:Int)).length)).length) then
 some (((((y3.2.2.1.take (y3.1.2.1.1).toNat++(List.replicate ((y3.2.2.1.length:Int) - y3.1.2.1.1).toNat (0:Int))++y3.2.2.1.drop ((y3.1.2.1.1).toNat+(List.replicate ((y3.2.2.1.length:Int) - y3.1.2.1.1).toNat (0:Int)).length)).drop (0:Int).toNat).take (y3.1.2.1.1 - 0).toNat),()),())
 else none
 else none) (fun y3 =>
 none)
theorem yEY (x:InD yag):zjH ⟨ydQ,42,yof⟩ Tryz.f222.results.toList ybl yag ydR x=ycL x.1 x.2.1:=by kernel_rfl
theorem yCB:ConOk Tryz.prog 222 ⟨yag,ydR,fun x=>ycL x.1 x.2.1⟩:=zkh (yAm) Tryz.func222 (by kernel_rfl) (by kernel_rfl) Tryz.ntmps222.symm (by decide) (fun x r h=>(yEY x).trans h)
def ybm (a0:List Int) (a1:Int):List Int:=yZM a0 a1
theorem yEu (a0:List Int) (a1:Int) (hk:zi9 yag (a0,a1,())):ycL a0 a1=(fun n=>some ((n,()),())) (ybm a0 a1):=by
 have hb:a0.length * 8≤2 ^ 47:=hk.1.1
 have hs:yZM a0 a1=a0.filter (fun x=> !(x==a1)):=rfl
 unfold ycL ybm ybX
 simp only []
 cases hi:leb 0 (yB (fun e:Int=>e==a1) a0)
 ·rw [yNr hi,hs,y4o hi]; rfl
 ·obtain ⟨h1,h2⟩:=yua (d:=(0:Int)) hi
  have h3:=zjP.1 h1
  have h4:=yZX hi
  generalize hk0:yB (fun e:Int=>e==a1) a0=k at *
  obtain ⟨k,rfl⟩: ∃ m:Nat,k=m:=⟨k.toNat,by omega⟩
  rw [Int.toNat_natCast]at h4
  rw [show ((k:Int)== -1)=false from beq_eq_false_iff_ne.2 (by omega),cond_false,wr (show -9223372036854775808≤(k:Int)+1 by omega) (by omega)]
  obtain ⟨b,e,i,s,rfl,q1,q2,q3⟩:=ziU (step:=yI) (fun x=>(a0.length - Int.toNat x.1.2.2.2.1.1))
   (fun x=> ∃ (i j:Nat) (s:List Int),x=ybx a1 i j s∧i < j∧j≤a0.length∧s.length=a0.length∧s.take i=(a0.take j).filter (fun x=> !(x==a1))∧s.drop j=a0.drop j)
   (fun b=> ∃ (i:Nat) (s:List Int),b= .inl (yzW i s)∧i≤a0.length∧s.length=a0.length∧s.take i=a0.filter (fun x=> !(x==a1)))
   (fun x hx=>by
    obtain ⟨i,j,s,rfl,p1,p2,p3,p4,p5⟩:=hx
    by_cases hj:j < a0.length
    ·left
     have e1:nth s j 0=a0[j]:=by
      rw [zjW,zcq (by omega)]
      have:=List.getElem_drop (xs:=s) (i:=j) (j:=0) (h:=by rw [List.length_drop]; omega)
      have h6:(s.drop j)[0]'(by rw [List.length_drop]; omega)=(a0.drop j)[0]'(by rw [List.length_drop]; omega):=by simp only [p5]
      simpa using h6
     have e2:a0.take (j+1)=a0.take j++ [a0[j]]:=(List.take_append_getElem hj).symm
     simp only [yI,ybx,yeS,p3,zjI (show (j:Int) < a0.length by omega),zkO hj,zkO (show i < a0.length by omega),e1,ydq,wr (show -9223372036854775808≤(j:Int)+1 by omega) (by omega),wr (show -9223372036854775808≤(i:Int)+1 by omega) (by omega),cond_true,Int.toNat_natCast]
     cases hx:(a0[j]==a1)
     ·refine ⟨_,rfl,⟨i+1,j+1,s.set i a0[j],rfl,by omega,by omega,by rw [List.length_set,p3],?_,?_⟩,by show a0.length - ((j:Int)+1).toNat < a0.length - ((j:Int)).toNat; omega⟩
      ·rw [List.take_set,← List.take_append_getElem (show i < s.length by omega),List.set_append_right _ _ (by rw [List.length_take]; omega),p4,e2,List.filter_append,List.filter_cons,hx]
       have:i - (List.filter (fun x=> !x==a1) (a0.take j)).length=0:=by rw [← p4,List.length_take]; omega
       rw [this]; rfl
      ·rw [List.drop_set_of_lt (by omega),← List.drop_drop,p5,List.drop_drop]
     ·refine ⟨_,rfl,⟨i,j+1,s,rfl,by omega,by omega,p3,?_,?_⟩,by show a0.length - ((j:Int)+1).toNat < a0.length - ((j:Int)).toNat; omega⟩
      ·rw [p4,e2,List.filter_append,List.filter_cons,hx]; simp
      ·rw [← List.drop_drop,p5,List.drop_drop]
    ·right
     have:j=a0.length:=by omega
     subst this
     rw [List.take_length]at p4
     refine ⟨_,?_,i,s,rfl,by omega,p3,p4⟩
     simp only [yI,ybx,yeS,p3,zkm (Int.le_refl _),cond_false]) 18446744073709551616 (ybx a1 k (k+1:Nat) a0) ⟨k,k+1,a0,rfl,by omega,by omega,rfl,h4.symm,rfl⟩ (by show a0.length - ((k+1:Nat):Int).toNat < 18446744073709551616; omega)
  rw [show ((k+1:Nat):Int)=(k:Int)+1 by omega]at e
  rw [show yfn (yzY a1 k ((k:Int)+1) a0)=_ from e]
  rw [hs,← q3]
  have hL:(s.take i++List.replicate ((s.length:Int) - i).toNat (0:Int)++s.drop ((i:Int).toNat+(List.replicate ((s.length:Int) - i).toNat (0:Int)).length)).length=s.length:=by
   simp only [List.length_append,List.length_take,List.length_replicate,List.length_drop]; omega
  show (bif zjG i s.length s.length then bif zjG 0 i (s.take i++List.replicate ((s.length:Int) - i).toNat (0:Int)++s.drop ((i:Int).toNat+(List.replicate ((s.length:Int) - i).toNat (0:Int)).length)).length then some ((((s.take i++List.replicate ((s.length:Int) - i).toNat (0:Int)++s.drop ((i:Int).toNat+(List.replicate ((s.length:Int) - i).toNat (0:Int)).length)).drop 0).take ((i:Int) - 0).toNat,()),()) else none else none)=some ((s.take i,()),())
  rw [hL,zko.2 (show 0≤(i:Int)∧(i:Int)≤s.length∧(s.length:Int)≤s.length by omega),zko.2 (show (0:Int)≤0∧(0:Int)≤i∧(i:Int)≤s.length by omega),List.drop_zero,show ((i:Int) - 0).toNat=i by omega,List.append_assoc,List.take_append_of_le_length (by rw [List.length_take]; omega),List.take_take,Nat.min_self]; rfl
def yo4:Con:=⟨yag,ydR,fun x=>(fun n=>some ((n,()),())) (ybm x.1 x.2.1)⟩
theorem yEA:ConOk Tryz.prog 222 yo4:=(yCB).mono (fun x r hk h=>(yEu x.1 x.2.1 hk).trans h)
end
section
def yE7:Code:=(Tryz.f129.body).getD .skip
def yFM:Env:=zki TT [(133,yro),(200,ydp),(219,ymo),(220,yv5),(221,yxY),(222,yo4)] []
theorem yL4:FrOk Tryz.prog ⟨yFM,51,fun _=>none⟩ yE7:=zkp yb yc ⟨yAu,yha,ywB,yIq,yJY,yEA,trivial⟩
def yNw:Nat→Option Seg:=fun _=>none
abbrev yeX:List Par:= [.rd tM,.rd tI,.rd tL]
abbrev yoD:List OT:= [⟨false,tM,(.pr (.ow (.ow .fz)) (.pr (.ow (.pr .fz (.ow .fz))) (.pr .fz (.ow .fz))))⟩,⟨false,tB,.fz⟩]
def yki (a0:dM) (a1:Int) (a2:List Int):Option (ResD yoD×MutD yeX) :=
 let r1:=ya7 a0
 let r2:=yda a0
 bif (!(!r2)) then
 bif (!a0.2.2.1) then
 let r3:=ydL a0 a1
 bif (!(!r3)) then
 let r4:=yg4 a2
 bif (!(!r4)) then
 bif ((a0.2.1.length:Int)==60) then
 some ((r1,false,()),())
 else
 let r5:=yi a2
 bif (zj4 r1.2.1.length ([(a1,r5)]:List dW).length 32) then
 let r6:=ybm r1.2.2.2 a1
 some (((r1.1,(r1.2.1++([(a1,r5)]:List dW)),r1.2.2.1,r6),true,()),())
 else none
 else
 some ((r1,false,()),())
 else
 some ((r1,false,()),())
 else
 some ((r1,false,()),())
 else
 some ((r1,false,()),())
theorem yT1 (x:InD yeX):zjH ⟨yFM,51,yNw⟩ Tryz.f129.results.toList yE7 yeX yoD x=yki x.1 x.2.1 x.2.2.1:=by kernel_rfl
theorem yOZ:ConOk Tryz.prog 129 ⟨yeX,yoD,fun x=>yki x.1 x.2.1 x.2.2.1⟩:=zkh (yL4) Tryz.func129 (by kernel_rfl) (by kernel_rfl) Tryz.ntmps129.symm (by decide) (fun x r h=>(yT1 x).trans h)
def yjn (a0:dM) (a1:Int) (a2:List Int):dM×Bool:=yhd a0 a1 a2
theorem yRV (a0:dM) (a1:Int) (a2:List Int) (hk:zi9 yeX (a0,a1,a2,())):yki a0 a1 a2=(fun n=>some ((n.1,n.2,()),())) (yjn a0 a1 a2):=by
 have hb1:a0.1.length * 24≤2 ^ 47:=hk.1.1.1
 unfold yki yjn yhd yxX
 simp only [ya7,yda,ydL,yaH,ywn (show a0.1.length≤1152921504606846976 by omega),yGX,yi,ybm]
 cases hm:yu a0
 ·rfl
 have hc:=(ygj hm).2.2.2.2.2
 cases a0.2.2.1
 ·cases inb a1 a0.1.length
  ·rfl
  cases ybA a2
  ·rfl
  by_cases h:(a0.2.1.length:Int) < 60
  ·rw [zjI h,show ((a0.2.1.length:Int)==60)=false from beq_eq_false_iff_ne.2 (by omega),zkw.2 (show (a0.2.1.length+ [(a1,a2)].length) * 32≤140737488355328 by simp only [List.length_cons,List.length_nil]; omega)]; rfl
  ·rw [zkm (by omega),show ((a0.2.1.length:Int)==60)=true from beq_iff_eq.2 (by omega)]; rfl
 ·rfl
def yBt:Con:=⟨yeX,yoD,fun x=>(fun n=>some ((n.1,n.2,()),())) (yjn x.1 x.2.1 x.2.2.1)⟩
theorem ySE:ConOk Tryz.prog 129 yBt:=(yOZ).mono (fun x r hk h=>(yRV x.1 x.2.1 x.2.2.1 hk).trans h)
end
section
def yI7:Code:=(Tryz.f205.body).getD .skip
def yJw:Env:=zki TT [] []
theorem yQs:FrOk Tryz.prog ⟨yJw,26,fun _=>none⟩ yI7:=zkp yb yc trivial
def yTd:Nat→Option Seg:=fun _=>none
abbrev ym5:List Par:= [.pt tA (.pr .fz (.pr (.pr .fz .fz) (.pr (.ow (.pr (.ow (.ow .fz)) (.pr (.ow (.pr .fz (.ow .fz))) (.pr .fz (.ow .fz))))) (.pr .fz (.pr .fz (.pr .fz (.pr .fz (.pr .fz (.pr (.ow (.pr .fz (.ow .fz))) (.pr .fz (.pr .fz .fz)))))))))))]
abbrev ys3:List OT:= [⟨false,tB,.fz⟩]
def ywG (a0:dA):Option (ResD ys3×MutD ym5) :=
 bif (a0.2.2.2.2.2.2.2.2.2.1==0) then
 some ((false,()),((a0.1,a0.2.1,a0.2.2.1,a0.2.2.2.1,a0.2.2.2.2.1,a0.2.2.2.2.2.1,a0.2.2.2.2.2.2.1,a0.2.2.2.2.2.2.2.1,a0.2.2.2.2.2.2.2.2.1,(-1),true,a0.2.2.2.2.2.2.2.2.2.2.2),()))
 else
 bif (ltb 0 a0.2.2.2.2.2.2.2.2.2.1) then
 some ((true,()),((a0.1,a0.2.1,a0.2.2.1,a0.2.2.2.1,a0.2.2.2.2.1,a0.2.2.2.2.2.1,a0.2.2.2.2.2.2.1,a0.2.2.2.2.2.2.2.1,a0.2.2.2.2.2.2.2.2.1,(IntKind.i64.wrap (a0.2.2.2.2.2.2.2.2.2.1 - 1)),a0.2.2.2.2.2.2.2.2.2.2),()))
 else
 some ((true,()),(a0,()))
theorem y0c (x:InD ym5):zjH ⟨yJw,26,yTd⟩ Tryz.f205.results.toList yI7 ym5 ys3 x=ywG x.1:=by kernel_rfl
theorem yVK:ConOk Tryz.prog 205 ⟨ym5,ys3,fun x=>ywG x.1⟩:=zkh (yQs) Tryz.func205 (by kernel_rfl) (by kernel_rfl) Tryz.ntmps205.symm (by decide) (fun x r h=>(y0c x).trans h)
def yhT (a0:dA):Bool×dA :=
 bif (a0.2.2.2.2.2.2.2.2.2.1==0) then
 (false,(a0.1,a0.2.1,a0.2.2.1,a0.2.2.2.1,a0.2.2.2.2.1,a0.2.2.2.2.2.1,a0.2.2.2.2.2.2.1,a0.2.2.2.2.2.2.2.1,a0.2.2.2.2.2.2.2.2.1,(-1),true,a0.2.2.2.2.2.2.2.2.2.2.2))
 else
 bif (ltb 0 a0.2.2.2.2.2.2.2.2.2.1) then
 (true,(a0.1,a0.2.1,a0.2.2.1,a0.2.2.2.1,a0.2.2.2.2.1,a0.2.2.2.2.2.1,a0.2.2.2.2.2.2.1,a0.2.2.2.2.2.2.2.1,a0.2.2.2.2.2.2.2.2.1,(IntKind.i64.wrap (a0.2.2.2.2.2.2.2.2.2.1 - 1)),a0.2.2.2.2.2.2.2.2.2.2))
 else
 (true,a0)
def yv2:Con:=⟨ym5,ys3,fun x=>(fun n=>some ((n.1,()),(n.2,()))) (yhT x.1)⟩
theorem yX6 (a0:dA):ywG a0=(fun n=>some ((n.1,()),(n.2,()))) (yhT a0):=zkS (p:=fun (n:Bool×dA)=>((n.1,()),(n.2,()))) (zkx (p:=fun (n:Bool×dA)=>((n.1,()),(n.2,()))) rfl (zkx (p:=fun (n:Bool×dA)=>((n.1,()),(n.2,()))) rfl rfl))
theorem yIo:ConOk Tryz.prog 205 yv2:=(yVK).mono (fun x r _ h=>(yX6 x.1).trans h)
theorem yVa {a:dA} (h:yd a=false):yhT a=opA a:=by
 unfold yhT opA
 rw [h]
 cases (a.2.2.2.2.2.2.2.2.2.1==0)
 ·cases ltb 0 a.2.2.2.2.2.2.2.2.2.1
  ·rfl
  ·show (true,_)=(true,y1Y a _ false)
   unfold y1Y
   rw [show a.2.2.2.2.2.2.2.2.2.2=(yd a,a.2.2.2.2.2.2.2.2.2.2.2) from rfl,h]
 ·rfl
end
end
end Go.Tf
