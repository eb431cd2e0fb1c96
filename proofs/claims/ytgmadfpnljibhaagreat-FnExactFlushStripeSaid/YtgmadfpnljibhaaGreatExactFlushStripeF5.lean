/- Functions of the program, and what they come to. -/
import Derived.Test.YtgmadfpnljibhaaGreatExactFlushStripeF4
namespace Go.Tf
noncomputable section
open Go.Proofs
set_option synthInstance.maxHeartbeats 400000
set_option synthInstance.maxSize 10000
set_option linter.unusedVariables false
set_option linter.unusedSimpArgs false
set_option maxRecDepth 100000
section
def yD7:Code:=(Tryz.f140.body).getD .skip
def yEL:Env:=zki TT [(226,yCI)] []
theorem yK2:FrOk Tryz.prog ⟨yEL,25,fun _=>none⟩ yD7:=zkp yb yc ⟨yUU,trivial⟩
def yMb:Nat→Option Seg:=fun _=>none
abbrev yhV:List Par:= [.rd tS]
abbrev yoj:List OT:= [⟨false,tL,(.ow .fz)⟩]
def yrK (a0:dS):Option (ResD yoj×MutD yhV) :=
 let r1:=ycl a0
 bif (!r1) then
 some ((([]:List Int),()),())
 else
 some ((([21317,a0.1,a0.2.1,a0.2.2.1,a0.2.2.2.1,a0.2.2.2.2.1,a0.2.2.2.2.2.1,(IntKind.i64.wrap (a0.2.2.2.2.2.2.1+1)),a0.2.2.2.2.2.2.2]:List Int),()),())
theorem ySF (x:InD yhV):zjH ⟨yEL,25,yMb⟩ Tryz.f140.results.toList yD7 yhV yoj x=yrK x.1:=by kernel_rfl
theorem yNK:ConOk Tryz.prog 140 ⟨yhV,yoj,fun x=>yrK x.1⟩:=zkh (yK2) Tryz.func140 (by kernel_rfl) (by kernel_rfl) Tryz.ntmps140.symm (by decide) (fun x r h=>(ySF x).trans h)
def yaD (a0:dS):(List Int) :=
 let r1:=ycl a0
 bif (!r1) then
 ([]:List Int)
 else
 ([21317,a0.1,a0.2.1,a0.2.2.1,a0.2.2.2.1,a0.2.2.2.2.1,a0.2.2.2.2.2.1,(IntKind.i64.wrap (a0.2.2.2.2.2.2.1+1)),a0.2.2.2.2.2.2.2]:List Int)
def yAB:Con:=⟨yhV,yoj,fun x=>(fun n=>some ((n,()),())) (yaD x.1)⟩
theorem yQD (a0:dS):yrK a0=(fun n=>some ((n,()),())) (yaD a0):=zkS (p:=fun (n:(List Int))=>((n,()),())) (zkx (p:=fun (n:(List Int))=>((n,()),())) rfl rfl)
theorem yRg:ConOk Tryz.prog 140 yAB:=(yNK).mono (fun x r _ h=>(yQD x.1).trans h)
abbrev yd (a:dA):Bool:=a.2.2.2.2.2.2.2.2.2.2.1
def y0k (a:dA) (f:Int) (d:Bool):dA:=(a.1,a.2.1,a.2.2.1,a.2.2.2.1,a.2.2.2.2.1,a.2.2.2.2.2.1,a.2.2.2.2.2.2.1,a.2.2.2.2.2.2.2.1,a.2.2.2.2.2.2.2.2.1,f,d,a.2.2.2.2.2.2.2.2.2.2.2)
def opA (a:dA):Bool×dA:=bif yd a then (false,a) else bif a.2.2.2.2.2.2.2.2.2.1==0 then (false,y0k a (-1) true) else bif ltb 0 a.2.2.2.2.2.2.2.2.2.1 then (true,y0k a (IntKind.i64.wrap (a.2.2.2.2.2.2.2.2.2.1 - 1)) (yd a)) else (true,a)
def yy6 (a:dA) (m:Int) (x:dM):dA:=(a.1,a.2.1,a.2.2.1.set m.toNat x,a.2.2.2)
def yeF (a:dA) (m n:Int) (s:List Int):dA:=bif (nth a.2.2.1 m yh).2.2.1 then a else bif (opA a).1 then yy6 (opA a).2 m (ygX (nth a.2.2.1 m yh) n s).1 else (opA a).2
def yy (a:dA) (i:Nat):dA:=bif (nth a.2.2.1 i yh).2.2.1 then a else bif (opA a).1 then yy6 (opA a).2 i (yfc (nth a.2.2.1 i yh)) else (opA a).2
def yw (a:dA):dA:=(List.range a.2.2.1.length).foldl yy a
def y3M (a:dA) (i:Int):dS:=(a.1,a.2.2.2.2.2.2.2.1,i,a.2.1.1,a.2.1.2,a.2.2.2.2.2.2.1,a.2.2.2.1,a.2.2.2.2.1)
def yaF (a:dA) (i:Nat):dA:=yeF a i (a.2.2.2.2.2.2.2.1.tmod 2) (yaD (y3M a i))
def ylX (a:dA):dA:=(a.1,a.2.1,a.2.2.1,a.2.2.2.1,a.2.2.2.2.1,a.2.2.2.2.2.1,a.2.2.2.2.2.2.1,IntKind.i64.wrap (a.2.2.2.2.2.2.2.1+1),a.2.2.2.2.2.2.2.2)
def yfX (a:dA):dA:=yw ((List.range a.2.2.1.length).foldl yaF (ylX a))
theorem yao (a:dA):(opA a).2.2.2.1=a.2.2.1:=by
 unfold opA
 cases yd a
 ·cases (a.2.2.2.2.2.2.2.2.2.1==0)
  ·cases ltb 0 a.2.2.2.2.2.2.2.2.2.1<;>rfl
  ·rfl
 ·rfl
theorem yX1 {a:dA} (h:yd a=false):yd (opA a).2= !(opA a).1:=by
 unfold opA
 rw [h]
 cases (a.2.2.2.2.2.2.2.2.2.1==0)
 ·cases ltb 0 a.2.2.2.2.2.2.2.2.2.1
  ·exact h
  ·rfl
 ·rfl
theorem y1K {a:dA} (h:yd a=true):opA a=(false,a):=by unfold opA; rw [h]; rfl
theorem yxg (a:dA) (m n:Int) (s:List Int):(yeF a m n s).2.2.1.length=a.2.2.1.length:=by
 unfold yeF
 cases (nth a.2.2.1 m yh).2.2.1
 ·cases (opA a).1
  ·show (opA a).2.2.2.1.length=_; rw [yao]
  ·show ((opA a).2.2.2.1.set m.toNat _).length=_; rw [List.length_set,yao]
 ·rfl
theorem ysd (a:dA) (i:Nat):(yy a i).2.2.1.length=a.2.2.1.length:=by
 unfold yy
 cases (nth a.2.2.1 i yh).2.2.1
 ·cases (opA a).1
  ·show (opA a).2.2.2.1.length=_; rw [yao]
  ·show ((opA a).2.2.2.1.set _ _).length=_; rw [List.length_set,yao]
 ·rfl
theorem ypO {one:dA→Nat→dA} (h: ∀ a i,(one a i).2.2.1.length=a.2.2.1.length): ∀ (l:List Nat) (a:dA),(l.foldl one a).2.2.1.length=a.2.2.1.length
 | [],_=>rfl
 | x::l,a=>by rw [List.foldl_cons,ypO h l,h]
theorem yDV (a:dA):(yw a).2.2.1.length=a.2.2.1.length:=ypO ysd _ _
theorem yRn {a:dA} (h:yd a=true) (m n:Int) (s:List Int):yeF a m n s=a:=by
 unfold yeF
 rw [y1K h]
 cases (nth a.2.2.1 m yh).2.2.1<;>rfl
theorem yL0 {a:dA} (i:Nat) (h:yd a=true):yy a i=a:=by
 unfold yy
 rw [y1K h]
 cases (nth a.2.2.1 i yh).2.2.1<;>rfl
theorem yKz {one:dA→Nat→dA} (hs: ∀ a i,yd a=true→one a i=a): ∀ (l:List Nat) (a:dA),yd a=true→l.foldl one a=a
 | [],_,_=>rfl
 | x::l,a,h=>by rw [List.foldl_cons,hs a x h]; exact yKz hs l a h
theorem yYq {a:dA} (h:yd a=true):yw a=a:=yKz (fun _ i h=>yL0 i h) _ a h
theorem y2O {a:dA} (h:yd a=false) (m n:Int) (s:List Int):yd (yeF a m n s)=(!(nth a.2.2.1 m yh).2.2.1&& !(opA a).1):=by
 have:=yX1 h
 unfold yeF
 cases (nth a.2.2.1 m yh).2.2.1
 ·cases ho:(opA a).1
  ·rw [ho]at this; exact this
  ·rw [ho]at this; exact this
 ·exact h
theorem y1k {a:dA} (h:yd a=false) (i:Nat):yd (yy a i)=(!(nth a.2.2.1 i yh).2.2.1&& !(opA a).1):=by
 have:=yX1 h
 unfold yy
 cases (nth a.2.2.1 i yh).2.2.1
 ·cases ho:(opA a).1
  ·rw [ho]at this; exact this
  ·rw [ho]at this; exact this
 ·exact h
theorem yDm {one:dA→Nat→dA} (hs: ∀ a i,yd a=true→one a i=a): ∀ (k i:Nat) (s:dA),goE (fun i s=>bif yd (one s i) then (.inr (one s i):dA ⊕ dA) else .inl (one s i)) id k i s=(List.range' i k).foldl one s
 | 0,_,_=>rfl
 | k+1,i,s=>by
  rw [List.range'_succ,List.foldl_cons,goE]
  cases hd:yd (one s i)
  ·exact yDm hs k (i+1) (one s i)
  ·exact (yKz hs _ _ hd).symm
theorem y1h {a:dA} {m n:Int} {s:List Int} (h:yaa a.2.2.1) (hm:inb m a.2.2.1.length=true):yaa (yeF a m n s).2.2.1:=by
 unfold yeF
 cases (nth a.2.2.1 m yh).2.2.1
 ·cases (opA a).1
  ·show yaa (opA a).2.2.2.1; rw [yao]; exact h
  ·show yaa ((opA a).2.2.2.1.set m.toNat _); rw [yao]; exact yUF h (y1m _ _ (yYm h hm))
 ·exact h
theorem y1l {a:dA} {i:Nat} (h:yaa a.2.2.1) (hi:i < a.2.2.1.length):yaa (yy a i).2.2.1:=by
 unfold yy
 cases (nth a.2.2.1 i yh).2.2.1
 ·cases (opA a).1
  ·show yaa (opA a).2.2.2.1; rw [yao]; exact h
  ·show yaa ((opA a).2.2.2.1.set _ _); rw [yao]; exact yUF h (y0X (yYm h (zkO hi)))
 ·exact h
theorem yKy {one:dA→Nat→dA} (hl: ∀ a i,(one a i).2.2.1.length=a.2.2.1.length) (ho: ∀ a i,yaa a.2.2.1→i < a.2.2.1.length→yaa (one a i).2.2.1): ∀ (n:Nat) (a:dA),n≤a.2.2.1.length→yaa a.2.2.1→yaa ((List.range n).foldl one a).2.2.1
 | 0,_,_,h=>h
 | n+1,a,hn,h=>by
  rw [List.range_succ,List.foldl_append]
  exact ho _ _ (yKy hl ho n a (by omega) h) (by rw [ypO hl]; exact hn)
theorem yFH {a:dA} (h:yaa a.2.2.1):yaa (yw a).2.2.1:=yKy ysd (fun _ _=>y1l) _ a (Nat.le_refl _) h
theorem yLa {a:dA} (h:yaa a.2.2.1):yaa (yfX a).2.2.1 :=
 yFH (yKy (one:=yaF) (fun _ _=>yxg _ _ _ _) (fun _ _ h hi=>y1h h (zkO hi)) _ (ylX a) (Nat.le_refl _) h)
theorem yPT (a:dA):(yfX a).2.2.1.length=a.2.2.1.length:=(yDV _).trans (ypO (one:=yaF) (fun _ _=>yxg _ _ _ _) _ (ylX a))
theorem yHM (a:dA):(opA a).2.2.2.2.2.2.2.2.2.1=a.2.2.2.2.2.2.2.2.1:=by
 unfold opA
 cases yd a
 ·cases (a.2.2.2.2.2.2.2.2.2.1==0)
  ·cases ltb 0 a.2.2.2.2.2.2.2.2.2.1<;>rfl
  ·rfl
 ·rfl
theorem yYo (a:dA) (m n:Int) (s:List Int):(yeF a m n s).2.2.2.2.2.2.2.2.1=a.2.2.2.2.2.2.2.2.1:=by
 unfold yeF
 cases (nth a.2.2.1 m yh).2.2.1
 ·cases (opA a).1
  ·exact yHM a
  ·exact yHM a
 ·rfl
theorem y0g (a:dA) (i:Nat):(yy a i).2.2.2.2.2.2.2.2.1=a.2.2.2.2.2.2.2.2.1:=by
 unfold yy
 cases (nth a.2.2.1 i yh).2.2.1
 ·cases (opA a).1
  ·exact yHM a
  ·exact yHM a
 ·rfl
theorem yHs {one:dA→Nat→dA} (h: ∀ a i,(one a i).2.2.2.2.2.2.2.2.1=a.2.2.2.2.2.2.2.2.1): ∀ (l:List Nat) (a:dA),(l.foldl one a).2.2.2.2.2.2.2.2.1=a.2.2.2.2.2.2.2.2.1
 | [],_=>rfl
 | x::l,a=>by rw [List.foldl_cons,yHs h l,h]
theorem yBF (a:dA):(yw a).2.2.2.2.2.2.2.2.1=a.2.2.2.2.2.2.2.2.1:=yHs y0g _ _
theorem yHC (a:dA):(yfX a).2.2.2.2.2.2.2.2.1=a.2.2.2.2.2.2.2.2.1:=(yBF _).trans (yHs (one:=yaF) (fun _ _=>yYo _ _ _ _) _ (ylX a))
theorem yYa {a x:dA} (ha:ydG a≤2097152) (hl:x.2.2.1.length≤5) (hm:yaa x.2.2.1) (hd:x.2.2.2.2.2.2.2.2.1=a.2.2.2.2.2.2.2.2.1):ydG x≤2105000:=by
 have:=yLG hm
 have:x.2.2.1.length * 1041≤5 * 1041:=Nat.mul_le_mul_right _ hl
 unfold ydG at ha ⊢
 rw [hd]
 omega
theorem yOR {a:dA} (h:yB a=true):a.2.2.1.length≤5:=by
 have h1:=ym.1 (yew h)
 have h2:=yKp h
 omega
def ynf (a:dA):dA:=(a.1,a.2.1,a.2.2.1,a.2.2.2.1,a.2.2.2.2.1,a.2.2.2.2.2.1,a.2.2.2.2.2.1,a.2.2.2.2.2.2.2)
def yu (a:dA):dA:=bif yd (yw a) then yw a else yfX (ynf (yw a))
theorem ySn {a:dA} (h:yaa a.2.2.1):yaa (yu a).2.2.1:=by
 unfold yu
 cases yd (yw a)
 ·exact yLa (a:=ynf (yw a)) (yFH h)
 ·exact yFH h
theorem yua (a:dA):(yu a).2.2.1.length=a.2.2.1.length:=by
 unfold yu
 cases yd (yw a)
 ·exact (yPT (ynf (yw a))).trans (yDV a)
 ·exact yDV a
theorem yxN (a:dA):(yu a).2.2.2.2.2.2.2.2.1=a.2.2.2.2.2.2.2.2.1:=by
 unfold yu
 cases yd (yw a)
 ·exact (yHC (ynf (yw a))).trans (yBF a)
 ·exact yBF a
def yts (b:dA):dA:=(b.1,b.2.1,b.2.2.1,-1,0,b.2.2.2.2.2)
def yCd (a:dA):dA×Int:=bif yd (yu a) then (yu a,6) else (yfX (yts (yu a)),bif yd (yfX (yts (yu a))) then 6 else 0)
def ySk (a:dA):dA×Int :=
 bif !(yB a) then (a,1) else bif yd a then (a,6) else bif a.2.2.2.1== -1||((nth a.2.2.1 a.2.2.2.1 yh).2.2.1||ltb a.2.2.2.2.1 a.2.1.2) then (a,2) else bif a.2.2.2.2.2.2.2.2.2.2.2 then (a,5) else bif leb 59990 a.2.2.2.2.2.2.2.1 then (a,7) else yCd a
theorem y3E {a:dA} (ha:ydG a≤2097152):ydG (ySk a).1≤2105000:=by
 have h0:ydG a≤2105000:=by omega
 unfold ySk
 cases hk:yB a
 ·exact h0
 have h5:=yOR hk
 have hc:=ySn (yHq hk)
 have hn:=yYa (x:=yfX (yts (yu a))) ha (by rw [yPT,show (yts (yu a)).2.2.1=(yu a).2.2.1 from rfl,yua]; exact h5) (yLa (a:=yts (yu a)) hc) ((yHC _).trans (yxN a))
 have hn2:=yYa (x:=yu a) ha (by rw [yua]; exact h5) hc (yxN a)
 cases yd a
 ·cases (a.2.2.2.1== -1||((nth a.2.2.1 a.2.2.2.1 yh).2.2.1||ltb a.2.2.2.2.1 a.2.1.2))
  ·cases a.2.2.2.2.2.2.2.2.2.2.2
   ·cases leb 59990 a.2.2.2.2.2.2.2.1
    ·show ydG (yCd a).1≤_
     unfold yCd
     cases yd (yu a)
     ·exact hn
     ·exact hn2
    ·exact h0
   ·exact h0
  ·exact h0
 ·exact h0
def y9 (a:dA):Int×(Int×Int)×Int×Int×Int×Int×Int×List dW×Bool:=(a.1,a.2.1,a.2.2.2.1,a.2.2.2.2.1,a.2.2.2.2.2.1,a.2.2.2.2.2.2.1,a.2.2.2.2.2.2.2.1,a.2.2.2.2.2.2.2.2.1,a.2.2.2.2.2.2.2.2.2.2.2)
theorem yHi (a:dA):y9 (opA a).2=y9 a:=by
 unfold opA
 cases yd a
 ·cases (a.2.2.2.2.2.2.2.2.2.1==0)
  ·cases ltb 0 a.2.2.2.2.2.2.2.2.2.1<;>rfl
  ·rfl
 ·rfl
theorem yRm (a:dA) (m n:Int) (s:List Int):y9 (yeF a m n s)=y9 a:=by
 unfold yeF
 cases (nth a.2.2.1 m yh).2.2.1
 ·cases (opA a).1
  ·exact yHi a
  ·exact yHi a
 ·rfl
theorem y1j (a:dA) (i:Nat):y9 (yy a i)=y9 a:=by
 unfold yy
 cases (nth a.2.2.1 i yh).2.2.1
 ·cases (opA a).1
  ·exact yHi a
  ·exact yHi a
 ·rfl
theorem yyH {one:dA→Nat→dA} (h: ∀ a i,y9 (one a i)=y9 a): ∀ (l:List Nat) (a:dA),y9 (l.foldl one a)=y9 a
 | [],_=>rfl
 | x::l,a=>by rw [List.foldl_cons,yyH h l,h]
theorem yFG (a:dA):y9 (yw a)=y9 a:=yyH y1j _ _
theorem y2h (a:dA):y9 (yfX a)=y9 (ylX a):=(yFG _).trans (yyH (one:=yaF) (fun _ _=>yRm _ _ _ _) _ _)
theorem yw9 {a b:dA} (h:y9 a=y9 b):a.2.1=b.2.1:=congrArg (fun x=>x.2.1) h
theorem y3H {a b:dA} (h:y9 a=y9 b):a.2.2.2.2.1=b.2.2.2.2.1:=congrArg (fun x=>x.2.2.2.1) h
theorem ySo {a b:dA} (h:y9 a=y9 b):a.2.2.2.2.2.2.2.2.1=b.2.2.2.2.2.2.2.2.1:=congrArg (fun x=>x.2.2.2.2.2.2.2.1) h
def ydF (d:List dW) (x:dA):Prop:=x.2.2.1.length≤5∧yaa x.2.2.1∧x.2.2.2.2.2.2.2.2.1=d
theorem y4c {a:dA} (h:yB a=true):ydF a.2.2.2.2.2.2.2.2.1 a:=⟨yOR h,yHq h,rfl⟩
theorem y05 {d:List dW} {a:dA} {m n:Int} {s:List Int} (h:ydF d a) (hm:inb m a.2.2.1.length=true):ydF d (yeF a m n s):=⟨by rw [yxg]; exact h.1,y1h h.2.1 hm,(yYo _ _ _ _).trans h.2.2⟩
theorem y2p {d:List dW} {a:dA} (h:ydF d a):ydF d (yw a):=⟨by rw [yDV]; exact h.1,yFH h.2.1,(yBF _).trans h.2.2⟩
theorem y2o {d:List dW} {a:dA} (h:ydF d a):ydF d (yfX a):=⟨by rw [yPT]; exact h.1,yLa h.2.1,(yHC _).trans h.2.2⟩
theorem yHG {d:List dW} {a:dA} (h:ydF d a):ydF d (yu a):=⟨by rw [yua]; exact h.1,ySn h.2.1,(yxN _).trans h.2.2⟩
theorem yTD {d:List dW} {x:dA} (h:ydF d x):ydG x≤ybP d+5205:=by
 have:=yLG h.2.1
 have:x.2.2.1.length * 1041≤5 * 1041:=Nat.mul_le_mul_right _ h.1
 unfold ydG
 rw [h.2.2]
 omega
theorem y35 {a x:dA} (ha:ydG a≤2097152) (h:ydF a.2.2.2.2.2.2.2.2.1 x):ydG x≤2105000:=by
 have:=yTD h
 unfold ydG at ha
 omega
theorem y3K {d:List dW} {a:dA} (h:ydF d a):ydF d (ySk a).1:=by
 have hn:ydF d (yfX (yts (yu a))):=y2o (a:=yts (yu a)) (yHG h)
 unfold ySk
 cases yB a
 ·exact h
 cases yd a
 ·cases (a.2.2.2.1== -1||((nth a.2.2.1 a.2.2.2.1 yh).2.2.1||ltb a.2.2.2.2.1 a.2.1.2))
  ·cases a.2.2.2.2.2.2.2.2.2.2.2
   ·cases leb 59990 a.2.2.2.2.2.2.2.1
    ·show ydF d (yCd a).1
     unfold yCd
     cases yd (yu a)
     ·exact hn
     ·exact yHG h
    ·exact h
   ·exact h
  ·exact h
 ·exact h
def yLb (lost:Int) (br:Bool) (S:Int) (i:Nat) (m:dM):Prop:=yr m=true∧(m.1.length:Int)=6+S∧(m.2.2.1=true→(i:Int)=lost∨br=true)
def yTA (lost:Int) (br:Bool) (S:Int) (l:List dM):Prop:= ∀ i,i < l.length→yLb lost br S i (nth l i yh)
theorem y2j {lost S:Int} {br:Bool} {l:List dM} {i:Nat} {x:dM} (h:yTA lost br S l) (hx:i < l.length→yLb lost br S i x):yTA lost br S (l.set i x):=fun j hj=>by
 rw [List.length_set]at hj
 by_cases e:j=i
 ·subst e
  rw [zjW,zcq (by rw [List.length_set]; exact hj),List.getElem_set_self]; exact hx hj
 ·have:=h j hj
  rw [zjW,zcq hj]at this
  rw [zjW,zcq (by rw [List.length_set]; exact hj),List.getElem_set_ne (fun e'=>e e'.symm)]; exact this
theorem y1V {a:dA}:ym0 a=true↔yTA a.2.2.2.1 a.2.2.2.2.2.2.2.2.2.2.2 a.2.1.2 a.2.2.1∧(a.2.2.1.length:Int)=a.2.1.1:=by
 constructor
 ·intro h
  refine ⟨fun i hi=>yYk h hi,?_⟩
  simp only [ym0,Bool.and_eq_true,beq_iff_eq]at h; exact h.2
 ·rintro ⟨h1,h2⟩
  simp only [ym0,Bool.and_eq_true,beq_iff_eq,Bool.not_eq_true',List.any_eq_false,List.mem_range]
  refine ⟨fun i hi=> ?_,h2⟩
  obtain ⟨g1,g2,g3⟩:=h1 i hi
  unfold ygK
  rw [g1,show (((nth a.2.2.1 i yh).1.length:Int) !=6+a.2.1.2)=false from bne_eq_false_iff_eq.2 g2]
  cases hf:(nth a.2.2.1 i yh).2.2.1
  ·simp
  ·rcases g3 hf with e | e
   ·rw [show ((i:Int) !=a.2.2.2.1)=false from bne_eq_false_iff_eq.2 e]; simp
   ·rw [e]; simp
def fuz (a:dA):Int:=a.2.2.2.2.2.2.2.2.2.1
def ykJ (a:dA):Prop:=(yTA a.2.2.2.1 a.2.2.2.2.2.2.2.2.2.2.2 a.2.1.2 a.2.2.1∧(a.2.2.1.length:Int)=a.2.1.1)∧ -1≤fuz a∧fuz a≤1000
def yGX (a:dA):Prop:=yf a.2.1=true∧(1≤a.1∧a.1≤60000)∧yaE a.2.1 a.2.2.2.2.2.2.2.2.1=true∧(-1≤a.2.2.2.1∧a.2.2.2.1≤a.2.1.1 - 1)∧(0≤a.2.2.2.2.1∧a.2.2.2.2.1≤a.2.1.2)∧(a.2.2.2.1= -1→a.2.2.2.2.1=0) ∧
 (0≤a.2.2.2.2.2.2.1∧a.2.2.2.2.2.2.1≤60000)∧(a.2.2.2.2.2.2.1≤a.2.2.2.2.2.1∧a.2.2.2.2.2.1≤60000)∧a.2.2.2.2.2.1≤a.2.2.2.2.2.2.1+4∧0≤a.2.2.2.2.2.2.2.1∧a.2.2.2.2.2.2.2.1≤60000
theorem y21 {a:dA}:yB a=true↔yGX a∧ykJ a:=by
 unfold yB yGX ykJ fuz
 simp only [Bool.and_eq_true,zjQ,y1V,Bool.not_eq_true',Bool.and_eq_false_iff,beq_eq_false_iff_ne,bne_eq_false_iff_eq]
 constructor
 ·rintro ⟨h1,h2,h3,h4,h5,h6,h7,h8,h9,h10,h11,h12⟩
  exact ⟨⟨h1,h2,h4,h5,h6,fun e=>h7.resolve_left (fun g=>g e),h8,h9,h10,h11.1,h11.2⟩,h3,h12⟩
 ·rintro ⟨⟨h1,h2,h4,h5,h6,h7,h8,h9,h10,h11,h11'⟩,h3,h12⟩
  exact ⟨h1,h2,h3,h4,h5,h6,(Decidable.em (a.2.2.2.1= -1)).elim (fun e=> .inr (h7 e)) (fun e=> .inl e),h8,h9,h10,⟨h11,h11'⟩,h12⟩
theorem y4j {a b:dA} (h:y9 b=y9 a) (ha:yGX a):yGX b:=by
 unfold y9 at h
 simp only [Prod.mk.injEq]at h
 obtain ⟨h1,h2,h3,h4,h5,h6,h7,h8,h9⟩:=h
 unfold yGX at *
 rw [h1,h2,h3,h4,h5,h6,h7,h8]; exact ha
theorem y3f {a b:dA} (h:y9 b=y9 a) (hl:b.2.2.1.length=a.2.2.1.length) (hm:yTA a.2.2.2.1 a.2.2.2.2.2.2.2.2.2.2.2 a.2.1.2 b.2.2.1) (hn:(a.2.2.1.length:Int)=a.2.1.1) (hf: -1≤fuz b∧fuz b≤1000):ykJ b:=by
 unfold y9 at h
 simp only [Prod.mk.injEq]at h
 obtain ⟨h1,h2,h3,h4,h5,h6,h7,h8,h9⟩:=h
 unfold ykJ
 rw [h2,h3,h9,hl]; exact ⟨⟨hm,hn⟩,hf⟩
theorem y3v {a:dA} (h: -1≤fuz a∧fuz a≤1000): -1≤fuz (opA a).2∧fuz (opA a).2≤1000:=by
 unfold opA
 cases yd a
 ·cases h0:(a.2.2.2.2.2.2.2.2.2.1==0)
  ·cases h1:ltb 0 a.2.2.2.2.2.2.2.2.2.1
   ·exact h
   ·have:=zjT.1 h1
    unfold fuz at h
    show -1≤IntKind.i64.wrap (a.2.2.2.2.2.2.2.2.2.1 - 1)∧IntKind.i64.wrap (a.2.2.2.2.2.2.2.2.2.1 - 1)≤1000
    rw [wr (by omega) (by omega)]; omega
  ·show -1≤(-1:Int)∧(-1:Int)≤1000; omega
 ·exact h
theorem yL5 {a:dA} (h:ykJ a):ykJ (opA a).2:=y3f (yHi a) (by rw [yao]) (by rw [yao]; exact h.1.1) h.1.2 (y3v h.2)
theorem yOm {a:dA} {m:Int} {x:dM} (h:ykJ a) (hm:inb m a.2.2.1.length=true) (hx:yLb a.2.2.2.1 a.2.2.2.2.2.2.2.2.2.2.2 a.2.1.2 m.toNat (nth a.2.2.1 m yh)→yLb a.2.2.2.1 a.2.2.2.2.2.2.2.2.2.2.2 a.2.1.2 m.toNat x):ykJ (yy6 a m x):=by
 have hm:=zjP.1 hm
 refine ⟨⟨y2j h.1.1 (fun hi=>hx ?_),by show ((a.2.2.1.set m.toNat x).length:Int)=_; rw [List.length_set]; exact h.1.2⟩,h.2⟩
 have:=h.1.1 m.toNat hi
 rwa [Int.toNat_of_nonneg hm.1]at this
theorem y1U {lost S:Int} {br:Bool} {i:Nat} {m:dM} (n:Int) (s:List Int) (h:yLb lost br S i m):yLb lost br S i (ygX m n s).1 :=
 ⟨y1m n s h.1,by rw [(yYr m n s).1]; exact h.2.1,by rw [(yYr m n s).2]; exact h.2.2⟩
theorem y1T {lost S:Int} {br:Bool} {i:Nat} {m:dM} (h:yLb lost br S i m):yLb lost br S i (yfc m) :=
 ⟨y0X h.1,by rw [(yYf m).1]; exact h.2.1,by rw [(yYf m).2]; exact h.2.2⟩
theorem y2J {a:dA} {m n:Int} {s:List Int} (h:ykJ a) (hm:inb m a.2.2.1.length=true):ykJ (yeF a m n s):=by
 unfold yeF
 cases (nth a.2.2.1 m yh).2.2.1
 ·cases (opA a).1
  ·exact yL5 h
  ·exact yOm (yL5 h) (by rw [yao]; exact hm) (fun g=>by rw [yao]at g; exact y1U _ _ g)
 ·exact h
theorem y02 {a:dA} {i:Nat} (h:ykJ a) (hi:i < a.2.2.1.length):ykJ (yy a i):=by
 unfold yy
 cases (nth a.2.2.1 i yh).2.2.1
 ·cases (opA a).1
  ·exact yL5 h
  ·exact yOm (yL5 h) (by rw [yao]; exact zkO hi) (fun g=>by rw [yao]at g; exact y1T g)
 ·exact h
theorem yOZ {P:dA→Prop} {one:dA→Nat→dA} (hl: ∀ a i,(one a i).2.2.1.length=a.2.2.1.length) (ho: ∀ a i,P a→i < a.2.2.1.length→P (one a i)): ∀ (n:Nat) (a:dA),n≤a.2.2.1.length→P a→P ((List.range n).foldl one a)
 | 0,_,_,h=>h
 | n+1,a,hn,h=>by
  rw [List.range_succ,List.foldl_append]
  exact ho _ _ (yOZ hl ho n a (by omega) h) (by rw [ypO hl]; exact hn)
theorem yK8 {a:dA} (h:ykJ a):ykJ (yw a):=yOZ (P:=ykJ) (one:=yy) ysd (fun _ _=>y02) _ a (Nat.le_refl _) h
theorem y2g {a:dA} (h:ykJ a):ykJ (yfX a) :=
 yK8 (yOZ (P:=ykJ) (one:=yaF) (fun _ _=>yxg _ _ _ _) (fun _ _ h hi=>y2J h (zkO hi)) _ (ylX a) (Nat.le_refl _) h)
theorem y3J {a:dA} (h:ykJ a):ykJ (yu a):=by
 unfold yu
 cases yd (yw a)
 ·exact y2g (a:=ynf (yw a)) (yK8 h)
 ·exact yK8 h
end
section
def yzK:Code:=(Tryz.f223.body).getD .skip
def yAa:Env:=zki TT [] []
theorem yHy:FrOk Tryz.prog ⟨yAa,7,fun _=>none⟩ yzK:=zkp yb yc trivial
def yIO:Nat→Option Seg:=fun _=>none
abbrev yfo:List Par:= [.rd tI,.rp tI]
abbrev yjB:List OT:= [⟨false,tB,.fz⟩]
def ynx (a0 a1:Int):Option (ResD yjB×MutD yfo) :=
 some (((a0==a1),()),())
theorem yMy (x:InD yfo):zjH ⟨yAa,7,yIO⟩ Tryz.f223.results.toList yzK yfo yjB x=ynx x.1 x.2.1:=by kernel_rfl
theorem yJj:ConOk Tryz.prog 223 ⟨yfo,yjB,fun x=>ynx x.1 x.2.1⟩:=zkh (yHy) Tryz.func223 (by kernel_rfl) (by kernel_rfl) Tryz.ntmps223.symm (by decide) (fun x r h=>(yMy x).trans h)
def ydf (a0 a1:Int):Bool :=
 (a0==a1)
def ynm:Con:=⟨yfo,yjB,fun x=>(fun n=>some ((n,()),())) (ydf x.1 x.2.1)⟩
theorem yLx (a0 a1:Int):ynx a0 a1=(fun n=>some ((n,()),())) (ydf a0 a1):=zkS (p:=fun (n:Bool)=>((n,()),())) rfl
theorem yy4:ConOk Tryz.prog 223 ynm:=(yJj).mono (fun x r _ h=>(yLx x.1 x.2.1).trans h)
end
section
def ybJ:Code:=(Tryz.f268.body).getD .skip
def yec:Env:=zki TT [(223,ynm)] []
theorem yBx:FrOk Tryz.prog ⟨yec,19,fun _=>none⟩ ybJ:=zkp yb yc ⟨yy4,trivial⟩
def ype:Nat→Option Seg:=fun _=>none
def yA:Shape:=⟨[(0,false,[.br tI]),(1,false,[.fx 223 tI]),(7,false,[.int .i64]),(8,false,[.int .i64])],[],[]⟩
def yay:Shape:=⟨[(0,false,[.br tI]),(1,false,[.fx 223 tI]),(7,false,[.int .i64]),(8,false,[.ci .i64 0])],[],[]⟩
def yaw:Shape:=⟨[],[],[]⟩
def yaA:Shape:=⟨[(4,false,[.int .i64])],[],[]⟩
abbrev yfe (v0:List Int) (v1 v2 v3:Int):(yA).X:=(((v0,()),(v1,()),(v2,()),(v3,()),()),(),())
abbrev yzu (v0:List Int) (v1 v2:Int):(yay).X:=(((v0,()),(v1,()),(v2,()),((),()),()),(),())
abbrev yzs  :(yaw).X:=((),(),())
abbrev ym2 (v0:Int):(yaA).X:=(((v0,()),()),(),())
def yfk (v0:List Int) (v1 v2 v3:Int):Option ((yA).X ⊕ ((yaw).X ⊕ (yaA).X)) :=
 bif (ltb v3 v2) then
 bif (inb v3 v0.length) then
 let r2:=ydf (nth v0 v3 0) v1
 bif r2 then
 some (.inr (.inr (((v3,()),()),(),())))
 else
 some (.inl (((v0,()),(v1,()),(v2,()),((IntKind.i64.wrap (v3+1)),()),()),(),()))
 else none
 else
 some (.inr (.inl ((),(),())))
def yK (x:(yA).X):=yfk x.1.1.1 x.1.2.1.1 x.1.2.2.1.1 x.1.2.2.2.1.1
def ymX (x:(yay).X):(yA).X:=(((x.1.1.1,()),(x.1.2.1.1,()),(x.1.2.2.1.1,()),(0,()),()),(),())
def yox:Code:=(zdI ybJ 64 52).getD .skip
theorem yBt:zdI ybJ 64 13=some (.block 0 (.loop yox)):=by kernel_rfl
theorem yBC (x:(yA).X):zg7 ⟨yec,19,ype⟩ 0 yox 52 yA yaw yaA x=yK x:=by kernel_rfl
def ymZ (x:(yay).X):Nat:=18446744073709551616
def yfW (x:(yay).X):Option ((yaw).X ⊕ (yaA).X):=zr yK (ymZ x) (ymX x)
def ynd:Seg:=⟨yay,yaw,yaA,yfW⟩
def ypf:Nat→Option Seg:=fun q=>bif Nat.beq q 13 then some ynd else ype q
theorem yBy:FrOk Tryz.prog ⟨yec,19,ypf⟩ ybJ:=(yBx).loop (sg:=ynd) yA ymX (by decide) yBt yK ymZ (by decide) (fun _=>rfl) (fun x r _ h=>h) yBC
abbrev yam:List Par:= [.rd tL,.fn 223 tI]
abbrev yee:List OT:= [⟨false,tI,.fz⟩]
def yc5 (a0:List Int) (a1:Int):Option (ResD yee×MutD yam) :=
 zjw (yfW (((a0,()),(a1,()),((a0.length:Int),()),((),()),()),(),())) (fun y2 =>
 some (((-1),()),())) (fun y2 =>
 some ((y2.1.1.1,()),()))
theorem yFK (x:InD yam):zjH ⟨yec,19,ypf⟩ Tryz.f268.results.toList ybJ yam yee x=yc5 x.1 x.2.1:=by kernel_rfl
theorem yDy:ConOk Tryz.prog 268 ⟨yam,yee,fun x=>yc5 x.1 x.2.1⟩:=zkh (yBy) Tryz.func268 (by kernel_rfl) (by kernel_rfl) Tryz.ntmps268.symm (by decide) (fun x r h=>(yFK x).trans h)
def ybL (a0:List Int) (a1:Int):Int:=yC (fun e:Int=>e==a1) a0
theorem yDZ (a0:List Int) (a1:Int) (hk:zi9 yam (a0,a1,())):yc5 a0 a1=(fun n=>some ((n,()),())) (ybL a0 a1):=by
 have hb:a0.length * 8≤2 ^ 47:=hk.1.1
 have h1:yfW (yzu a0 a1 a0.length)=some (bif leb 0 (yC (fun e:Int=>e==a1) a0) then .inr (ym2 (yC (fun e:Int=>e==a1) a0)) else .inl yzs) :=
  yK9 (step:=yK) a0 0 (fun i=>yfe a0 a1 a0.length i) (fun e:Int=>e==a1) (fun i=> .inr (ym2 i)) _ (fun i hi=>by
   simp only [yK,yfe,yfk,zjI (show (i:Int) < a0.length by omega),cond_true,wr (show -9223372036854775808≤(i:Int)+1 by omega) (by omega),Int.natCast_add,Int.natCast_one,Int.toNat_natCast,zkO hi,zjW,ydf]
   cases (a0.getD i 0==a1)<;>rfl) (by simp only [yK,yfe,yfk,zkm (Int.le_refl _),cond_false]) _ (by show _ < 18446744073709551616; omega)
 unfold yc5 ybL
 rw [h1]
 cases h:leb 0 (yC (fun e:Int=>e==a1) a0)
 ·rw [yL4 h]; rfl
 ·rfl
def ypN:Con:=⟨yam,yee,fun x=>(fun n=>some ((n,()),())) (ybL x.1 x.2.1)⟩
theorem yD1:ConOk Tryz.prog 268 ypN:=(yDy).mono (fun x r hk h=>(yDZ x.1 x.2.1 hk).trans h)
end
section
def ybb:Code:=(Tryz.f222.body).getD .skip
def ydH:Env:=zki TT [(223,ynm),(268,ypN)] []
theorem yzp:FrOk Tryz.prog ⟨ydH,42,fun _=>none⟩ ybb:=zkp yb yc ⟨yy4,yD1,trivial⟩
def ynL:Nat→Option Seg:=fun _=>none
def yx:Shape:=⟨[(0,false,[.at 800000000]),(1,false,[.fx 223 tI]),(5,false,[.int .i64]),(6,false,[.int .i64])],[],[(800000000,tI,.fz)]⟩
def yah:Shape:=⟨[(0,false,[.at 800000000]),(1,false,[.fx 223 tI]),(5,false,[.int .i64]),(6,false,[.int .i64])],[],[(800000000,tI,.fz)]⟩
def yag:Shape:=⟨[(0,false,[.at 800000000]),(5,false,[.int .i64])],[],[(800000000,tI,.fz)]⟩
def ybO:Shape:=⟨[],[],[]⟩
abbrev ybm (v0 v1 v2:Int) (v3:List Int):(yx).X:=((((),()),(v0,()),(v1,()),(v2,()),()),(),(v3,()))
abbrev yy2 (v0 v1 v2:Int) (v3:List Int):(yah).X:=((((),()),(v0,()),(v1,()),(v2,()),()),(),(v3,()))
abbrev yy0 (v0:Int) (v1:List Int):(yag).X:=((((),()),(v0,()),()),(),(v1,()))
def yeG (v0 v1 v2:Int) (v3:List Int):Option ((yx).X ⊕ ((yag).X ⊕ (ybO).X)) :=
 bif (ltb v2 (v3.length:Int)) then
 bif (inb v2 v3.length) then
 let r3:=ydf (nth v3 v2 0) v0
 bif (!r3) then
 bif (inb v1 v3.length) then
 some (.inl ((((),()),(v0,()),((IntKind.i64.wrap (v1+1)),()),((IntKind.i64.wrap (v2+1)),()),()),(),((v3.set (v1).toNat (nth v3 v2 0)),())))
 else none
 else
 some (.inl ((((),()),(v0,()),(v1,()),((IntKind.i64.wrap (v2+1)),()),()),(),(v3,())))
 else none
 else
 some (.inr (.inl ((((),()),(v1,()),()),(),(v3,()))))
def yG (x:(yx).X):=yeG x.1.2.1.1 x.1.2.2.1.1 x.1.2.2.2.1.1 x.2.2.1
def ylf (x:(yah).X):(yx).X:=((((),()),(x.1.2.1.1,()),(x.1.2.2.1.1,()),(x.1.2.2.2.1.1,()),()),(),(x.2.2.1,()))
def ymV:Code:=(zdI ybb 64 244).getD .skip
theorem yzm:zdI ybb 64 61=some (.block 0 (.loop ymV)):=by kernel_rfl
theorem yzC (x:(yx).X):zg7 ⟨ydH,42,ynL⟩ 0 ymV 244 yx yag ybO x=yG x:=by kernel_rfl
def ylg (x:(yah).X):Nat:=18446744073709551616
def ye8 (x:(yah).X):Option ((yag).X ⊕ (ybO).X):=zr yG (ylg x) (ylf x)
def ylh:Seg:=⟨yah,yag,ybO,ye8⟩
def ynM:Nat→Option Seg:=fun q=>bif Nat.beq q 61 then some ylh else ynL q
theorem yzq:FrOk Tryz.prog ⟨ydH,42,ynM⟩ ybb:=(yzp).loop (sg:=ylh) yx ylf (by decide) yzm yG ylg (by decide) (fun _=>rfl) (fun x r _ h=>h) yzC
abbrev yac:List Par:= [.kp tL (.ow .fz),.fn 223 tI]
abbrev ydI:List OT:= [⟨false,tL,(.ow .fz)⟩]
def ycB (a0:List Int) (a1:Int):Option (ResD ydI×MutD yac) :=
 let r1:=ybL a0 a1
 bif (r1==(-1)) then
 some ((a0,()),())
 else
 zjw (ye8 ((((),()),(a1,()),(r1,()),((IntKind.i64.wrap (r1+1)),()),()),(),(a0,()))) (fun y3 =>
 bif (zjG y3.1.2.1.1 (y3.2.2.1.length:Int) y3.2.2.1.length) then
 bif (zjG 0 y3.1.2.1.1 (y3.2.2.1.take (y3.1.2.1.1).toNat++(List.replicate ((y3.2.2.1.length:Int) - y3.1.2.1.1).toNat (0:Int))++y3.2.2.1.drop ((y3.1.2.1.1).toNat+(List.replicate ((y3.2.2.1.length:Int) - y3.1.2.1.1).toNat (0:Int)).length)).length) then
 some (((((y3.2.2.1.take (y3.1.2.1.1).toNat++(List.replicate ((y3.2.2.1.length:Int) - y3.1.2.1.1).toNat (0:Int))++y3.2.2.1.drop ((y3.1.2.1.1).toNat+(List.replicate ((y3.2.2.1.length:Int) - y3.1.2.1.1).toNat (0:Int)).length)).drop (0:Int).toNat).take (y3.1.2.1.1 - 0).toNat),()),())
 else none
 else none) (fun y3 =>
 none)
theorem yDX (x:InD yac):zjH ⟨ydH,42,ynM⟩ Tryz.f222.results.toList ybb yac ydI x=ycB x.1 x.2.1:=by kernel_rfl
theorem yBA:ConOk Tryz.prog 222 ⟨yac,ydI,fun x=>ycB x.1 x.2.1⟩:=zkh (yzq) Tryz.func222 (by kernel_rfl) (by kernel_rfl) Tryz.ntmps222.symm (by decide) (fun x r h=>(yDX x).trans h)
def ybc (a0:List Int) (a1:Int):List Int:=yX6 a0 a1
theorem yDv (a0:List Int) (a1:Int) (hk:zi9 yac (a0,a1,())):ycB a0 a1=(fun n=>some ((n,()),())) (ybc a0 a1):=by
 have hb:a0.length * 8≤2 ^ 47:=hk.1.1
 have hs:yX6 a0 a1=a0.filter (fun x=> !(x==a1)):=rfl
 unfold ycB ybc ybL
 simp only []
 cases hi:leb 0 (yC (fun e:Int=>e==a1) a0)
 ·rw [yL4 hi,hs,y2H hi]; rfl
 ·obtain ⟨h1,h2⟩:=yxc (d:=(0:Int)) hi
  have h3:=zjP.1 h1
  have h4:=yYi hi
  generalize hk0:yC (fun e:Int=>e==a1) a0=k at *
  obtain ⟨k,rfl⟩: ∃ m:Nat,k=m:=⟨k.toNat,by omega⟩
  rw [Int.toNat_natCast]at h4
  rw [show ((k:Int)== -1)=false from beq_eq_false_iff_ne.2 (by omega),cond_false,wr (show -9223372036854775808≤(k:Int)+1 by omega) (by omega)]
  obtain ⟨b,e,i,s,rfl,q1,q2,q3⟩:=ziU (step:=yG) (fun x=>(a0.length - Int.toNat x.1.2.2.2.1.1))
   (fun x=> ∃ (i j:Nat) (s:List Int),x=ybm a1 i j s∧i < j∧j≤a0.length∧s.length=a0.length∧s.take i=(a0.take j).filter (fun x=> !(x==a1))∧s.drop j=a0.drop j)
   (fun b=> ∃ (i:Nat) (s:List Int),b= .inl (yy0 i s)∧i≤a0.length∧s.length=a0.length∧s.take i=a0.filter (fun x=> !(x==a1)))
   (fun x hx=>by
    obtain ⟨i,j,s,rfl,p1,p2,p3,p4,p5⟩:=hx
    by_cases hj:j < a0.length
    ·left
     have e1:nth s j 0=a0[j]:=by
      rw [zjW,zcq (by omega)]
      have:=List.getElem_drop (xs:=s) (i:=j) (j:=0) (h:=by rw [List.length_drop]; omega)
      have h6:(s.drop j)[0]'(by rw [List.length_drop]; omega)=(a0.drop j)[0]'(by rw [List.length_drop]; omega):=by simp only [p5]
      simpa using h6
     have e2:a0.take (j+1)=a0.take j++ [a0[j]]:=(List.take_append_getElem hj).symm
     simp only [yG,ybm,yeG,p3,zjI (show (j:Int) < a0.length by omega),zkO hj,zkO (show i < a0.length by omega),e1,ydf,wr (show -9223372036854775808≤(j:Int)+1 by omega) (by omega),wr (show -9223372036854775808≤(i:Int)+1 by omega) (by omega),cond_true,Int.toNat_natCast]
     cases hx:(a0[j]==a1)
     ·refine ⟨_,rfl,⟨i+1,j+1,s.set i a0[j],rfl,by omega,by omega,by rw [List.length_set,p3],?_,?_⟩,by show a0.length - ((j:Int)+1).toNat < a0.length - ((j:Int)).toNat; omega⟩
      ·rw [List.take_set,← List.take_append_getElem (show i < s.length by omega),List.set_append_right _ _ (by rw [List.length_take]; omega),p4,e2,List.filter_append,List.filter_cons,hx]
       have:i - (List.filter (fun x=> !x==a1) (a0.take j)).length=0:=by rw [← p4,List.length_take]; omega
       rw [this]; rfl
      ·rw [List.drop_set_of_lt (by omega),← List.drop_drop,p5,List.drop_drop]
     ·refine ⟨_,rfl,⟨i,j+1,s,rfl,by omega,by omega,p3,?_,?_⟩,by show a0.length - ((j:Int)+1).toNat < a0.length - ((j:Int)).toNat; omega⟩
      ·rw [p4,e2,List.filter_append,List.filter_cons,hx]; simp
      ·rw [← List.drop_drop,p5,List.drop_drop]
    ·right
     have:j=a0.length:=by omega
     subst this
     rw [List.take_length]at p4
     refine ⟨_,?_,i,s,rfl,by omega,p3,p4⟩
     simp only [yG,ybm,yeG,p3,zkm (Int.le_refl _),cond_false]) 18446744073709551616 (ybm a1 k (k+1:Nat) a0) ⟨k,k+1,a0,rfl,by omega,by omega,rfl,h4.symm,rfl⟩ (by show a0.length - ((k+1:Nat):Int).toNat < 18446744073709551616; omega)
  rw [show ((k+1:Nat):Int)=(k:Int)+1 by omega]at e
  rw [show ye8 (yy2 a1 k ((k:Int)+1) a0)=_ from e]
  rw [hs,← q3]
  have hL:(s.take i++List.replicate ((s.length:Int) - i).toNat (0:Int)++s.drop ((i:Int).toNat+(List.replicate ((s.length:Int) - i).toNat (0:Int)).length)).length=s.length:=by
   simp only [List.length_append,List.length_take,List.length_replicate,List.length_drop]; omega
  show (bif zjG i s.length s.length then bif zjG 0 i (s.take i++List.replicate ((s.length:Int) - i).toNat (0:Int)++s.drop ((i:Int).toNat+(List.replicate ((s.length:Int) - i).toNat (0:Int)).length)).length then some ((((s.take i++List.replicate ((s.length:Int) - i).toNat (0:Int)++s.drop ((i:Int).toNat+(List.replicate ((s.length:Int) - i).toNat (0:Int)).length)).drop 0).take ((i:Int) - 0).toNat,()),()) else none else none)=some ((s.take i,()),())
  rw [hL,zko.2 (show 0≤(i:Int)∧(i:Int)≤s.length∧(s.length:Int)≤s.length by omega),zko.2 (show (0:Int)≤0∧(0:Int)≤i∧(i:Int)≤s.length by omega),List.drop_zero,show ((i:Int) - 0).toNat=i by omega,List.append_assoc,List.take_append_of_le_length (by rw [List.length_take]; omega),List.take_take,Nat.min_self]; rfl
def yoy:Con:=⟨yac,ydI,fun x=>(fun n=>some ((n,()),())) (ybc x.1 x.2.1)⟩
theorem yDA:ConOk Tryz.prog 222 yoy:=(yBA).mono (fun x r hk h=>(yDv x.1 x.2.1 hk).trans h)
end
section
def yD4:Code:=(Tryz.f129.body).getD .skip
def yEI:Env:=zki TT [(133,yqO),(200,yde),(219,ylV),(220,yvo),(221,yw6),(222,yoy)] []
theorem yKJ:FrOk Tryz.prog ⟨yEI,51,fun _=>none⟩ yD4:=zkp yb yc ⟨yzx,ygU,yvP,yHd,yIJ,yDA,trivial⟩
def yL8:Nat→Option Seg:=fun _=>none
abbrev yeK:List Par:= [.rd tM,.rd tI,.rd tL]
abbrev yn8:List OT:= [⟨false,tM,(.pr (.ow (.ow .fz)) (.pr (.ow (.pr .fz (.ow .fz))) (.pr .fz (.ow .fz))))⟩,⟨false,tB,.fz⟩]
def yjX (a0:dM) (a1:Int) (a2:List Int):Option (ResD yn8×MutD yeK) :=
 let r1:=yaY a0
 let r2:=ycZ a0
 bif (!(!r2)) then
 bif (!a0.2.2.1) then
 let r3:=ydA a0 a1
 bif (!(!r3)) then
 let r4:=ygN a2
 bif (!(!r4)) then
 bif ((a0.2.1.length:Int)==60) then
 some ((r1,false,()),())
 else
 let r5:=yi a2
 bif (zj4 r1.2.1.length ([(a1,r5)]:List dW).length 32) then
 let r6:=ybc r1.2.2.2 a1
 some (((r1.1,(r1.2.1++([(a1,r5)]:List dW)),r1.2.2.1,r6),true,()),())
 else none
 else
 some ((r1,false,()),())
 else
 some ((r1,false,()),())
 else
 some ((r1,false,()),())
 else
 some ((r1,false,()),())
theorem ySu (x:InD yeK):zjH ⟨yEI,51,yL8⟩ Tryz.f129.results.toList yD4 yeK yn8 x=yjX x.1 x.2.1 x.2.2.1:=by kernel_rfl
theorem yNz:ConOk Tryz.prog 129 ⟨yeK,yn8,fun x=>yjX x.1 x.2.1 x.2.2.1⟩:=zkh (yKJ) Tryz.func129 (by kernel_rfl) (by kernel_rfl) Tryz.ntmps129.symm (by decide) (fun x r h=>(ySu x).trans h)
def yi5 (a0:dM) (a1:Int) (a2:List Int):dM×Bool:=ygX a0 a1 a2
theorem yQs (a0:dM) (a1:Int) (a2:List Int) (hk:zi9 yeK (a0,a1,a2,())):yjX a0 a1 a2=(fun n=>some ((n.1,n.2,()),())) (yi5 a0 a1 a2):=by
 have hb1:a0.1.length * 24≤2 ^ 47:=hk.1.1.1
 unfold yjX yi5 ygX yw4
 simp only [yaY,ycZ,ydA,yaB,yvF (show a0.1.length≤1152921504606846976 by omega),yFL,yi,ybc]
 cases hm:yr a0
 ·rfl
 have hc:=(yf3 hm).2.2.2.2.2
 cases a0.2.2.1
 ·cases inb a1 a0.1.length
  ·rfl
  cases ybp a2
  ·rfl
  by_cases h:(a0.2.1.length:Int) < 60
  ·rw [zjI h,show ((a0.2.1.length:Int)==60)=false from beq_eq_false_iff_ne.2 (by omega),zkw.2 (show (a0.2.1.length+ [(a1,a2)].length) * 32≤140737488355328 by simp only [List.length_cons,List.length_nil]; omega)]; rfl
  ·rw [zkm (by omega),show ((a0.2.1.length:Int)==60)=true from beq_iff_eq.2 (by omega)]; rfl
 ·rfl
def yAu:Con:=⟨yeK,yn8,fun x=>(fun n=>some ((n.1,n.2,()),())) (yi5 x.1 x.2.1 x.2.2.1)⟩
theorem yQ9:ConOk Tryz.prog 129 yAu:=(yNz).mono (fun x r hk h=>(yQs x.1 x.2.1 x.2.2.1 hk).trans h)
end
section
def yHS:Code:=(Tryz.f205.body).getD .skip
def yIh:Env:=zki TT [] []
theorem yO0:FrOk Tryz.prog ⟨yIh,26,fun _=>none⟩ yHS:=zkp yb yc trivial
def yRH:Nat→Option Seg:=fun _=>none
abbrev ymC:List Par:= [.pt tA (.pr .fz (.pr (.pr .fz .fz) (.pr (.ow (.pr (.ow (.ow .fz)) (.pr (.ow (.pr .fz (.ow .fz))) (.pr .fz (.ow .fz))))) (.pr .fz (.pr .fz (.pr .fz (.pr .fz (.pr .fz (.pr (.ow (.pr .fz (.ow .fz))) (.pr .fz (.pr .fz .fz)))))))))))]
abbrev ysr:List OT:= [⟨false,tB,.fz⟩]
def yvU (a0:dA):Option (ResD ysr×MutD ymC) :=
 bif (a0.2.2.2.2.2.2.2.2.2.1==0) then
 some ((false,()),((a0.1,a0.2.1,a0.2.2.1,a0.2.2.2.1,a0.2.2.2.2.1,a0.2.2.2.2.2.1,a0.2.2.2.2.2.2.1,a0.2.2.2.2.2.2.2.1,a0.2.2.2.2.2.2.2.2.1,(-1),true,a0.2.2.2.2.2.2.2.2.2.2.2),()))
 else
 bif (ltb 0 a0.2.2.2.2.2.2.2.2.2.1) then
 some ((true,()),((a0.1,a0.2.1,a0.2.2.1,a0.2.2.2.1,a0.2.2.2.2.1,a0.2.2.2.2.2.1,a0.2.2.2.2.2.2.1,a0.2.2.2.2.2.2.2.1,a0.2.2.2.2.2.2.2.2.1,(IntKind.i64.wrap (a0.2.2.2.2.2.2.2.2.2.1 - 1)),a0.2.2.2.2.2.2.2.2.2.2),()))
 else
 some ((true,()),(a0,()))
theorem yYx (x:InD ymC):zjH ⟨yIh,26,yRH⟩ Tryz.f205.results.toList yHS ymC ysr x=yvU x.1:=by kernel_rfl
theorem yT3:ConOk Tryz.prog 205 ⟨ymC,ysr,fun x=>yvU x.1⟩:=zkh (yO0) Tryz.func205 (by kernel_rfl) (by kernel_rfl) Tryz.ntmps205.symm (by decide) (fun x r h=>(yYx x).trans h)
def yhD (a0:dA):Bool×dA :=
 bif (a0.2.2.2.2.2.2.2.2.2.1==0) then
 (false,(a0.1,a0.2.1,a0.2.2.1,a0.2.2.2.1,a0.2.2.2.2.1,a0.2.2.2.2.2.1,a0.2.2.2.2.2.2.1,a0.2.2.2.2.2.2.2.1,a0.2.2.2.2.2.2.2.2.1,(-1),true,a0.2.2.2.2.2.2.2.2.2.2.2))
 else
 bif (ltb 0 a0.2.2.2.2.2.2.2.2.2.1) then
 (true,(a0.1,a0.2.1,a0.2.2.1,a0.2.2.2.1,a0.2.2.2.2.1,a0.2.2.2.2.2.1,a0.2.2.2.2.2.2.1,a0.2.2.2.2.2.2.2.1,a0.2.2.2.2.2.2.2.2.1,(IntKind.i64.wrap (a0.2.2.2.2.2.2.2.2.2.1 - 1)),a0.2.2.2.2.2.2.2.2.2.2))
 else
 (true,a0)
def yvk:Con:=⟨ymC,ysr,fun x=>(fun n=>some ((n.1,()),(n.2,()))) (yhD x.1)⟩
theorem yWr (a0:dA):yvU a0=(fun n=>some ((n.1,()),(n.2,()))) (yhD a0):=zkS (p:=fun (n:Bool×dA)=>((n.1,()),(n.2,()))) (zkx (p:=fun (n:Bool×dA)=>((n.1,()),(n.2,()))) rfl (zkx (p:=fun (n:Bool×dA)=>((n.1,()),(n.2,()))) rfl rfl))
theorem yHb:ConOk Tryz.prog 205 yvk:=(yT3).mono (fun x r _ h=>(yWr x.1).trans h)
theorem yTy {a:dA} (h:yd a=false):yhD a=opA a:=by
 unfold yhD opA
 rw [h]
 cases (a.2.2.2.2.2.2.2.2.2.1==0)
 ·cases ltb 0 a.2.2.2.2.2.2.2.2.2.1
  ·rfl
  ·show (true,_)=(true,y0k a _ false)
   unfold y0k
   rw [show a.2.2.2.2.2.2.2.2.2.2=(yd a,a.2.2.2.2.2.2.2.2.2.2.2) from rfl,h]
 ·rfl
end
end
end Go.Tf
