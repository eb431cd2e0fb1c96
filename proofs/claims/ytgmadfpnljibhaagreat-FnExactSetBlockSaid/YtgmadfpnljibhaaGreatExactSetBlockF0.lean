/- Functions of the program, and what they come to. -/
import Derived.Test.YtgmadfpnljibhaaGreatExactSetBlockTt
namespace Go.Tf
noncomputable section
open Go.Proofs
set_option synthInstance.maxHeartbeats 400000
set_option synthInstance.maxSize 10000
set_option linter.unusedVariables false
set_option linter.unusedSimpArgs false
set_option maxRecDepth 100000
section
def yGz:Code:=(Tryz.f135.body).getD .skip
def yGD:Env:=zki TT [] []
theorem yNN:FrOk Tryz.prog ⟨yGD,15,fun _=>none⟩ yGz:=zkp yb yc trivial
def yPJ:Nat→Option Seg:=fun _=>none
abbrev yoj:List Par:= [.rd tI,.rd tI,.rd tI]
abbrev ysK:List OT:= [⟨false,tB,.fz⟩]
def yud (a0 a1 a2:Int):Option (ResD ysK×MutD yoj) :=
 bif (leb a1 a0) then
 some (((leb a0 a2),()),())
 else
 some ((false,()),())
theorem ySg (x:InD yoj):zjH ⟨yGD,15,yPJ⟩ Tryz.f135.results.toList yGz yoj ysK x=yud x.1 x.2.1 x.2.2.1:=by kernel_rfl
theorem yQR:ConOk Tryz.prog 135 ⟨yoj,ysK,fun x=>yud x.1 x.2.1 x.2.2.1⟩:=zkh (yNN) Tryz.func135 (by kernel_rfl) (by kernel_rfl) Tryz.ntmps135.symm (by decide) (fun x r h=>(ySg x).trans h)
def ya (a0 a1 a2:Int):Bool :=
 bif (leb a1 a0) then
 (leb a0 a2)
 else
 false
def yl:Con:=⟨yoj,ysK,fun x=>(fun n=>some ((n,()),())) (ya x.1 x.2.1 x.2.2.1)⟩
theorem yRU (a0 a1 a2:Int):yud a0 a1 a2=(fun n=>some ((n,()),())) (ya a0 a1 a2):=zkS (p:=fun (n:Bool)=>((n,()),())) (zkx (p:=fun (n:Bool)=>((n,()),())) rfl rfl)
theorem yv:ConOk Tryz.prog 135 yl:=(yQR).mono (fun x r _ h=>(yRU x.1 x.2.1 x.2.2.1).trans h)
theorem yxy {a b c:Int}:ya a b c=true↔b≤a∧a≤c:=by
 unfold ya
 cases h:leb b a
 ·have:=mt zk0 (by rw [h]; simp: ¬ leb b a=true)
  simp [this]
 ·simp [zjQ,zjQ.1 h]
theorem yUT {a b c:Int} (h:b≤a) (h2:a≤c):ya a b c=true:=yxy.2 ⟨h,h2⟩
theorem yUS {a b c:Int} (h: ¬ (b≤a∧a≤c)):ya a b c=false:=by
 cases e:ya a b c
 ·rfl
 ·exact absurd (yxy.1 e) h
def yJ {α:Type} (p:α→Bool) (l:List α):Int:=bif l.any p then ((l.takeWhile (fun x=> !p x)).length:Int) else -1
theorem yPy {α:Type} (p:α→Bool):yJ p []= -1:=rfl
theorem yvR {α:Type} (p:α→Bool) (x:α) (l:List α):yJ p (x::l)=bif p x then 0 else bif leb 0 (yJ p l) then yJ p l+1 else -1:=by
 unfold yJ
 rw [List.any_cons,List.takeWhile_cons]
 cases p x
 ·cases l.any p
  ·rfl
  ·simp only [Bool.false_or,Bool.not_false,if_true,cond_true,cond_false,List.length_cons]
   rw [zk0 (show (0:Int)≤((l.takeWhile (fun x=> !p x)).length:Int) by omega),cond_true]; omega
 ·simp
theorem yBi {α:Type} {p:α→Bool} {d:α}: ∀ {l:List α},leb 0 (yJ p l)=true→inb (yJ p l) l.length=true∧p (nth l (yJ p l) d)=true
 | [],h=>by rw [yPy]at h; cases h
 | x::l,h=>by
  rw [yvR]at h ⊢
  cases hx:p x
  ·rw [hx]at h
   cases hl:leb 0 (yJ p l)
   ·rw [hl]at h; cases h
   ·obtain ⟨h1,h2⟩:=yBi (d:=d) hl
    have h3:=zjP.1 h1
    have h4:=zjQ.1 hl
    simp only [cond_false,cond_true,List.length_cons]
    refine ⟨zjP.2 (by omega),?_⟩
    unfold nth at h2 ⊢
    rw [show (yJ p l+1).toNat=(yJ p l).toNat+1 by omega,List.getD_cons_succ]
    exact h2
  ·simp only [cond_true,List.length_cons]
   refine ⟨zjP.2 (by omega),?_⟩
   exact hx
theorem yDW {A B α:Type} {step:A→Option (A ⊕ B)} (l:List α) (d:α) (f:Nat→A) (p:α→Bool) (b:Int→B) (c:B)
  (h: ∀ i,i < l.length→step (f i)=some (bif p (l.getD i d) then .inr (b i) else .inl (f (i+1)))) (e:step (f l.length)=some (.inr c)) (fuel:Nat) (hf:l.length < fuel) :
  zr step fuel (f 0)=some (bif leb 0 (yJ p l) then b (yJ p l) else c):=by
 have: ∀ (t q:List α) (fuel:Nat),q++t=l→t.length < fuel→zr step fuel (f q.length)=some (bif leb 0 (yJ p t) then b (q.length+yJ p t) else c):=by
  intro t
  induction t with
  | nil =>
   intro q fuel hq hf
   obtain ⟨fuel,rfl⟩: ∃ m,fuel=m+1:=⟨fuel - 1,by omega⟩
   rw [List.append_nil]at hq
   subst hq
   simp only [zr,e]; rfl
  | cons x t ih =>
   intro q fuel hq hf
   obtain ⟨fuel,rfl⟩: ∃ m,fuel=m+1:=⟨fuel - 1,by omega⟩
   have hx:l.getD q.length d=x:=by
    subst hq
    rw [zcq (by simp)]; simp
   have hs:=h q.length (by rw [← hq]; simp)
   rw [hx]at hs
   rw [yvR]
   cases hp:p x
   ·rw [hp]at hs
    have:=ih (q++ [x]) fuel (by rw [← hq]; simp) (by simp at hf; omega)
    simp only [List.length_append,List.length_cons,List.length_nil]at this
    simp only [zr,hs,cond_false]
    rw [show q.length+1=q.length+(0+1) by omega,this]
    cases hl:leb 0 (yJ p t)
    ·rfl
    ·have:=zjQ.1 hl
     rw [cond_true,cond_true,zk0 (show 0≤yJ p t+1 by omega),cond_true]
     congr 2; omega
   ·rw [hp]at hs
    simp only [zr,hs,cond_true]
    rw [zk0 (Int.le_refl 0),cond_true,Int.add_zero]
 have:=this l [] fuel rfl hf
 simpa using this
theorem yvM {α β:Type} (f:α→β): ∀ (l:List α) (s:List β),l.foldl (fun s i=>s++ [f i]) s=s++l.map f
 | [],s=>by simp
 | x::l,s=>by rw [List.foldl_cons,yvM f l]; simp
theorem ypA {α:Type} (l:List α):l.foldl (fun s i=>s++ [i]) []=l:=by
 have:=yvM id l []
 simpa using this
theorem ySU {α:Type} (l:List α) (d:α) {i:Nat} (h:i < l.length):l.take i++ [nth l i d]=l.take (i+1):=by rw [zjW,zcq h,List.take_append_getElem h]
def yba (e:dW) (s:Bool×List dW) (x:dW):Bool×List dW:=(s.1||leb e.1 x.1,(bif !s.1&&leb e.1 x.1 then s.2++ [e] else s.2)++(bif x.1 !=e.1 then [x] else []))
def yxG (l:List dW) (e:dW):List dW:=bif (l.foldl (yba e) (false,[])).1 then (l.foldl (yba e) (false,[])).2 else (l.foldl (yba e) (false,[])).2++ [e]
def yJz (a:dA) (l:List dW):dA:=(a.1,a.2.1,a.2.2.1,a.2.2.2.1,a.2.2.2.2.1,a.2.2.2.2.2.1,a.2.2.2.2.2.2.1,a.2.2.2.2.2.2.2.1,l,a.2.2.2.2.2.2.2.2.2)
theorem yJA {α:Type} (f:α→Nat) (c:Nat): ∀ l:List α,(l.map (fun x=>c+f x)).sum=c * l.length+(l.map f).sum
 | []=>by simp
 | x::l=>by rw [List.map_cons,List.sum_cons,yJA f c l,List.map_cons,List.sum_cons,List.length_cons,Nat.mul_add]; omega
theorem yMX {α:Type} {u:α→Int→Int} {m:α→Nat} {l:List α} {k:Int} (hu: ∀ x∈l,∀ k,0≤k→k≤1048576→0≤u x k→(m x:Int)≤k∧u x k≤k - m x) (h0:0≤k) (h1:k≤1048576) (hl:l.length≤17592186044416)
  (h:0≤(bif ltb (IntKind.i64.wrap (k - (l.length:Int))) 0 then (-1) else (szG u l (IntKind.i64.wrap (k - (l.length:Int)))).getD (-1))) :
  ((l.length+(l.map m).sum:Nat):Int)≤k - (bif ltb (IntKind.i64.wrap (k - (l.length:Int))) 0 then (-1) else (szG u l (IntKind.i64.wrap (k - (l.length:Int)))).getD (-1))∧(bif ltb (IntKind.i64.wrap (k - (l.length:Int))) 0 then (-1) else (szG u l (IntKind.i64.wrap (k - (l.length:Int)))).getD (-1))≤k:=by
 rw [wr (show -9223372036854775808≤k - (l.length:Int) by omega) (by omega)] at h ⊢
 by_cases h2:k - (l.length:Int) < 0
 ·rw [zjI h2]at h; exact absurd (show (0:Int)≤ -1 from h) (by omega)
 ·rw [zkm (Int.not_lt.1 h2),cond_false]at h ⊢
  cases hg:szG u l (k - (l.length:Int)) with
  | none=>rw [hg]at h; exact absurd (show (0:Int)≤ -1 from h) (by omega)
  | some r =>
   have:=zke hu (by omega) (by omega) hg
   rw [Option.getD_some]
   omega
def ynN (m:dM):Nat:=(m.1.map (fun x:List Int=>x.length)).sum+(m.2.1.map (fun x:dW=>1+x.2.length)).sum+1+m.2.2.2.length
def yhm (l:List dM):Nat:=(l.map ynN).sum
def yhl (l:List dW):Nat:=(l.map (fun x:dW=>1+x.2.length)).sum
def yd9 (a:dA):Nat:=yhm a.2.2.1+yhl a.2.2.2.2.2.2.2.2.1
abbrev yf:dM:=([],[],false,[])
def isW (x:Int):Bool:=leb 0 x&&leb x 65535
def ybO (s:List Int):Bool:=leb (s.length:Int) 12&&s.all isW
theorem yTw {x:Int}:isW x=true↔0≤x∧x≤65535:=by simp [isW,zjQ]
theorem yzz {s:List Int}:ybO s=true↔s.length≤12∧ ∀ x∈s,0≤x∧x≤65535:=by
 simp only [ybO,Bool.and_eq_true,zjQ,List.all_eq_true,yTw]
 constructor
 ·rintro ⟨h1,h2⟩; exact ⟨by omega,h2⟩
 ·rintro ⟨h1,h2⟩; exact ⟨by omega,h2⟩
theorem ySm: ∀ {l:List Int},l.Pairwise (· < ·)↔ ∀ i,i+1 < l.length→l.getD i 0 < l.getD (i+1) 0
 | []=>by simp
 | [x]=>by simp
 | x::y::l=>by
  have ih:=ySm (l:=y::l)
  constructor
  ·intro h i hi
   cases h with
   | cons h1 h2 =>
    cases i with
    | zero=>exact h1 y List.mem_cons_self
    | succ i=>exact ih.1 h2 i (by simpa using hi)
  ·intro h
   have h2:(y::l).Pairwise (· < ·):=ih.2 fun i hi=>h (i+1) (by simpa using hi)
   refine .cons (fun z hz=> ?_) h2
   have h3:x < y:=h 0 (by simp)
   rcases List.mem_cons.1 hz with rfl | hz
   ·exact h3
   ·cases h2 with
    | cons h4 _=>exact Int.lt_trans h3 (h4 z hz)
def yq5 (n:Nat) (l:List Int):Bool:=l.all (fun x=>inb x n)&&decide (l.Pairwise (· < ·))
def ysE (n:Nat) (w:dW):Bool:=inb w.1 n&&ybO w.2
def yK (m:dM):Bool:=m.1.all ybO&&m.2.1.all (ysE m.1.length)&&yq5 m.1.length m.2.2.2&&leb 1 (m.1.length:Int)&&leb (m.1.length:Int) 20&&leb (m.2.1.length:Int) 60
def yyP (n:Nat) (l:List Int) (i:Nat):Bool:= !(inb (l.getD i 0) n)||(decide (0 < i)&&leb (l.getD i 0) (l.getD (i - 1) 0))
theorem yPv (n:Nat) (l:List Int):(List.range l.length).any (yyP n l)= !(yq5 n l):=by
 rw [Bool.eq_iff_iff,List.any_eq_true,Bool.not_eq_true',yq5,Bool.and_eq_false_iff,decide_eq_false_iff_not,ySm,List.all_eq_false]
 simp only [List.mem_range,yyP,Bool.or_eq_true,Bool.not_eq_true',Bool.and_eq_true,decide_eq_true_eq,zjQ]
 constructor
 ·rintro ⟨i,hi,h | ⟨h1,h2⟩⟩
  ·exact .inl ⟨l[i],List.getElem_mem hi,by rw [zcq hi]at h; simp [h]⟩
  ·refine .inr fun h3=> ?_
   have:=h3 (i - 1) (by omega)
   rw [show i - 1+1=i by omega]at this
   omega
 ·rintro (⟨x,hx,h⟩ | h)
  ·obtain ⟨i,hi,rfl⟩:=List.getElem_of_mem hx
   exact ⟨i,hi,.inl (by rw [zcq hi]; simpa using h)⟩
  ·refine Classical.byContradiction fun hc=>h fun i hi=> ?_
   refine Classical.byContradiction fun h4=>hc ⟨i+1,hi,.inr ⟨by omega,?_⟩⟩
   rw [Nat.add_sub_cancel]; omega
theorem ydr (x a b:Int):ya x a b=(leb a x&&leb x b):=by
 unfold ya; cases leb a x<;>rfl
theorem yrh {x:Int} {n:Nat} (h:n≤1152921504606846976):ya x 0 (IntKind.i64.wrap ((n:Int) - 1))=inb x n:=by
 rw [wr (by omega) (by omega),Bool.eq_iff_iff,yxy,zjP]; omega
def yA3 (n:Int) (c:List dW) (s:List Int):List Int:=c.foldl (fun s w=>bif w.1==n then w.2 else s) s
def yNk (m:dM) (n:Int):Bool:=yK m&&(!m.2.2.1&&(inb n m.1.length&& !(m.2.2.2.any (· ==n))))
def ysD (m:dM) (n:Int):List Int×Bool:=bif yNk m n then (yA3 n m.2.1 (nth m.1 n []),true) else ([],false)
theorem yLo {P:List Int→Prop} {n:Int}: ∀ {c:List dW} {s:List Int},P s→(∀ w∈c,P w.2)→P (yA3 n c s)
 | [],_,h,_=>h
 | w::c,s,h,hc=>yLo (c:=c) (zkM (hc w List.mem_cons_self) h) (fun x hx=>hc x (List.mem_cons_of_mem _ hx))
theorem yOt {α:Type} {P:α→Prop} {l:List α} {i:Int} {d:α} (h:inb i l.length=true) (hl: ∀ x∈l,P x):P (nth l i d):=by
 obtain ⟨h1,h2⟩:=zjP.1 h
 unfold nth
 rw [zcq (show i.toNat < l.length by omega)]
 exact hl _ (List.getElem_mem _)
theorem ySp {α:Type} {p:α→Bool} {l:List α} (h:leb 0 (yJ p l)=false):yJ p l= -1:=by
 unfold yJ at h ⊢
 cases ha:l.any p
 ·rfl
 ·rw [ha,cond_true,zk0 (show (0:Int)≤((l.takeWhile (fun x=> !p x)).length:Int) by omega)] at h; cases h
theorem ySG {α:Type} {p:α→Bool}: ∀ {l:List α},leb 0 (yJ p l)=true→(l.take ((yJ p l).toNat+1)).filter (fun x=> !p x)=l.take (yJ p l).toNat
 | [],h=>by rw [yPy]at h; cases h
 | x::l,h=>by
  rw [yvR]at h ⊢
  cases hx:p x
  ·rw [hx]at h
   cases hl:leb 0 (yJ p l)
   ·rw [hl]at h; cases h
   ·have h4:=zjQ.1 hl
    simp only [cond_false,cond_true]
    rw [show (yJ p l+1).toNat=(yJ p l).toNat+1 by omega,List.take_succ_cons,List.take_succ_cons,List.filter_cons,hx,ySG hl]; rfl
  ·simp only [cond_true]
   show List.filter (fun x=> !p x) [x]= []
   rw [List.filter_cons,hx]; rfl
theorem yUw {α:Type} {p:α→Bool} {l:List α} (h:leb 0 (yJ p l)=false):l.filter (fun x=> !p x)=l:=by
 rw [List.filter_eq_self]
 intro x hx
 unfold yJ at h
 cases ha:l.any p
 ·have:=List.any_eq_false.1 ha x hx
  simpa using this
 ·rw [ha,cond_true,zk0 (show (0:Int)≤((l.takeWhile (fun x=> !p x)).length:Int) by omega)] at h; cases h
def yMW (a:dA):dA:=(a.1,a.2.1,a.2.2.1,a.2.2.2.1,a.2.2.2.2.1,IntKind.i64.wrap (a.2.2.2.2.2.1+1),a.2.2.2.2.2.2)
def yw6 (s:Int):Int:=bif leb 0 s&&leb s 1099511627776 then s+6 else -1
def yeV (a:dA) (m s:Int):Bool:=inb m a.2.2.1.length&&(!(nth a.2.2.1 m yf).2.2.1&&(m !=a.2.2.2.1||ltb s a.2.2.2.2.1))
def ycM (a:dA) (m s:Int):List Int×Bool:=ysD (nth a.2.2.1 m yf) (yw6 s)
def yj (a:dA) (m s:Int):Bool:=yeV a m s&&((ycM a m s).2&&((ycM a m s).1.length:Int)==1)
def yxX (a:dA) (m s:Int):Int:=bif yj a m s then nth (ycM a m s).1 0 0 else 0
def xw (a b:Int):Int:=IntKind.i64.wrap ((BitVec.ofInt IntKind.i64.bits a ^^^ BitVec.ofInt IntKind.i64.bits b).toNat:Int)
def ysP (l:List Int):Int:=l.foldl xw 0
def ySX (a:dA) (s:Int):Bool:=(List.range a.2.2.1.length).all (fun (i:Nat)=>yj a i s)
def yTk (a:dA) (s:Int):Int×Bool:=bif ySX a s then (ysP ((List.range a.2.2.1.length).map (fun (i:Nat)=>yxX a i s)),true) else (0,false)
def yUP (a:dA):Bool:=(List.range (min a.2.1.2.toNat 20)).all (fun (s:Nat)=> !((yTk a s).2&&(yTk a s).1 !=0))
def bv (x:Int):BitVec 64:=BitVec.ofInt 64 x
theorem yMY (a b:Int):xw a b=(bv a ^^^ bv b).toInt:=by
 show IntKind.i64.wrap ((bv a ^^^ bv b).toNat:Int)=_
 rw [IntKind.wrap_i64,BitVec.toInt_eq_toNat_cond]
 have:=(bv a ^^^ bv b).isLt
 split<;>omega
theorem ywv (v:BitVec 64):bv v.toInt=v:=by unfold bv; simp
theorem yUN (a b:Int):bv (xw a b)=bv a ^^^ bv b:=by rw [yMY,ywv]
theorem yUD {x:Int} (h: -9223372036854775808≤x) (h2:x≤9223372036854775807):(bv x).toInt=x:=by
 unfold bv
 rw [BitVec.toInt_ofInt,Int.bmod_def]
 simp only [Nat.reducePow]at *
 omega
def yPs (l:List Int):BitVec 64:=l.foldl (fun v x=>v ^^^ bv x) 0#64
theorem ySc (l:List Int):ysP l=(yPs l).toInt:=by
 have: ∀ (l:List Int) (v:BitVec 64),l.foldl xw v.toInt=(l.foldl (fun v x=>v ^^^ bv x) v).toInt:=by
  intro l
  induction l with
  | nil=>intro _; rfl
  | cons x l ih =>
   intro v
   rw [List.foldl_cons,List.foldl_cons,yMY,ywv,ih]
 have h:=this l 0#64
 rwa [show (0#64:BitVec 64).toInt=0 from by decide]at h
theorem ySV (l:List Int) (x:Int):yPs (l++ [x])=yPs l ^^^ bv x:=by unfold yPs; rw [List.foldl_append]; rfl
theorem yTh {i:Int} {n:Nat} (h: ¬ (0≤i∧i < (n:Int))):inb i n=false:=by
 cases e:inb i n
 ·rfl
 ·exact absurd (zjP.1 e) h
def ylY (l:List Int) (k:Int):Int:=bif inb k l.length then xw (ysP l) (nth l k 0) else ysP l
theorem ySW (u v:BitVec 64):u ^^^ v ^^^ v=u:=by rw [BitVec.xor_assoc,BitVec.xor_self,BitVec.xor_zero]
theorem ySN (l:List Int) (k:Int):(List.range l.length).foldl (fun n (i:Nat)=>bif (i:Int) !=k then xw n (nth l i 0) else n) 0=ylY l k:=by
 have: ∀ n,n≤l.length→(List.range n).foldl (fun n (i:Nat)=>bif (i:Int) !=k then xw n (nth l i 0) else n) 0=(bif inb k n then yPs (l.take n) ^^^ bv (nth l k 0) else yPs (l.take n)).toInt:=by
  intro n
  induction n with
  | zero =>
   intro _
   rw [yTh (show ¬ (0≤k∧k < ((0:Nat):Int)) by omega)]
   rfl
  | succ n ih =>
   intro hn
   rw [List.range_succ,List.foldl_append,List.foldl_cons,List.foldl_nil,ih (by omega),← ySU l 0 (show n < l.length by omega),ySV]
   by_cases hk:(n:Int)=k
   ·subst hk
    rw [show ((n:Int) !=n)=false by simp,cond_false,yTh (show ¬ (0≤(n:Int)∧(n:Int) < (n:Int)) by omega),show inb (n:Int) (n+1)=true from zkO (Nat.lt_succ_self n),cond_false,cond_true,ySW]
   ·rw [show ((n:Int) !=k)=true from bne_iff_ne.2 hk,cond_true,show inb k (n+1)=inb k n by rw [Bool.eq_iff_iff,zjP,zjP]; omega,yMY,ywv]
    cases inb k n
    ·rfl
    ·rw [cond_true,cond_true,BitVec.xor_assoc,BitVec.xor_comm (bv (nth l k 0)),← BitVec.xor_assoc]
 rw [this l.length (Nat.le_refl _),List.take_length]
 unfold ylY
 rw [yMY,ySc,ywv]
 cases inb k l.length<;>rfl
theorem ySM {l:List Int} {k:Int} (h:inb k l.length=true) (h0:nth l k 0=0):ylY l k=ysP l:=by
 unfold ylY
 rw [h,h0,cond_true,yMY,ySc,ywv,show bv 0=0#64 by decide,BitVec.xor_zero]
abbrev yk1:dA:=(0,(0,0),[],0,0,0,0,0,[],0,false,false)
def yTc (k:Int) (i:Nat):Bool:=IntKind.i64.wrap ((BitVec.ofInt IntKind.i64.bits (k.fdiv (2 ^ (min (i:Int).toNat IntKind.i64.bits))) &&& BitVec.ofInt IntKind.i64.bits 1).toNat:Int)==1
def ySI (k:Int):Int:=bif leb 0 k&&leb k 1048575 then k else 0
def yjW (b:Nat→Bool) (c:List dW) (l:List (List Int)) (i:Nat):List (List Int):=bif b i then l.set (nth c i (0,[])).1.toNat (nth c i (0,[])).2 else l
def yig (b:Nat→Bool) (c:List dW) (l:List (List Int)):List (List Int):=(List.range c.length).foldl (yjW b c) l
def yEx (m:dM) (k:Int):dM:=bif yK m then (yig (fun i=>decide (i < 20)&&yTc (ySI k) i) m.2.1 m.1,[],m.2.2.1,m.2.2.2) else m
def yRP (ks:List Int) (i:Nat):Int:=bif decide (i < ks.length) then nth ks i 0 else 0
def yTr (l:List dM) (ks:List Int):List dM:=(List.range l.length).map (fun (i:Nat)=>yEx (nth l i yf) (yRP ks i))
theorem ygM {m:dM} (h:yK m=true):m.1.all ybO=true∧m.2.1.all (ysE m.1.length)=true∧yq5 m.1.length m.2.2.2=true∧1≤m.1.length∧m.1.length≤20∧m.2.1.length≤60:=by
 simp only [yK,Bool.and_eq_true,zjQ]at h
 exact ⟨h.1.1.1.1.1,h.1.1.1.1.2,h.1.1.1.2,by omega,by omega,by omega⟩
theorem yUx {m:dM} (h:yK m=true) {i:Nat} (hi:i < m.2.1.length):inb (nth m.2.1 i (0,[])).1 m.1.length=true∧ybO (nth m.2.1 i (0,[])).2=true:=by
 have h1:=List.all_eq_true.1 (ygM h).2.1 m.2.1[i] (List.getElem_mem hi)
 rw [zjW,zcq hi]
 exact Bool.and_eq_true_iff.1 h1
theorem ySy {b:Nat→Bool} {c:List dW} {l:List (List Int)} {i:Nat}:(yjW b c l i).length=l.length:=by
 unfold yjW; cases b i
 ·rfl
 ·exact List.length_set
theorem yKA {α β:Type} (P:β→Prop) (f:β→α→β) (h: ∀ s x,P s→P (f s x)): ∀ (l:List α) (s:β),P s→P (l.foldl f s)
 | [],_,hs=>hs
 | x::l,s,hs=>yKA P f h l (f s x) (h s x hs)
theorem yoo {b:Nat→Bool} {c:List dW} {l:List (List Int)}:(yig b c l).length=l.length :=
 yKA (fun x=>x.length=l.length) _ (fun s x hs=>by rw [ySy]; exact hs) _ l rfl
theorem yTW (b:Nat→Bool) (c:List dW) (l:List (List Int)):yig (fun i=>decide (i < 20)&&b i) c l=(List.range (min c.length 20)).foldl (yjW b c) l:=by
 have h1: ∀ n,n≤20→ ∀ l,(List.range n).foldl (yjW (fun i=>decide (i < 20)&&b i) c) l=(List.range n).foldl (yjW b c) l:=by
  intro n
  induction n with
  | zero=>intro _ _; rfl
  | succ n ih =>
   intro hn l
   rw [List.range_succ,List.foldl_append,List.foldl_append,ih (by omega)]
   simp only [List.foldl_cons,List.foldl_nil,yjW,show decide (n < 20)=true from decide_eq_true (by omega),Bool.true_and]
 have h2: ∀ n,20≤n→ ∀ l,(List.range n).foldl (yjW (fun i=>decide (i < 20)&&b i) c) l=(List.range 20).foldl (yjW b c) l:=by
  intro n
  induction n with
  | zero=>intro h; omega
  | succ n ih =>
   intro hn l
   by_cases h:20≤n
   ·rw [List.range_succ,List.foldl_append,ih h]
    simp only [List.foldl_cons,List.foldl_nil,yjW,show decide (n < 20)=false from decide_eq_false (by omega),Bool.false_and,cond_false]
   ·rw [h1 (n+1) (by omega),show n+1=20 by omega]
 unfold yig
 by_cases h:c.length≤20
 ·rw [h1 _ h,Nat.min_eq_left h]
 ·rw [h2 _ (by omega),Nat.min_eq_right (by omega)]
theorem yMV {l:List (List Int)} {b:Nat} (h:l.length≤20) (hs: ∀ x∈l,x.length≤b):(l.map (fun x:List Int=>x.length)).sum≤20 * b:=by
 have:=zi5 (f:=fun x:List Int=>x.length) hs
 exact Nat.le_trans this (Nat.mul_le_mul_right _ h)
theorem yGH {P:List Int→Prop} {b:Nat→Bool} {c:List dW} {l:List (List Int)} (hl: ∀ x∈l,P x) (hc: ∀ w∈c,P w.2): ∀ x∈yig b c l,P x:=by
 have: ∀ (n:Nat),n≤c.length→ ∀ x∈(List.range n).foldl (yjW b c) l,P x:=by
  intro n
  induction n with
  | zero=>intro _; exact hl
  | succ n ih =>
   intro hn x hx
   rw [List.range_succ,List.foldl_append,List.foldl_cons,List.foldl_nil,yjW]at hx
   cases hb:b n
   ·rw [hb]at hx; exact ih (by omega) x hx
   ·rw [hb,cond_true]at hx
    rcases List.mem_or_eq_of_mem_set hx with h | h
    ·exact ih (by omega) x h
    ·rw [h,zjW,zcq (show n < c.length by omega)]
     exact hc _ (List.getElem_mem _)
 exact this _ (Nat.le_refl _)
theorem ySv (m:dM) (k:Int):ynN (yEx m k)≤ynN m+240:=by
 unfold yEx
 cases hm:yK m
 ·exact Nat.le_add_right _ _
 ·obtain ⟨h1,h2,_,_,h3,_⟩:=ygM hm
  have hs: ∀ x∈yig (fun i=>decide (i < 20)&&yTc (ySI k) i) m.2.1 m.1,x.length≤12 :=
   yGH (P:=fun x=>x.length≤12) (fun x hx=>(yzz.1 (List.all_eq_true.1 h1 x hx)).1) (fun w hw=>(yzz.1 (Bool.and_eq_true_iff.1 (List.all_eq_true.1 h2 w hw)).2).1)
  have:=yMV (b:=12) (by rw [yoo]; exact h3) hs
  unfold ynN
  simp only [cond_true,List.map_nil,List.sum_nil]
  omega
theorem yTC (l:List dM) (ks:List Int):yhm (yTr l ks)≤yhm l+240 * l.length:=by
 have: ∀ n,n≤l.length→(((List.range n).map (fun (i:Nat)=>yEx (nth l i yf) (yRP ks i))).map ynN).sum≤((l.take n).map ynN).sum+240 * n:=by
  intro n
  induction n with
  | zero=>intro _; simp
  | succ n ih =>
   intro hn
   rw [List.range_succ,List.map_append,List.map_append,List.sum_append,← List.take_append_getElem (show n < l.length by omega),List.map_append,List.sum_append]
   have:=ih (by omega)
   have h2:=ySv (nth l n yf) (yRP ks n)
   rw [zjW,zcq (show n < l.length by omega)] at h2
   simp only [List.map_cons,List.map_nil,List.sum_cons,List.sum_nil]
   rw [zjW l n,zcq (show n < l.length by omega)]
   omega
 have h:=this l.length (Nat.le_refl _)
 rw [List.take_length]at h
 exact h
def yBf (m:dM) (n:Int) (s:List Int):Bool:=yK m&&(!m.2.2.1&&(inb n m.1.length&&(ybO s&&ltb (m.2.1.length:Int) 60)))
def yTM (l:List Int) (n:Int):List Int:=l.filter (· !=n)
def ysF (m:dM) (n:Int) (s:List Int):dM×Bool:=bif yBf m n s then ((m.1,m.2.1++ [(n,s)],m.2.2.1,yTM m.2.2.2 n),true) else (m,false)
def ysg (m:dM):dM:=bif yK m&& !m.2.2.1 then (yig (fun _=>true) m.2.1 m.1,[],m.2.2.1,m.2.2.2) else m
def yTq (m:dM):dM:=(m.1,[],true,m.2.2.2)
end
section
def yCR:Code:=(Tryz.f134.body).getD .skip
def yDc:Env:=zki TT [(135,yl)] []
theorem yK6:FrOk Tryz.prog ⟨yDc,11,fun _=>none⟩ yCR:=zkp yb yc ⟨yv,trivial⟩
def yNe:Nat→Option Seg:=fun _=>none
abbrev ylR:List Par:= [.rd tG]
abbrev yq0:List OT:= [⟨false,tB,.fz⟩]
def ysA (a0:dG):Option (ResD yq0×MutD ylR) :=
 let r1:=ya a0.1 3 5
 bif r1 then
 let r2:=ya a0.2 1 8
 some ((r2,()),())
 else
 some ((false,()),())
theorem yRF (x:InD ylR):zjH ⟨yDc,11,yNe⟩ Tryz.f134.results.toList yCR ylR yq0 x=ysA x.1:=by kernel_rfl
theorem yOQ:ConOk Tryz.prog 134 ⟨ylR,yq0,fun x=>ysA x.1⟩:=zkh (yK6) Tryz.func134 (by kernel_rfl) (by kernel_rfl) Tryz.ntmps134.symm (by decide) (fun x r h=>(yRF x).trans h)
def yd (a0:dG):Bool :=
 let r1:=ya a0.1 3 5
 bif r1 then
 let r2:=ya a0.2 1 8
 r2
 else
 false
def yif:Con:=⟨ylR,yq0,fun x=>(fun n=>some ((n,()),())) (yd x.1)⟩
theorem yQH (a0:dG):ysA a0=(fun n=>some ((n,()),())) (yd a0):=zkS (p:=fun (n:Bool)=>((n,()),())) (zkx (p:=fun (n:Bool)=>((n,()),())) rfl rfl)
theorem ypg:ConOk Tryz.prog 134 yif:=(yOQ).mono (fun x r _ h=>(yQH x.1).trans h)
theorem yo {a:Int×Int}:yd a=true↔(3≤a.1∧a.1≤5)∧1≤a.2∧a.2≤8:=by
 unfold yd
 cases h:ya a.1 3 5
 ·have: ¬ (3≤a.1∧a.1≤5):=fun e=>by rw [yxy.2 e]at h; simp at h
  simp [this]
 ·simp only [cond_true,yxy]
  exact ⟨fun e=>⟨yxy.1 h,e⟩,fun e=>e.2⟩
def ygC (a:dA) (i:Nat):Bool:= !(yK (nth a.2.2.1 i yf))||((((nth a.2.2.1 i yf).1.length:Int) !=6+a.2.1.2)||((nth a.2.2.1 i yf).2.2.1&&(((i:Int) !=a.2.2.2.1)&& !a.2.2.2.2.2.2.2.2.2.2.2)))
def yri (a:dA):Bool:= !((List.range a.2.2.1.length).any (ygC a))&&(a.2.2.1.length:Int)==a.2.1.1
def yfu (g:dG) (l:List dW) (i:Nat):Bool:= !(leb 0 (nth l i (0,[])).1&&leb (nth l i (0,[])).1 (g.2 - 1))||(((nth l i (0,[])).2.length:Int) !=g.1 - 1||(!((nth l i (0,[])).2.all isW)||(decide (0 < i)&&leb (nth l i (0,[])).1 (nth l ((i - 1:Nat):Int) (0,[])).1)))
def yar (g:dG) (l:List dW):Bool:= !((List.range l.length).any (yfu g l))
def yI (a:dA):Bool :=
 yd a.2.1&&((leb 1 a.1&&leb a.1 60000)&&(yri a&&(yar a.2.1 a.2.2.2.2.2.2.2.2.1&&((leb (-1) a.2.2.2.1&&leb a.2.2.2.1 (a.2.1.1 - 1))&&((leb 0 a.2.2.2.2.1&&leb a.2.2.2.2.1 a.2.1.2)&&(!(a.2.2.2.1== -1&&a.2.2.2.2.1 !=0) &&
 ((leb 0 a.2.2.2.2.2.2.1&&leb a.2.2.2.2.2.2.1 60000)&&((leb a.2.2.2.2.2.2.1 a.2.2.2.2.2.1&&leb a.2.2.2.2.2.1 60000)&&(leb a.2.2.2.2.2.1 (a.2.2.2.2.2.2.1+4)&&((leb 0 a.2.2.2.2.2.2.2.1&&leb a.2.2.2.2.2.2.2.1 60000)&&(leb (-1) a.2.2.2.2.2.2.2.2.2.1&&leb a.2.2.2.2.2.2.2.2.2.1 1000)))))))))))
theorem ycY {a:dA} (h:yI a=true):yd a.2.1=true:=(Bool.and_eq_true_iff.1 h).1
theorem yUQ {a:Int×Int} (h: ¬ yd a=true):yd a=false:=by cases e:yd a<;>simp_all
theorem yKa {a:dA} (h:yI a=true):yri a=true:=by simp only [yI,Bool.and_eq_true]at h; exact h.2.2.1
theorem yPt {a:dA} (h:yI a=true):(a.2.2.1.length:Int)=a.2.1.1:=by have:=yKa h; simp only [yri,Bool.and_eq_true,beq_iff_eq]at this; exact this.2
theorem ySL {a:dA} (h:yri a=true) {i:Nat} (hi:i < a.2.2.1.length):yK (nth a.2.2.1 i yf)=true∧((nth a.2.2.1 i yf).1.length:Int)=6+a.2.1.2∧((nth a.2.2.1 i yf).2.2.1=true→(i:Int)=a.2.2.2.1∨a.2.2.2.2.2.2.2.2.2.2.2=true):=by
 simp only [yri,Bool.and_eq_true,Bool.not_eq_true',List.any_eq_false,List.mem_range]at h
 have:=h.1 i hi
 simp only [ygC,Bool.not_eq_true,Bool.or_eq_false_iff,Bool.not_eq_false',bne_eq_false_iff_eq,Bool.and_eq_false_iff]at this
 refine ⟨this.1,this.2.1,fun hf=> ?_⟩
 rcases this.2.2 with h1 | h1 | h1
 ·rw [hf]at h1; cases h1
 ·exact .inl h1
 ·exact .inr h1
theorem yNj: ∀ {l:List Int} {lo n:Int},l.Pairwise (· < ·)→(∀ x∈l,lo≤x∧x < n)→lo≤n→(l.length:Int)≤n - lo
 | [],lo,n,_,_,h=>by simp; omega
 | x::l,lo,n,hp,hx,h=>by
  cases hp with
  | cons h1 h2 =>
   have h3:=hx x List.mem_cons_self
   have:=yNj (l:=l) (lo:=x+1) (n:=n) h2 (fun y hy=>⟨h1 y hy,(hx y (List.mem_cons_of_mem _ hy)).2⟩) (by omega)
   rw [List.length_cons]; omega
theorem yDn {n:Nat} {l:List Int}:yq5 n l=true↔(∀ x∈l,0≤x∧x < n)∧l.Pairwise (· < ·):=by
 simp only [yq5,Bool.and_eq_true,List.all_eq_true,zjP,decide_eq_true_eq]
theorem yH3 {m:dM} (h1:m.1.all ybO=true) (h2:m.2.1.all (ysE m.1.length)=true) (h3:yq5 m.1.length m.2.2.2=true) (h4:1≤m.1.length) (h5:m.1.length≤20) (h6:m.2.1.length≤60):yK m=true:=by
 simp only [yK,h1,h2,h3,Bool.true_and,Bool.and_eq_true,zjQ]
 omega
theorem ySi {m:dM} (h:yK m=true):ynN m≤1041:=by
 obtain ⟨h1,h2,h3,h4,h5,h6⟩:=ygM h
 have a1:=yMV (b:=12) h5 (fun x hx=>(yzz.1 (List.all_eq_true.1 h1 x hx)).1)
 have a2:=zi5 (f:=fun x:dW=>1+x.2.length) (c:=13) (l:=m.2.1) (fun w hw=>by have:=(yzz.1 (Bool.and_eq_true_iff.1 (List.all_eq_true.1 h2 w hw)).2).1; omega)
 have a3:=Nat.mul_le_mul_right 13 h6
 obtain ⟨b1,b2⟩:=yDn.1 h3
 have a4:=yNj (lo:=0) (n:=m.1.length) b2 b1 (by omega)
 unfold ynN
 omega
theorem ySx {m:dM} (b:Nat→Bool) (h:yK m=true):(yig b m.2.1 m.1).all ybO=true:=by
 obtain ⟨h1,h2,_⟩:=ygM h
 rw [List.all_eq_true]
 exact yGH (P:=fun x=>ybO x=true) (fun x hx=>List.all_eq_true.1 h1 x hx) (fun w hw=>(Bool.and_eq_true_iff.1 (List.all_eq_true.1 h2 w hw)).2)
theorem yTb {m:dM} (n:Int) (s:List Int) (h:yK m=true):yK (ysF m n s).1=true:=by
 unfold ysF
 cases hc:yBf m n s
 ·exact h
 ·simp only [yBf,Bool.and_eq_true,Bool.not_eq_true',zjT]at hc
  obtain ⟨h1,h2,h3,h4,h5,h6⟩:=ygM h
  refine yH3 h1 ?_ ?_ h4 h5 (by show (m.2.1++ [(n,s)]).length≤60; rw [List.length_append]; simp only [List.length_cons,List.length_nil]; omega)
  ·show (m.2.1++ [(n,s)]).all (ysE m.1.length)=true
   rw [List.all_append,h2]
   simp [ysE,hc.2.2.1,hc.2.2.2.1]
  ·show yq5 m.1.length (yTM m.2.2.2 n)=true
   obtain ⟨b1,b2⟩:=yDn.1 h3
   exact yDn.2 ⟨fun x hx=>b1 x (List.mem_filter.1 hx).1,b2.filter _⟩
theorem yUs (m:dM) (n:Int) (s:List Int):(ysF m n s).1.1=m.1∧(ysF m n s).1.2.2.1=m.2.2.1:=by
 unfold ysF
 cases yBf m n s<;>exact ⟨rfl,rfl⟩
theorem yS0 {m:dM} (h:yK m=true):yK (ysg m)=true:=by
 unfold ysg
 cases hc:(yK m&& !m.2.2.1)
 ·exact h
 ·obtain ⟨h1,h2,h3,h4,h5,h6⟩:=ygM h
  refine yH3 (ySx _ h) rfl ?_ ?_ ?_ (Nat.zero_le _)
  ·show yq5 (yig _ m.2.1 m.1).length m.2.2.2=true; rw [yoo]; exact h3
  ·show 1≤(yig _ m.2.1 m.1).length; rw [yoo]; exact h4
  ·show (yig _ m.2.1 m.1).length≤20; rw [yoo]; exact h5
theorem yUo (m:dM):(ysg m).1.length=m.1.length∧(ysg m).2.2.1=m.2.2.1:=by
 unfold ysg
 cases (yK m&& !m.2.2.1)
 ·exact ⟨rfl,rfl⟩
 ·exact ⟨yoo,rfl⟩
theorem yUH {m:dM} (h:yK m=true):yK (yTq m)=true:=by
 obtain ⟨h1,h2,h3,h4,h5,h6⟩:=ygM h
 exact yH3 h1 rfl h3 h4 h5 (Nat.zero_le _)
def yZ (l:List dM):Prop:= ∀ m∈l,yK m=true
theorem yMj {l:List dM} {i:Nat} {x:dM} (h:yZ l) (hx:yK x=true):yZ (l.set i x):=fun m hm=>by
 rcases List.mem_or_eq_of_mem_set hm with h1 | rfl
 ·exact h m h1
 ·exact hx
theorem yPC {l:List dM} {m:Int} (h:yZ l) (hm:inb m l.length=true):yK (nth l m yf)=true:=yOt (P:=fun x=>yK x=true) hm h
theorem yxE {l:List dM} (h:yZ l):yhm l≤l.length * 1041:=zi5 (f:=ynN) (fun x hx=>ySi (h x hx))
theorem yBe {a:dA} (h:yI a=true):yZ a.2.2.1:=fun m hm=>by
 obtain ⟨i,hi,rfl⟩:=List.getElem_of_mem hm
 have:=(ySL (yKa h) hi).1
 rwa [zjW,zcq hi]at this
def yaO (g:dG) (s:Int):Bool:=yd g&&(leb 0 s&&leb s (g.2 - 1))
def yA (g:dG) (s:Int):Int:=bif yaO g s then g.1 - 1 - s.tmod g.1 else -1
def ycu (g:dG) (s i:Int):Int:=bif yaO g s&&(leb 0 i&&leb i (g.1 - 2)) then (yA g s+1+i).tmod g.1 else -1
theorem ygK {g:dG} {s:Int}:yaO g s=true↔yd g=true∧0≤s∧s≤g.2 - 1:=by simp [yaO,zjQ]
theorem ytL {g:dG} {s:Int} (h:yaO g s=true):0≤yA g s∧yA g s≤g.1 - 1:=by
 have h1:=ygK.1 h
 have h2:=yo.1 h1.1
 unfold yA
 rw [h,cond_true,Int.tmod_eq_emod_of_nonneg h1.2.1]
 have:=Int.emod_nonneg s (show g.1≠0 by omega)
 have:=Int.emod_lt_of_pos s (show 0 < g.1 by omega)
 omega
theorem ySn {g:dG} {s i:Int} (h:yaO g s=true) (h1:0≤i) (h2:i≤g.1 - 2):0≤ycu g s i∧ycu g s i≤g.1 - 1:=by
 have h3:=yo.1 (ygK.1 h).1
 have h4:=ytL h
 unfold ycu
 rw [h,zk0 h1,zk0 h2,Bool.and_self,Bool.and_self,cond_true,Int.tmod_eq_emod_of_nonneg (by omega)]
 have:=Int.emod_nonneg (yA g s+1+i) (show g.1≠0 by omega)
 have:=Int.emod_lt_of_pos (yA g s+1+i) (show 0 < g.1 by omega)
 omega
def yq (p:Nat→Bool):Nat→Int
 | 0=> -1
 | n+1=>bif p n then yq p n else n
def yEy (p:Nat→Bool) (n:Nat):Bool:=(List.range n).any (fun i=> !p i&&leb 0 (yq p i))
theorem yPA (p:Nat→Bool): ∀ n,yq p n= -1∨(0≤yq p n∧yq p n < n∧p (yq p n).toNat=false)
 | 0=> .inl rfl
 | n+1=>by
  unfold yq
  cases h:p n
  ·exact .inr ⟨by show (0:Int)≤n; omega,by show (n:Int) < _; omega,h⟩
  ·rcases yPA p n with h1 | h1
   ·exact .inl h1
   ·exact .inr ⟨h1.1,by show yq p n < _; omega,h1.2.2⟩
def yS (a:dA) (s:Int) (n:Nat):List Int:=(List.range n).map (fun (i:Nat)=>yxX a i s)
theorem ymA (a:dA) (s:Int) (n:Nat):(yS a s n).length=n:=by unfold yS; rw [List.length_map,List.length_range]
theorem yCj (a:dA) (s:Int) (n:Nat):yS a s n++ [yxX a n s]=yS a s (n+1):=by unfold yS; rw [List.range_succ,List.map_append]; rfl
theorem ySl (a:dA) (s:Int) {i n:Nat} (h:i < n):nth (yS a s n) i 0=yxX a i s:=by
 unfold yS
 rw [zjW,zcq (by rw [List.length_map,List.length_range]; exact h)]; simp
def yaA (a:dA) (s:Int):List Int×Bool :=
 bif yEy (fun (i:Nat)=>yj a i s) a.2.1.1.toNat then ([],false)
 else bif leb 0 (yq (fun (i:Nat)=>yj a i s) a.2.1.1.toNat) then ((yS a s a.2.1.1.toNat).set (yq (fun (i:Nat)=>yj a i s) a.2.1.1.toNat).toNat (ysP (yS a s a.2.1.1.toNat)),true)
 else (yS a s a.2.1.1.toNat,true)
theorem yPF {a:dA} {s:Int} (h:(yaA a s).2=true):(yaA a s).1.length=a.2.1.1.toNat:=by
 unfold yaA at h ⊢
 cases h1:yEy (fun (i:Nat)=>yj a i s) a.2.1.1.toNat
 ·cases leb 0 (yq (fun (i:Nat)=>yj a i s) a.2.1.1.toNat)
  ·exact ymA _ _ _
  ·simp only [cond_false,cond_true,List.length_set]; exact ymA _ _ _
 ·rw [h1]at h; cases h
theorem yPB (a:dA) (s:Int) (n:Nat) (h:leb 0 (yq (fun (i:Nat)=>yj a i s) n)=true):inb (yq (fun (i:Nat)=>yj a i s) n) (yS a s n).length=true∧ylY (yS a s n) (yq (fun (i:Nat)=>yj a i s) n)=ysP (yS a s n):=by
 rcases yPA (fun (i:Nat)=>yj a i s) n with h1 | h1
 ·rw [h1]at h; cases h
 ·have h2:inb (yq (fun (i:Nat)=>yj a i s) n) (yS a s n).length=true:=by rw [ymA,zjP]; exact ⟨h1.1,h1.2.1⟩
  refine ⟨h2,ySM h2 ?_⟩
  have h3:=ySl a s (show (yq (fun (i:Nat)=>yj a i s) n).toNat < n by omega)
  rw [show (((yq (fun (i:Nat)=>yj a i s) n).toNat:Nat):Int)=yq (fun (i:Nat)=>yj a i s) n by omega]at h3
  rw [h3]
  unfold yxX
  have h4:yj a (yq (fun (i:Nat)=>yj a i s) n) s=false:=by
   have:=h1.2.2
   have this:yj a ((yq (fun (i:Nat)=>yj a i s) n).toNat:Nat) s=false:=h1.2.2
   rwa [show (((yq (fun (i:Nat)=>yj a i s) n).toNat:Nat):Int)=yq (fun (i:Nat)=>yj a i s) n by omega]at this
  rw [h4]; rfl
def yzr (a:dA) (s:Int):List Int×Bool:=bif (yaA a s).2 then ((List.range (a.2.1.1 - 1).toNat).map (fun (i:Nat)=>nth (yaA a s).1 (ycu a.2.1 s i) 0),true) else ([],false)
def yAO (a:dA) (s:Int):List Int×Bool:=bif yI a&&(!a.2.2.2.2.2.2.2.2.2.2.2&&yaO a.2.1 s) then yzr a s else ([],false)
theorem yUk (a:dA) (s:Int):(yzr a s).1.length≤(a.2.1.1 - 1).toNat:=by
 unfold yzr
 cases (yaA a s).2
 ·exact Nat.zero_le _
 ·simp
def yUG (a:dA):List Int:=bif yI a&&(List.range a.2.1.2.toNat).all (fun (s:Nat)=>(yAO a s).2) then (List.range a.2.1.2.toNat).flatMap (fun (s:Nat)=>(yAO a s).1) else []
end
section
def yBJ:Code:=(Tryz.f139.body).getD .skip
def yB6:Env:=zki TT [] []
theorem yHX:FrOk Tryz.prog ⟨yB6,6,fun _=>none⟩ yBJ:=zkp yb yc trivial
def yJT:Nat→Option Seg:=fun _=>none
abbrev yjO:List Par:= [.rd tG]
abbrev yo5:List OT:= [⟨false,tI,.fz⟩]
def yrE (a0:dG):Option (ResD yo5×MutD yjO) :=
 some (((IntKind.i64.wrap (6+a0.2)),()),())
theorem yQe (x:InD yjO):zjH ⟨yB6,6,yJT⟩ Tryz.f139.results.toList yBJ yjO yo5 x=yrE x.1:=by kernel_rfl
theorem yMf:ConOk Tryz.prog 139 ⟨yjO,yo5,fun x=>yrE x.1⟩:=zkh (yHX) Tryz.func139 (by kernel_rfl) (by kernel_rfl) Tryz.ntmps139.symm (by decide) (fun x r h=>(yQe x).trans h)
def ypc (a0:dG):Int :=
 (IntKind.i64.wrap (6+a0.2))
def yzo:Con:=⟨yjO,yo5,fun x=>(fun n=>some ((n,()),())) (ypc x.1)⟩
theorem yOp (a0:dG):yrE a0=(fun n=>some ((n,()),())) (ypc a0):=zkS (p:=fun (n:Int)=>((n,()),())) rfl
theorem yPi:ConOk Tryz.prog 139 yzo:=(yMf).mono (fun x r _ h=>(yOp x.1).trans h)
end
section
def yBI:Code:=(Tryz.f181.body).getD .skip
def yB5:Env:=zki TT [(135,yl)] []
theorem yHM:FrOk Tryz.prog ⟨yB5,5,fun _=>none⟩ yBI:=zkp yb yc ⟨yv,trivial⟩
def yJS:Nat→Option Seg:=fun _=>none
abbrev yjN:List Par:= [.rd tI]
abbrev yo2:List OT:= [⟨false,tB,.fz⟩]
def yrD (a0:Int):Option (ResD yo2×MutD yjN) :=
 let r1:=ya a0 0 65535
 some ((r1,()),())
theorem yP9 (x:InD yjN):zjH ⟨yB5,5,yJS⟩ Tryz.f181.results.toList yBI yjN yo2 x=yrD x.1:=by kernel_rfl
theorem yMa:ConOk Tryz.prog 181 ⟨yjN,yo2,fun x=>yrD x.1⟩:=zkh (yHM) Tryz.func181 (by kernel_rfl) (by kernel_rfl) Tryz.ntmps181.symm (by decide) (fun x r h=>(yP9 x).trans h)
def yh (a0:Int):Bool :=
 let r1:=ya a0 0 65535
 r1
def yrc:Con:=⟨yjN,yo2,fun x=>(fun n=>some ((n,()),())) (yh x.1)⟩
theorem yOk (a0:Int):yrD a0=(fun n=>some ((n,()),())) (yh a0):=zkS (p:=fun (n:Bool)=>((n,()),())) rfl
theorem yA6:ConOk Tryz.prog 181 yrc:=(yMa).mono (fun x r _ h=>(yOk x.1).trans h)
end
section
def yhO:Code:=(Tryz.f225.body).getD .skip
def ymL:Env:=zki TT [(181,yrc)] []
theorem yFx:FrOk Tryz.prog ⟨ymL,16,fun _=>none⟩ yhO:=zkp yb yc ⟨yA6,trivial⟩
def ywm:Nat→Option Seg:=fun _=>none
def ycc:Shape:=⟨[(0,false,[.br tI]),(3,false,[.int .i64])],[],[]⟩
def yg5:Shape:=⟨[(0,false,[.br tI]),(3,false,[.ci .i64 0])],[],[]⟩
def ygY:Shape:=⟨[],[],[]⟩
def yhi:Shape:=⟨[(2,false,[.bool])],[],[]⟩
def ymw (v0:List Int) (v1:Int):Option ((ycc).X ⊕ ((ygY).X ⊕ (yhi).X)) :=
 bif (ltb v1 (v0.length:Int)) then
 bif (inb v1 v0.length) then
 let r2:=yh (nth v0 v1 0)
 bif (!r2) then
 some (.inr (.inr (((false,()),()),(),())))
 else
 some (.inl (((v0,()),((IntKind.i64.wrap (v1+1)),()),()),(),()))
 else none
 else
 some (.inr (.inl ((),(),())))
def ya4 (x:(ycc).X):=ymw x.1.1.1 x.1.2.1.1
def ytj (x:(yg5).X):(ycc).X:=(((x.1.1.1,()),(0,()),()),(),())
def yuJ:Code:=(zdI yhO 64 52).getD .skip
theorem yEX:zdI yhO 64 13=some (.block 0 (.loop yuJ)):=by kernel_rfl
theorem yGs (x:(ycc).X):zg7 ⟨ymL,16,ywm⟩ 0 yuJ 52 ycc ygY yhi x=ya4 x:=by kernel_rfl
def ytB (x:(yg5).X):Nat:=18446744073709551616
def ynI (x:(yg5).X):Option ((ygY).X ⊕ (yhi).X):=zr ya4 (ytB x) (ytj x)
def ytZ:Seg:=⟨yg5,ygY,yhi,ynI⟩
def ywn:Nat→Option Seg:=fun q=>bif Nat.beq q 13 then some ytZ else ywm q
theorem yFy:FrOk Tryz.prog ⟨ymL,16,ywn⟩ yhO:=(yFx).loop (sg:=ytZ) ycc ytj (by decide) yEX ya4 ytB (by decide) (fun _=>rfl) (fun x r _ h=>h) yGs
abbrev yes:List Par:= [.rd tL]
abbrev ym6:List OT:= [⟨false,tB,.fz⟩]
def yjm (a0:List Int):Option (ResD ym6×MutD yes) :=
 zjw (ynI (((a0,()),((),()),()),(),())) (fun y2 =>
 some ((true,()),())) (fun y2 =>
 some ((y2.1.1.1,()),()))
theorem yNF (x:InD yes):zjH ⟨ymL,16,ywn⟩ Tryz.f225.results.toList yhO yes ym6 x=yjm x.1:=by kernel_rfl
theorem yI3:ConOk Tryz.prog 225 ⟨yes,ym6,fun x=>yjm x.1⟩:=zkh (yFy) Tryz.func225 (by kernel_rfl) (by kernel_rfl) Tryz.ntmps225.symm (by decide) (fun x r h=>(yNF x).trans h)
def yy (a0:List Int):Bool:=a0.all yh
theorem yLI (a0:List Int) (hk:zi9 yes (a0,())):yjm a0=(fun n=>some ((n,()),())) (yy a0):=by
 have hb:a0.length * 8≤2 ^ 47:=hk.1.1
 have hl:ynI (((a0,()),((),()),()),(),())=some (bif a0.all yh then .inl ((),(),()) else .inr (((false,()),()),(),())) :=
  zjS (step:=ya4) a0 0 (fun i=>(((a0,()),((i:Int),()),()),(),())) yh _ _ (fun i hi=>by
   simp only [ya4,ymw,zkO hi,zjW,zjI (show (i:Int) < a0.length by omega),cond_true,wr (show -9223372036854775808≤(i:Int)+1 by omega) (by omega),Int.natCast_add,Int.natCast_one]
   cases yh (a0.getD i 0)<;>rfl) (by simp only [ya4,ymw,zkm (Int.le_refl _),cond_false]) _ (by show _ < 18446744073709551616; omega)
 unfold yjm yy
 rw [hl]
 cases a0.all yh<;>rfl
def yeU:Con:=⟨yes,ym6,fun x=>(fun n=>some ((n,()),())) (yy x.1)⟩
theorem yk3:ConOk Tryz.prog 225 yeU:=(yI3).mono (fun x r hk h=>(yLI x.1 hk).trans h)
end
section
def yCT:Code:=(Tryz.f269.body).getD .skip
def yDe:Env:=zki TT [(225,yeU)] []
theorem yLc:FrOk Tryz.prog ⟨yDe,10,fun _=>none⟩ yCT:=zkp yb yc ⟨yk3,trivial⟩
def yNg:Nat→Option Seg:=fun _=>none
abbrev ylT:List Par:= [.rd tL]
abbrev yq3:List OT:= [⟨false,tB,.fz⟩]
def ysC (a0:List Int):Option (ResD yq3×MutD ylT) :=
 bif (leb (a0.length:Int) 12) then
 let r1:=yy a0
 some ((r1,()),())
 else
 some ((false,()),())
theorem yRI (x:InD ylT):zjH ⟨yDe,10,yNg⟩ Tryz.f269.results.toList yCT ylT yq3 x=ysC x.1:=by kernel_rfl
theorem yOT:ConOk Tryz.prog 269 ⟨ylT,yq3,fun x=>ysC x.1⟩:=zkh (yLc) Tryz.func269 (by kernel_rfl) (by kernel_rfl) Tryz.ntmps269.symm (by decide) (fun x r h=>(yRI x).trans h)
def yis (a0:List Int):Bool :=
 bif (leb (a0.length:Int) 12) then
 let r1:=yy a0
 r1
 else
 false
def yAK:Con:=⟨ylT,yq3,fun x=>(fun n=>some ((n,()),())) (yis x.1)⟩
theorem yQK (a0:List Int):ysC a0=(fun n=>some ((n,()),())) (yis a0):=zkS (p:=fun (n:Bool)=>((n,()),())) (zkx (p:=fun (n:Bool)=>((n,()),())) rfl rfl)
theorem yRb:ConOk Tryz.prog 269 yAK:=(yOT).mono (fun x r _ h=>(yQK x.1).trans h)
theorem yGI:yis=ybO:=funext fun s=>by
 unfold yis ybO yy
 rw [show yh=isW from funext fun x=>by unfold yh; rw [ydr]; rfl]
 cases leb (s.length:Int) 12<;>rfl
end
end
end Go.Tf
