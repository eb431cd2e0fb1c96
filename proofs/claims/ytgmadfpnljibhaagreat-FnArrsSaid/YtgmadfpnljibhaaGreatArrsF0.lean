/- Functions of the program, and what they come to. -/
import Derived.Test.YtgmadfpnljibhaaGreatArrsTt
namespace Go.Tf
noncomputable section
open Go.Proofs
set_option synthInstance.maxHeartbeats 400000
set_option synthInstance.maxSize 10000
set_option linter.unusedVariables false
set_option linter.unusedSimpArgs false
set_option maxRecDepth 100000
section
def yRe:Code:=(Tryz.f12.body).getD .skip
def yRG:Env:=zj2 TT [] []
theorem yYA:FrOk Tryz.prog ⟨yRG,6,fun _=>none⟩ yRe:=zj6 yc yd trivial
def yZm:Nat→Option Seg:=fun _=>none
abbrev yuy:List Par:= [.rd tYs]
abbrev yAB:List OT:= [⟨false,tB,.fz⟩]
def yCH (a0:List Int):Option (ResD yAB×MutD yuy) :=
 some (((ltb 1048576 (a0.length:Int)),()),())
theorem y02 (x:InD yuy):zjx ⟨yRG,6,yZm⟩ Tryz.f12.results.toList yRe yuy yAB x=yCH x.1:=by kernel_rfl
theorem y0h:ConOk Tryz.prog 12 ⟨yuy,yAB,fun x=>yCH x.1⟩:=zj1 (yYA) Tryz.func12 (by kernel_rfl) (by kernel_rfl) Tryz.ntmps12.symm (by decide) (fun x r h=>(y02 x).trans h)
def yvB (a0:List Int):Bool :=
 (ltb 1048576 (a0.length:Int))
def yJ5:Con:=⟨yuy,yAB,fun x=>(fun n=>some ((n,()),())) (yvB x.1)⟩
theorem y0F (a0:List Int):yCH a0=(fun n=>some ((n,()),())) (yvB a0):=zkp (p:=fun (n:Bool)=>((n,()),())) rfl
theorem y0G:ConOk Tryz.prog 12 yJ5:=(y0h).mono (fun x r _ h=>(y0F x.1).trans h)
def yW {α:Type} (p:α→Bool) (l:List α):Int:=bif l.any p then ((l.takeWhile (fun x=> !p x)).length:Int) else -1
theorem yXG {α:Type} (p:α→Bool):yW p []= -1:=rfl
theorem yAJ {α:Type} (p:α→Bool) (x:α) (l:List α):yW p (x::l)=bif p x then 0 else bif leb 0 (yW p l) then yW p l+1 else -1:=by
 unfold yW
 rw [List.any_cons,List.takeWhile_cons]
 cases p x
 ·cases l.any p
  ·rfl
  ·simp only [Bool.false_or,Bool.not_false,if_true,cond_true,cond_false,List.length_cons]
   rw [zkw (show (0:Int)≤((l.takeWhile (fun x=> !p x)).length:Int) by omega),cond_true]; omega
 ·simp
theorem ytc {α:Type} {p:α→Bool} {d:α}: ∀ {l:List α},leb 0 (yW p l)=true→inb (yW p l) l.length=true∧p (nth l (yW p l) d)=true
 | [],h=>by rw [yXG]at h; cases h
 | x::l,h=>by
  rw [yAJ]at h ⊢
  cases hx:p x
  ·rw [hx]at h
   cases hl:leb 0 (yW p l)
   ·rw [hl]at h; cases h
   ·obtain ⟨h1,h2⟩:=ytc (d:=d) hl
    have h3:=zjD.1 h1
    have h4:=zjE.1 hl
    simp only [cond_false,cond_true,List.length_cons]
    refine ⟨zjD.2 (by omega),?_⟩
    unfold nth at h2 ⊢
    rw [show (yW p l+1).toNat=(yW p l).toNat+1 by omega,List.getD_cons_succ]
    exact h2
  ·simp only [cond_true,List.length_cons]
   refine ⟨zjD.2 (by omega),?_⟩
   exact hx
theorem yKL {A B α:Type} {step:A→Option (A ⊕ B)} (l:List α) (d:α) (f:Nat→A) (p:α→Bool) (b:Int→B) (c:B)
  (h: ∀ i,i < l.length→step (f i)=some (bif p (l.getD i d) then .inr (b i) else .inl (f (i+1)))) (e:step (f l.length)=some (.inr c)) (fuel:Nat) (hf:l.length < fuel) :
  zz step fuel (f 0)=some (bif leb 0 (yW p l) then b (yW p l) else c):=by
 have: ∀ (t q:List α) (fuel:Nat),q++t=l→t.length < fuel→zz step fuel (f q.length)=some (bif leb 0 (yW p t) then b (q.length+yW p t) else c):=by
  intro t
  induction t with
  | nil =>
   intro q fuel hq hf
   obtain ⟨fuel,rfl⟩: ∃ m,fuel=m+1:=⟨fuel - 1,by omega⟩
   rw [List.append_nil]at hq
   subst hq
   simp only [zz,e]; rfl
  | cons x t ih =>
   intro q fuel hq hf
   obtain ⟨fuel,rfl⟩: ∃ m,fuel=m+1:=⟨fuel - 1,by omega⟩
   have hx:l.getD q.length d=x:=by
    subst hq
    rw [zkd (by simp)]; simp
   have hs:=h q.length (by rw [← hq]; simp)
   rw [hx]at hs
   rw [yAJ]
   cases hp:p x
   ·rw [hp]at hs
    have:=ih (q++ [x]) fuel (by rw [← hq]; simp) (by simp at hf; omega)
    simp only [List.length_append,List.length_cons,List.length_nil]at this
    simp only [zz,hs,cond_false]
    rw [show q.length+1=q.length+(0+1) by omega,this]
    cases hl:leb 0 (yW p t)
    ·rfl
    ·have:=zjE.1 hl
     rw [cond_true,cond_true,zkw (show 0≤yW p t+1 by omega),cond_true]
     congr 2; omega
   ·rw [hp]at hs
    simp only [zz,hs,cond_true]
    rw [zkw (Int.le_refl 0),cond_true,Int.add_zero]
 have:=this l [] fuel rfl hf
 simpa using this
theorem yqA {α β:Type} (f:α→β): ∀ (l:List α) (s:List β),l.foldl (fun s i=>s++ [f i]) s=s++l.map f
 | [],s=>by simp
 | x::l,s=>by rw [List.foldl_cons,yqA f l]; simp
theorem yB2 {α:Type} (l:List α):l.foldl (fun s i=>s++ [i]) []=l:=by
 have:=yqA id l []
 simpa using this
theorem y1H {α:Type} (l:List α) (d:α) {i:Nat} (h:i < l.length):l.take i++ [nth l i d]=l.take (i+1):=by rw [zkm,zkd h,List.take_append_getElem h]
def ybV (e:dW) (s:Bool×List dW) (x:dW):Bool×List dW:=(s.1||leb e.1 x.1,(bif !s.1&&leb e.1 x.1 then s.2++ [e] else s.2)++(bif x.1 !=e.1 then [x] else []))
def yLl (l:List dW) (e:dW):List dW:=bif (l.foldl (ybV e) (false,[])).1 then (l.foldl (ybV e) (false,[])).2 else (l.foldl (ybV e) (false,[])).2++ [e]
def yHk (a:dA) (l:List dW):dA:=(a.1,a.2.1,a.2.2.1,a.2.2.2.1,a.2.2.2.2.1,a.2.2.2.2.2.1,a.2.2.2.2.2.2.1,a.2.2.2.2.2.2.2.1,l,a.2.2.2.2.2.2.2.2.2)
abbrev noMem:dM:=([],[],false,[])
def isW (x:Int):Bool:=leb 0 x&&leb x 65535
def yS (s:List Int):Bool:=leb (s.length:Int) 12&&s.all isW
theorem yLD {x:Int}:isW x=true↔0≤x∧x≤65535:=by simp [isW,zjE]
theorem y1F {s:List Int}:yS s=true↔s.length≤12∧ ∀ x∈s,0≤x∧x≤65535:=by
 simp only [yS,Bool.and_eq_true,zjE,List.all_eq_true,yLD]
 constructor
 ·rintro ⟨h1,h2⟩; exact ⟨by omega,h2⟩
 ·rintro ⟨h1,h2⟩; exact ⟨by omega,h2⟩
theorem y0L: ∀ {l:List Int},l.Pairwise (· < ·)↔ ∀ i,i+1 < l.length→l.getD i 0 < l.getD (i+1) 0
 | []=>by simp
 | [x]=>by simp
 | x::y::l=>by
  have ih:=y0L (l:=y::l)
  constructor
  ·intro h i hi
   cases h with
   | cons h1 h2 =>
    cases i with
    | zero=>exact h1 y List.mem_cons_self
    | succ i=>exact ih.1 h2 i (by simpa using hi)
  ·intro h
   have h2:(y::l).Pairwise (· < ·):=ih.2 fun i hi=>h (i+1) (by simpa using hi)
   refine .cons (fun z hz=> ?_) h2
   have h3:x < y:=h 0 (by simp)
   rcases List.mem_cons.1 hz with rfl | hz
   ·exact h3
   ·cases h2 with
    | cons h4 _=>exact Int.lt_trans h3 (h4 z hz)
def yqw (n:Nat) (l:List Int):Bool:=l.all (fun x=>inb x n)&&decide (l.Pairwise (· < ·))
def yrL (n:Nat) (w:dW):Bool:=inb w.1 n&&yS w.2
def yq (m:dM):Bool:=m.1.all yS&&m.2.1.all (yrL m.1.length)&&yqw m.1.length m.2.2.2&&leb 1 (m.1.length:Int)&&leb (m.1.length:Int) 20&&leb (m.2.1.length:Int) 60
def yD3 (n:Nat) (l:List Int) (i:Nat):Bool:= !(inb (l.getD i 0) n)||(decide (0 < i)&&leb (l.getD i 0) (l.getD (i - 1) 0))
theorem yXv (n:Nat) (l:List Int):(List.range l.length).any (yD3 n l)= !(yqw n l):=by
 rw [Bool.eq_iff_iff,List.any_eq_true,Bool.not_eq_true',yqw,Bool.and_eq_false_iff,decide_eq_false_iff_not,y0L,List.all_eq_false]
 simp only [List.mem_range,yD3,Bool.or_eq_true,Bool.not_eq_true',Bool.and_eq_true,decide_eq_true_eq,zjE]
 constructor
 ·rintro ⟨i,hi,h | ⟨h1,h2⟩⟩
  ·exact .inl ⟨l[i],List.getElem_mem hi,by rw [zkd hi]at h; simp [h]⟩
  ·refine .inr fun h3=> ?_
   have:=h3 (i - 1) (by omega)
   rw [show i - 1+1=i by omega]at this
   omega
 ·rintro (⟨x,hx,h⟩ | h)
  ·obtain ⟨i,hi,rfl⟩:=List.getElem_of_mem hx
   exact ⟨i,hi,.inl (by rw [zkd hi]; simpa using h)⟩
  ·refine Classical.byContradiction fun hc=>h fun i hi=> ?_
   refine Classical.byContradiction fun h4=>hc ⟨i+1,hi,.inr ⟨by omega,?_⟩⟩
   rw [Nat.add_sub_cancel]; omega
def yCq (n:Int) (c:List dW) (s:List Int):List Int:=c.foldl (fun s w=>bif w.1==n then w.2 else s) s
def yqx (m:dM) (n:Int):Bool:=yq m&&(!m.2.2.1&&(inb n m.1.length&& !(m.2.2.2.any (· ==n))))
def yU (m:dM) (n:Int):List Int×Bool:=bif yqx m n then (yCq n m.2.1 (nth m.1 n []),true) else ([],false)
theorem yHf {P:List Int→Prop} {n:Int}: ∀ {c:List dW} {s:List Int},P s→(∀ w∈c,P w.2)→P (yCq n c s)
 | [],_,h,_=>h
 | w::c,s,h,hc=>yHf (c:=c) (zkk (hc w List.mem_cons_self) h) (fun x hx=>hc x (List.mem_cons_of_mem _ hx))
theorem yAP {α:Type} {P:α→Prop} {l:List α} {i:Int} {d:α} (h:inb i l.length=true) (hl: ∀ x∈l,P x):P (nth l i d):=by
 obtain ⟨h1,h2⟩:=zjD.1 h
 unfold nth
 rw [zkd (show i.toNat < l.length by omega)]
 exact hl _ (List.getElem_mem _)
theorem yLC {α:Type} {p:α→Bool} {l:List α} (h:leb 0 (yW p l)=false):yW p l= -1:=by
 unfold yW at h ⊢
 cases ha:l.any p
 ·rfl
 ·rw [ha,cond_true,zkw (show (0:Int)≤((l.takeWhile (fun x=> !p x)).length:Int) by omega)] at h; cases h
theorem yXH {α:Type} {p:α→Bool}: ∀ {l:List α},leb 0 (yW p l)=true→(l.take ((yW p l).toNat+1)).filter (fun x=> !p x)=l.take (yW p l).toNat
 | [],h=>by rw [yXG]at h; cases h
 | x::l,h=>by
  rw [yAJ]at h ⊢
  cases hx:p x
  ·rw [hx]at h
   cases hl:leb 0 (yW p l)
   ·rw [hl]at h; cases h
   ·have h4:=zjE.1 hl
    simp only [cond_false,cond_true]
    rw [show (yW p l+1).toNat=(yW p l).toNat+1 by omega,List.take_succ_cons,List.take_succ_cons,List.filter_cons,hx,yXH hl]; rfl
  ·simp only [cond_true]
   show List.filter (fun x=> !p x) [x]= []
   rw [List.filter_cons,hx]; rfl
theorem y14 {α:Type} {p:α→Bool} {l:List α} (h:leb 0 (yW p l)=false):l.filter (fun x=> !p x)=l:=by
 rw [List.filter_eq_self]
 intro x hx
 unfold yW at h
 cases ha:l.any p
 ·have:=List.any_eq_false.1 ha x hx
  simpa using this
 ·rw [ha,cond_true,zkw (show (0:Int)≤((l.takeWhile (fun x=> !p x)).length:Int) by omega)] at h; cases h
def yhz (a:dA):dA:=(a.1,a.2.1,a.2.2.1,a.2.2.2.1,a.2.2.2.2.1,IntKind.i64.wrap (a.2.2.2.2.2.1+1),a.2.2.2.2.2.2)
def dataAt (s:Int):Int:=bif leb 0 s&&leb s 1099511627776 then s+6 else -1
def yc3 (a:dA) (m s:Int):Bool:=inb m a.2.2.1.length&&(!(nth a.2.2.1 m noMem).2.2.1&&(m !=a.2.2.2.1||ltb s a.2.2.2.2.1))
def ycG (a:dA) (m s:Int):List Int×Bool:=yU (nth a.2.2.1 m noMem) (dataAt s)
def ym (a:dA) (m s:Int):Bool:=yc3 a m s&&((ycG a m s).2&&((ycG a m s).1.length:Int)==1)
def yjr (a:dA) (m s:Int):Int:=bif ym a m s then nth (ycG a m s).1 0 0 else 0
def xw (a b:Int):Int:=IntKind.i64.wrap ((BitVec.ofInt IntKind.i64.bits a ^^^ BitVec.ofInt IntKind.i64.bits b).toNat:Int)
def xorOf (l:List Int):Int:=l.foldl xw 0
def yBh (a:dA) (s:Int):Bool:=(List.range a.2.2.1.length).all (fun (i:Nat)=>ym a i s)
def yga (a:dA) (s:Int):Int×Bool:=bif yBh a s then (xorOf ((List.range a.2.2.1.length).map (fun (i:Nat)=>yjr a i s)),true) else (0,false)
def yZk (a:dA):Bool:=(List.range (min a.2.1.2.toNat 20)).all (fun (s:Nat)=> !((yga a s).2&&(yga a s).1 !=0))
def bv (x:Int):BitVec 64:=BitVec.ofInt 64 x
theorem yZl (a b:Int):xw a b=(bv a ^^^ bv b).toInt:=by
 show IntKind.i64.wrap ((bv a ^^^ bv b).toNat:Int)=_
 rw [IntKind.wrap_i64,BitVec.toInt_eq_toNat_cond]
 have:=(bv a ^^^ bv b).isLt
 split<;>omega
theorem yBj (v:BitVec 64):bv v.toInt=v:=by unfold bv; simp
theorem y2h {x:Int} (h: -9223372036854775808≤x) (h2:x≤9223372036854775807):(bv x).toInt=x:=by
 unfold bv
 rw [BitVec.toInt_ofInt,Int.bmod_def]
 simp only [Nat.reducePow]at *
 omega
def yhp (l:List Int):BitVec 64:=l.foldl (fun v x=>v ^^^ bv x) 0#64
theorem yxo (l:List Int):xorOf l=(yhp l).toInt:=by
 have: ∀ (l:List Int) (v:BitVec 64),l.foldl xw v.toInt=(l.foldl (fun v x=>v ^^^ bv x) v).toInt:=by
  intro l
  induction l with
  | nil=>intro _; rfl
  | cons x l ih =>
   intro v
   rw [List.foldl_cons,List.foldl_cons,yZl,yBj,ih]
 have h:=this l 0#64
 rwa [show (0#64:BitVec 64).toInt=0 from by decide]at h
theorem y1S (l:List Int) (x:Int):yhp (l++ [x])=yhp l ^^^ bv x:=by unfold yhp; rw [List.foldl_append]; rfl
theorem y2v {i:Int} {n:Nat} (h: ¬ (0≤i∧i < (n:Int))):inb i n=false:=by
 cases e:inb i n
 ·rfl
 ·exact absurd (zjD.1 e) h
def ypB (l:List Int) (k:Int):Int:=bif inb k l.length then xw (xorOf l) (nth l k 0) else xorOf l
theorem yXS (u v:BitVec 64):u ^^^ v ^^^ v=u:=by rw [BitVec.xor_assoc,BitVec.xor_self,BitVec.xor_zero]
theorem y1x (l:List Int) (k:Int):(List.range l.length).foldl (fun n (i:Nat)=>bif (i:Int) !=k then xw n (nth l i 0) else n) 0=ypB l k:=by
 have: ∀ n,n≤l.length→(List.range n).foldl (fun n (i:Nat)=>bif (i:Int) !=k then xw n (nth l i 0) else n) 0=(bif inb k n then yhp (l.take n) ^^^ bv (nth l k 0) else yhp (l.take n)).toInt:=by
  intro n
  induction n with
  | zero =>
   intro _
   rw [y2v (show ¬ (0≤k∧k < ((0:Nat):Int)) by omega)]
   rfl
  | succ n ih =>
   intro hn
   rw [List.range_succ,List.foldl_append,List.foldl_cons,List.foldl_nil,ih (by omega),← y1H l 0 (show n < l.length by omega),y1S]
   by_cases hk:(n:Int)=k
   ·subst hk
    rw [show ((n:Int) !=n)=false by simp,cond_false,y2v (show ¬ (0≤(n:Int)∧(n:Int) < (n:Int)) by omega),show inb (n:Int) (n+1)=true from zkl (Nat.lt_succ_self n),cond_false,cond_true,yXS]
   ·rw [show ((n:Int) !=k)=true from bne_iff_ne.2 hk,cond_true,show inb k (n+1)=inb k n by rw [Bool.eq_iff_iff,zjD,zjD]; omega,yZl,yBj]
    cases inb k n
    ·rfl
    ·rw [cond_true,cond_true,BitVec.xor_assoc,BitVec.xor_comm (bv (nth l k 0)),← BitVec.xor_assoc]
 rw [this l.length (Nat.le_refl _),List.take_length]
 unfold ypB
 rw [yZl,yxo,yBj]
 cases inb k l.length<;>rfl
theorem y1w {l:List Int} {k:Int} (h:inb k l.length=true) (h0:nth l k 0=0):ypB l k=xorOf l:=by
 unfold ypB
 rw [h,h0,cond_true,yZl,yxo,yBj,show bv 0=0#64 by decide,BitVec.xor_zero]
abbrev yZ:dA:=(0,(0,0),[],0,0,0,0,0,[],0,false,false)
def yfZ (b:Nat→Bool) (c:List dW) (l:List (List Int)) (i:Nat):List (List Int):=bif b i then l.set (nth c i (0,[])).1.toNat (nth c i (0,[])).2 else l
def yde (b:Nat→Bool) (c:List dW) (l:List (List Int)):List (List Int):=(List.range c.length).foldl (yfZ b c) l
theorem ya9 {m:dM} (h:yq m=true):m.1.all yS=true∧m.2.1.all (yrL m.1.length)=true∧yqw m.1.length m.2.2.2=true∧1≤m.1.length∧m.1.length≤20∧m.2.1.length≤60:=by
 simp only [yq,Bool.and_eq_true,zjE]at h
 exact ⟨h.1.1.1.1.1,h.1.1.1.1.2,h.1.1.1.2,by omega,by omega,by omega⟩
theorem yZ6 {m:dM} (h:yq m=true) {i:Nat} (hi:i < m.2.1.length):inb (nth m.2.1 i (0,[])).1 m.1.length=true∧yS (nth m.2.1 i (0,[])).2=true:=by
 have h1:=List.all_eq_true.1 (ya9 h).2.1 m.2.1[i] (List.getElem_mem hi)
 rw [zkm,zkd hi]
 exact Bool.and_eq_true_iff.1 h1
theorem yG4 {b:Nat→Bool} {c:List dW} {l:List (List Int)} {i:Nat}:(yfZ b c l i).length=l.length:=by
 unfold yfZ; cases b i
 ·rfl
 ·exact List.length_set
theorem ySr {α β:Type} (P:β→Prop) (f:β→α→β) (h: ∀ s x,P s→P (f s x)): ∀ (l:List α) (s:β),P s→P (l.foldl f s)
 | [],_,hs=>hs
 | x::l,s,hs=>ySr P f h l (f s x) (h s x hs)
theorem yxy {b:Nat→Bool} {c:List dW} {l:List (List Int)}:(yde b c l).length=l.length :=
 ySr (fun x=>x.length=l.length) _ (fun s x hs=>by rw [yG4]; exact hs) _ l rfl
theorem y0D {P:List Int→Prop} {b:Nat→Bool} {c:List dW} {l:List (List Int)} (hl: ∀ x∈l,P x) (hc: ∀ w∈c,P w.2): ∀ x∈yde b c l,P x:=by
 have: ∀ (n:Nat),n≤c.length→ ∀ x∈(List.range n).foldl (yfZ b c) l,P x:=by
  intro n
  induction n with
  | zero=>intro _; exact hl
  | succ n ih =>
   intro hn x hx
   rw [List.range_succ,List.foldl_append,List.foldl_cons,List.foldl_nil,yfZ]at hx
   cases hb:b n
   ·rw [hb]at hx; exact ih (by omega) x hx
   ·rw [hb,cond_true]at hx
    rcases List.mem_or_eq_of_mem_set hx with h | h
    ·exact ih (by omega) x h
    ·rw [h,zkm,zkd (show n < c.length by omega)]
     exact hc _ (List.getElem_mem _)
 exact this _ (Nat.le_refl _)
def yjl (m:dM) (n:Int) (s:List Int):Bool:=yq m&&(!m.2.2.1&&(inb n m.1.length&&(yS s&&ltb (m.2.1.length:Int) 60)))
def yXt (l:List Int) (n:Int):List Int:=l.filter (· !=n)
def ya8 (m:dM) (n:Int) (s:List Int):dM×Bool:=bif yjl m n s then ((m.1,m.2.1++ [(n,s)],m.2.2.1,yXt m.2.2.2 n),true) else (m,false)
def ybx (m:dM):dM:=bif yq m&& !m.2.2.1 then (yde (fun _=>true) m.2.1 m.1,[],m.2.2.1,m.2.2.2) else m
def yAO (m:dM):dM:=(m.1,[],true,m.2.2.2)
end
section
def yh0:Code:=(Tryz.f36.body).getD .skip
def ynH:Env:=zj2 TT [] []
theorem yKu:FrOk Tryz.prog ⟨ynH,26,fun _=>none⟩ yh0:=zj6 yc yd trivial
def yzi:Nat→Option Seg:=fun _=>none
def ych:Shape:=⟨[(0,false,[.br tI]),(1,false,[.br tI]),(5,false,[.int .i64])],[],[]⟩
def yix:Shape:=⟨[(0,false,[.br tI]),(1,false,[.br tI]),(5,false,[.ci .i64 0])],[],[]⟩
def yih:Shape:=⟨[],[],[]⟩
def yiU:Shape:=⟨[(4,false,[.bool])],[],[]⟩
def ynz (v0 v1:List Int) (v2:Int):Option ((ych).X ⊕ ((yih).X ⊕ (yiU).X)) :=
 bif (ltb v2 (v0.length:Int)) then
 bif (inb v2 v0.length) then
 bif (inb v2 v1.length) then
 bif ((nth v0 v2 0) !=(nth v1 v2 0)) then
 some (.inr (.inr (((false,()),()),(),())))
 else
 some (.inl (((v0,()),(v1,()),((IntKind.i64.wrap (v2+1)),()),()),(),()))
 else none
 else none
 else
 some (.inr (.inl ((),(),())))
def ybi (x:(ych).X):=ynz x.1.1.1 x.1.2.1.1 x.1.2.2.1.1
def ywn (x:(yix).X):(ych).X:=(((x.1.1.1,()),(x.1.2.1.1,()),(0,()),()),(),())
def yxO:Code:=(zdD yh0 64 116).getD .skip
theorem yJ0:zdD yh0 64 29=some (.block 0 (.loop yxO)):=by kernel_rfl
theorem yLq (x:(ych).X):zg0 ⟨ynH,26,yzi⟩ 0 yxO 116 ych yih yiU x=ybi x:=by kernel_rfl
def ywv (x:(yix).X):Nat:=18446744073709551616
def yo9 (x:(yix).X):Option ((yih).X ⊕ (yiU).X):=zz ybi (ywv x) (ywn x)
def ywI:Seg:=⟨yix,yih,yiU,yo9⟩
def yzj:Nat→Option Seg:=fun q=>bif Nat.beq q 29 then some ywI else yzi q
theorem yKv:FrOk Tryz.prog ⟨ynH,26,yzj⟩ yh0:=(yKu).loop (sg:=ywI) ych ywn (by decide) yJ0 ybi ywv (by decide) (fun _=>rfl) (fun x r _ h=>h) yLq
abbrev yeZ:List Par:= [.rd tL,.rd tL]
abbrev yn0:List OT:= [⟨false,tB,.fz⟩]
def yj1 (a0 a1:List Int):Option (ResD yn0×MutD yeZ) :=
 bif ((a0.length:Int) !=(a1.length:Int)) then
 some ((false,()),())
 else
 zkh (yo9 (((a0,()),(a1,()),((),()),()),(),())) (fun y0 =>
 some ((true,()),())) (fun y0 =>
 some ((y0.1.1.1,()),()))
theorem ySf (x:InD yeZ):zjx ⟨ynH,26,yzj⟩ Tryz.f36.results.toList yh0 yeZ yn0 x=yj1 x.1 x.2.1:=by kernel_rfl
theorem yNo:ConOk Tryz.prog 36 ⟨yeZ,yn0,fun x=>yj1 x.1 x.2.1⟩:=zj1 (yKv) Tryz.func36 (by kernel_rfl) (by kernel_rfl) Tryz.ntmps36.symm (by decide) (fun x r h=>(ySf x).trans h)
def yah (a0 a1:List Int):Bool:=decide (a0=a1)
theorem yQd (a0 a1:List Int) (hk:zi2 yeZ (a0,a1,())):yj1 a0 a1=(fun n=>some ((n,()),())) (yah a0 a1):=by
 have hb:a0.length * 8≤2 ^ 47:=hk.1.1
 have hl:a0.length=a1.length→yo9 (((a0,()),(a1,()),((),()),()),(),())=some (bif (List.range a0.length).any (fun i=>a0.getD i 0 !=a1.getD i 0) then .inr (((false,()),()),(),()) else .inl ((),(),())):=fun hL =>
  ziO (step:=ybi) (fun i=>(((a0,()),(a1,()),((i:Int),()),()),(),())) a0.length (fun i=>a0.getD i 0 !=a1.getD i 0) _ _ (fun i hi=>by
   simp only [ybi,ynz,zkl hi,zkl (hL ▸ hi),zkm,zj4 (show (i:Int) < a0.length by omega),cond_true,wr (show -9223372036854775808≤(i:Int)+1 by omega) (by omega),Int.natCast_add,Int.natCast_one]
   cases (a0.getD i 0 !=a1.getD i 0)<;>rfl) (by simp only [ybi,ynz,zkx (Int.le_refl _),cond_false]) _ (by show _ < 18446744073709551616; omega)
 unfold yj1 yah
 by_cases h:a0.length=a1.length
 ·rw [show ((a0.length:Int) !=(a1.length:Int))=false by simp [h],zkt,hl h]
  by_cases e:a0=a1
  ·subst e
   have:(List.range a0.length).any (fun i=>a0.getD i 0 !=a0.getD i 0)=false:=by simp
   rw [this,decide_eq_true rfl]
   rfl
  ·have:(List.range a0.length).any (fun i=>a0.getD i 0 !=a1.getD i 0)=true:=by
    rcases Bool.eq_false_or_eq_true ((List.range a0.length).any (fun i=>a0.getD i 0 !=a1.getD i 0)) with h2 | h2
    ·exact h2
    ·refine absurd (List.ext_getElem h fun i h3 h4=> ?_) e
     rw [List.any_eq_false]at h2
     have:=h2 i (List.mem_range.2 h3)
     simpa [h3,h4] using this
   rw [this,decide_eq_false e]
   rfl
 ·rw [show ((a0.length:Int) !=(a1.length:Int))=true from bne_iff_ne.2 (by omega),zku,decide_eq_false (fun e=>h (congrArg _ e))]
theorem ym8 (a:List Int):yah a a=true:=by unfold yah; simp
def yjL:Con:=⟨yeZ,yn0,fun x=>(fun n=>some ((n,()),())) (yah x.1 x.2.1)⟩
theorem ytu:ConOk Tryz.prog 36 yjL:=(yNo).mono (fun x r hk h=>(yQd x.1 x.2.1 hk).trans h)
end
section
def ygB:Code:=(Tryz.f56.body).getD .skip
def ylm:Env:=zj2 TT [(36,yjL)] []
theorem yIQ:FrOk Tryz.prog ⟨ylm,42,fun _=>none⟩ ygB:=zj6 yc yd ⟨ytu,trivial⟩
def yxE:Nat→Option Seg:=fun _=>none
def yaz:Shape:=⟨[(0,false,[.br tW]),(1,false,[.br tW]),(5,false,[.int .i64])],[],[]⟩
def ydO:Shape:=⟨[(0,false,[.br tW]),(1,false,[.br tW]),(5,false,[.ci .i64 0])],[],[]⟩
def ydH:Shape:=⟨[],[],[]⟩
def yhu:Shape:=⟨[(4,false,[.bool])],[],[]⟩
abbrev ylJ (v0 v1:List dW) (v2:Int):(yaz).X:=(((v0,()),(v1,()),(v2,()),()),(),())
abbrev yHb (v0 v1:List dW):(ydO).X:=(((v0,()),(v1,()),((),()),()),(),())
abbrev yvx  :(ydH).X:=((),(),())
def yl6 (v0 v1:List dW) (v2:Int):Option ((yaz).X ⊕ ((ydH).X ⊕ (yhu).X)) :=
 bif (ltb v2 (v0.length:Int)) then
 bif (inb v2 v0.length) then
 bif (inb v2 v1.length) then
 bif (!((nth v0 v2 (0,[])).1 !=(nth v1 v2 (0,[])).1)) then
 bif (inb v2 v0.length) then
 bif (inb v2 v1.length) then
 let r2:=yah ((nth v0 v2 (0,[])).2) ((nth v1 v2 (0,[])).2)
 bif (!r2) then
 some (.inr (.inr (((false,()),()),(),())))
 else
 some (.inl (((v0,()),(v1,()),((IntKind.i64.wrap (v2+1)),()),()),(),()))
 else none
 else none
 else
 some (.inr (.inr (((false,()),()),(),())))
 else none
 else none
 else
 some (.inr (.inl ((),(),())))
def yaS (x:(yaz).X):=yl6 x.1.1.1 x.1.2.1.1 x.1.2.2.1.1
def yvd (x:(ydO).X):(yaz).X:=(((x.1.1.1,()),(x.1.2.1.1,()),(0,()),()),(),())
def ywb:Code:=(zdD ygB 64 116).getD .skip
theorem yII:zdD ygB 64 29=some (.block 0 (.loop ywb)):=by kernel_rfl
theorem yJj (x:(yaz).X):zg0 ⟨ylm,42,yxE⟩ 0 ywb 116 yaz ydH yhu x=yaS x:=by kernel_rfl
def yvk (x:(ydO).X):Nat:=18446744073709551616
def ynh (x:(ydO).X):Option ((ydH).X ⊕ (yhu).X):=zz yaS (yvk x) (yvd x)
def yvZ:Seg:=⟨ydO,ydH,yhu,ynh⟩
def yxF:Nat→Option Seg:=fun q=>bif Nat.beq q 29 then some yvZ else yxE q
theorem yIR:FrOk Tryz.prog ⟨ylm,42,yxF⟩ ygB:=(yIQ).loop (sg:=yvZ) yaz yvd (by decide) yII yaS yvk (by decide) (fun _=>rfl) (fun x r _ h=>h) yJj
abbrev ygF:List Par:= [.rd tWs,.rd tWs]
abbrev yls:List OT:= [⟨false,tB,.fz⟩]
def ycq (a0 a1:List dW):Option (ResD yls×MutD ygF) :=
 bif ((a0.length:Int) !=(a1.length:Int)) then
 some ((false,()),())
 else
 zkh (ynh (((a0,()),(a1,()),((),()),()),(),())) (fun y2 =>
 some ((true,()),())) (fun y2 =>
 some ((y2.1.1.1,()),()))
theorem yOx (x:InD ygF):zjx ⟨ylm,42,yxF⟩ Tryz.f56.results.toList ygB ygF yls x=ycq x.1 x.2.1:=by kernel_rfl
theorem yLc:ConOk Tryz.prog 56 ⟨ygF,yls,fun x=>ycq x.1 x.2.1⟩:=zj1 (yIR) Tryz.func56 (by kernel_rfl) (by kernel_rfl) Tryz.ntmps56.symm (by decide) (fun x r h=>(yOx x).trans h)
def yxU:Con:=⟨ygF,yls,fun x=>ycq x.1 x.2.1⟩
theorem yNB:ConOk Tryz.prog 56 yxU:=yLc
theorem y1d (l:List dW) (h:l.length≤1000000000):ycq l l=some ((true,()),()):=by
 have l1:ynh (yHb l l)=some (.inl yvx) :=
  zj8 (step:=yaS) l.length (fun i (_:Unit)=>ylJ l l i) (fun _ _=>()) (fun _ _=>True) (fun _=> .inl yvx) (fun i s hi _=>⟨by
   simp only [yaS,ylJ,yl6,zj4 (show (i:Int) < l.length by omega),cond_true,wr (show -9223372036854775808≤(i:Int)+1 by omega) (by omega),Int.natCast_add,Int.natCast_one,Int.toNat_natCast,zkl hi,ym8,bne_self_eq_false,Bool.not_true,Bool.not_false,cond_true,cond_false],trivial⟩) (fun s _=>by simp only [yaS,ylJ,yl6,zkx (Int.le_refl _),cond_false]) () trivial 18446744073709551616 (by omega)
 unfold ycq
 rw [bne_self_eq_false,cond_false]
 exact (congrArg (fun z=>zkh z _ _) l1).trans rfl
end
section
def ycd:Code:=(Tryz.f167.body).getD .skip
def ygd:Env:=zj2 TT [(36,yjL)] []
theorem yMt:FrOk Tryz.prog ⟨ygd,93,fun _=>none⟩ ycd:=zj6 yc yd ⟨ytu,trivial⟩
def yA3:Nat→Option Seg:=fun _=>none
def ybs:Shape:=⟨[(2,false,[.ptr 0 0]),(3,false,[.ptr 64 0]),(5,false,[.int .i64])],[(0,[.br tL,.br tW,.bool,.br tI]),(64,[.br tL,.br tW,.bool,.br tI])],[]⟩
def yfR:Shape:=⟨[(2,false,[.ptr 0 0]),(3,false,[.ptr 64 0]),(5,false,[.ci .i64 0])],[(0,[.br tL,.br tW,.bool,.br tI]),(64,[.br tL,.br tW,.bool,.br tI])],[]⟩
def yfH:Shape:=⟨[(2,false,[.ptr 0 0]),(3,false,[.ptr 64 0])],[(0,[.br tL,.br tW,.bool,.br tI]),(64,[.br tL,.br tW,.bool,.br tI])],[]⟩
def yjG:Shape:=⟨[(4,false,[.bool])],[],[]⟩
abbrev ypH (v0:Int) (v1 v2:dM):(ybs).X:=((((),()),((),()),(v0,()),()),((v1.1,v1.2.1,v1.2.2.1,v1.2.2.2,()),(v2.1,v2.2.1,v2.2.2.1,v2.2.2.2,()),()),())
abbrev yKY (v0 v1:dM):(yfR).X:=((((),()),((),()),((),()),()),((v0.1,v0.2.1,v0.2.2.1,v0.2.2.2,()),(v1.1,v1.2.1,v1.2.2.1,v1.2.2.2,()),()),())
abbrev yyr (v0 v1:dM):(yfH).X:=((((),()),((),()),()),((v0.1,v0.2.1,v0.2.2.1,v0.2.2.2,()),(v1.1,v1.2.1,v1.2.2.1,v1.2.2.2,()),()),())
def yp0 (v0:Int) (v1:List (List Int)) (v2:List dW) (v3:Bool) (v4:List Int) (v5:List (List Int)) (v6:List dW) (v7:Bool) (v8:List Int):Option ((ybs).X ⊕ ((yfH).X ⊕ (yjG).X)) :=
 bif (ltb v0 (v1.length:Int)) then
 bif (inb v0 v1.length) then
 bif (inb v0 v5.length) then
 let r3:=yah (nth v1 v0 []) (nth v5 v0 [])
 bif (!r3) then
 some (.inr (.inr (((false,()),()),(),())))
 else
 some (.inl ((((),()),((),()),((IntKind.i64.wrap (v0+1)),()),()),((v1,v2,v3,v4,()),(v5,v6,v7,v8,()),()),()))
 else none
 else none
 else
 some (.inr (.inl ((((),()),((),()),()),((v1,v2,v3,v4,()),(v5,v6,v7,v8,()),()),())))
def ybL (x:(ybs).X):=yp0 x.1.2.2.1.1 x.2.1.1.1 x.2.1.1.2.1 x.2.1.1.2.2.1 x.2.1.1.2.2.2.1 x.2.1.2.1.1 x.2.1.2.1.2.1 x.2.1.2.1.2.2.1 x.2.1.2.1.2.2.2.1
def yx4 (x:(yfR).X):(ybs).X:=((((),()),((),()),(0,()),()),((x.2.1.1.1,x.2.1.1.2.1,x.2.1.1.2.2.1,x.2.1.1.2.2.2.1,()),(x.2.1.2.1.1,x.2.1.2.1.2.1,x.2.1.2.1.2.2.1,x.2.1.2.1.2.2.2.1,()),()),())
def yzB:Code:=(zdD ycd 64 116).getD .skip
theorem yL2:zdD ycd 64 29=some (.block 0 (.loop yzB)):=by kernel_rfl
theorem yNK (x:(ybs).X):zg0 ⟨ygd,93,yA3⟩ 0 yzB 116 ybs yfH yjG x=ybL x:=by kernel_rfl
def yyh (x:(yfR).X):Nat:=18446744073709551616
def yq9 (x:(yfR).X):Option ((yfH).X ⊕ (yjG).X):=zz ybL (yyh x) (yx4 x)
def yyD:Seg:=⟨yfR,yfH,yjG,yq9⟩
def ysT:Nat→Option Seg:=fun q=>bif Nat.beq q 29 then some yyD else yA3 q
theorem yMu:FrOk Tryz.prog ⟨ygd,93,ysT⟩ ycd:=(yMt).loop (sg:=yyD) ybs yx4 (by decide) yL2 ybL yyh (by decide) (fun _=>rfl) (fun x r _ h=>h) yNK
def ybt:Shape:=⟨[(2,false,[.ptr 0 0]),(3,false,[.ptr 64 0]),(6,false,[.int .i64])],[(0,[.br tL,.br tW,.bool,.br tI]),(64,[.br tL,.br tW,.bool,.br tI])],[]⟩
def yfS:Shape:=⟨[(2,false,[.ptr 0 0]),(3,false,[.ptr 64 0]),(6,false,[.ci .i64 0])],[(0,[.br tL,.br tW,.bool,.br tI]),(64,[.br tL,.br tW,.bool,.br tI])],[]⟩
def yfI:Shape:=⟨[],[],[]⟩
def yjH:Shape:=⟨[(4,false,[.bool])],[],[]⟩
abbrev ypI (v0:Int) (v1 v2:dM):(ybt).X:=((((),()),((),()),(v0,()),()),((v1.1,v1.2.1,v1.2.2.1,v1.2.2.2,()),(v2.1,v2.2.1,v2.2.2.1,v2.2.2.2,()),()),())
abbrev yKZ (v0 v1:dM):(yfS).X:=((((),()),((),()),((),()),()),((v0.1,v0.2.1,v0.2.2.1,v0.2.2.2,()),(v1.1,v1.2.1,v1.2.2.1,v1.2.2.2,()),()),())
abbrev yys  :(yfI).X:=((),(),())
def yp1 (v0:Int) (v1:List (List Int)) (v2:List dW) (v3:Bool) (v4:List Int) (v5:List (List Int)) (v6:List dW) (v7:Bool) (v8:List Int):Option ((ybt).X ⊕ ((yfI).X ⊕ (yjH).X)) :=
 bif (ltb v0 (v2.length:Int)) then
 bif (inb v0 v2.length) then
 bif (inb v0 v6.length) then
 bif (!((nth v2 v0 (0,[])).1 !=(nth v6 v0 (0,[])).1)) then
 bif (inb v0 v2.length) then
 bif (inb v0 v6.length) then
 let r6:=yah ((nth v2 v0 (0,[])).2) ((nth v6 v0 (0,[])).2)
 bif (!r6) then
 some (.inr (.inr (((false,()),()),(),())))
 else
 some (.inl ((((),()),((),()),((IntKind.i64.wrap (v0+1)),()),()),((v1,v2,v3,v4,()),(v5,v6,v7,v8,()),()),()))
 else none
 else none
 else
 some (.inr (.inr (((false,()),()),(),())))
 else none
 else none
 else
 some (.inr (.inl ((),(),())))
def ybM (x:(ybt).X):=yp1 x.1.2.2.1.1 x.2.1.1.1 x.2.1.1.2.1 x.2.1.1.2.2.1 x.2.1.1.2.2.2.1 x.2.1.2.1.1 x.2.1.2.1.2.1 x.2.1.2.1.2.2.1 x.2.1.2.1.2.2.2.1
def yx5 (x:(yfS).X):(ybt).X:=((((),()),((),()),(0,()),()),((x.2.1.1.1,x.2.1.1.2.1,x.2.1.1.2.2.1,x.2.1.1.2.2.2.1,()),(x.2.1.2.1.1,x.2.1.2.1.2.1,x.2.1.2.1.2.2.1,x.2.1.2.1.2.2.2.1,()),()),())
def yzC:Code:=(zdD ycd 64 244).getD .skip
theorem yL3:zdD ycd 64 61=some (.block 2 (.loop yzC)):=by kernel_rfl
theorem yNL (x:(ybt).X):zg0 ⟨ygd,93,ysT⟩ 2 yzC 244 ybt yfI yjH x=ybM x:=by kernel_rfl
def yyi (x:(yfS).X):Nat:=18446744073709551616
def yra (x:(yfS).X):Option ((yfI).X ⊕ (yjH).X):=zz ybM (yyi x) (yx5 x)
def yyE:Seg:=⟨yfS,yfI,yjH,yra⟩
def yA4:Nat→Option Seg:=fun q=>bif Nat.beq q 61 then some yyE else ysT q
theorem yMv:FrOk Tryz.prog ⟨ygd,93,yA4⟩ ycd:=(yMu).loop (sg:=yyE) ybt yx5 (by decide) yL3 ybM yyi (by decide) (fun _=>rfl) (fun x r _ h=>h) yNL
abbrev ykv:List Par:= [.rd tM,.rd tM]
abbrev yqn:List OT:= [⟨false,tB,.fz⟩]
def yd8 (a0 a1:dM):Option (ResD yqn×MutD ykv) :=
 bif (!((a0.1.length:Int) !=(a1.1.length:Int))) then
 bif (!((a0.2.1.length:Int) !=(a1.2.1.length:Int))) then
 bif (!(!(a0.2.2.1==a1.2.2.1))) then
 let r1:=yah a0.2.2.2 a1.2.2.2
 bif (!r1) then
 some ((false,()),())
 else
 zkh (yq9 ((((),()),((),()),((),()),()),((a0.1,a0.2.1,a0.2.2.1,a0.2.2.2,()),(a1.1,a1.2.1,a1.2.2.1,a1.2.2.2,()),()),())) (fun y3 =>
 zkh (yra ((((),()),((),()),((),()),()),((y3.2.1.1.1,y3.2.1.1.2.1,y3.2.1.1.2.2.1,y3.2.1.1.2.2.2.1,()),(y3.2.1.2.1.1,y3.2.1.2.1.2.1,y3.2.1.2.1.2.2.1,y3.2.1.2.1.2.2.2.1,()),()),())) (fun y6 =>
 some ((true,()),())) (fun y6 =>
 some ((y6.1.1.1,()),()))) (fun y3 =>
 some ((y3.1.1.1,()),()))
 else
 some ((false,()),())
 else
 some ((false,()),())
 else
 some ((false,()),())
theorem yVB (x:InD ykv):zjx ⟨ygd,93,yA4⟩ Tryz.f167.results.toList ycd ykv yqn x=yd8 x.1 x.2.1:=by kernel_rfl
theorem yQy:ConOk Tryz.prog 167 ⟨ykv,yqn,fun x=>yd8 x.1 x.2.1⟩:=zj1 (yMv) Tryz.func167 (by kernel_rfl) (by kernel_rfl) Tryz.ntmps167.symm (by decide) (fun x r h=>(yVB x).trans h)
def yBC:Con:=⟨ykv,yqn,fun x=>yd8 x.1 x.2.1⟩
theorem yUx:ConOk Tryz.prog 167 yBC:=yQy
theorem y2g (m:dM) (h1:m.1.length≤1000000000) (h2:m.2.1.length≤1000000000):yd8 m m=some ((true,()),()):=by
 have l1:yq9 (yKY m m)=some (.inl (yyr m m)) :=
  zj8 (step:=ybL) m.1.length (fun i (_:Unit)=>ypH i m m) (fun _ _=>()) (fun _ _=>True) (fun _=> .inl (yyr m m)) (fun i s hi _=>⟨by
   simp only [ybL,ypH,yp0,zj4 (show (i:Int) < m.1.length by omega),cond_true,wr (show -9223372036854775808≤(i:Int)+1 by omega) (by omega),Int.natCast_add,Int.natCast_one,Int.toNat_natCast,zkl hi,ym8,Bool.not_true,cond_false],trivial⟩) (fun s _=>by simp only [ybL,ypH,yp0,zkx (Int.le_refl _),cond_false]) () trivial 18446744073709551616 (by omega)
 have l2:yra (yKZ m m)=some (.inl yys) :=
  zj8 (step:=ybM) m.2.1.length (fun i (_:Unit)=>ypI i m m) (fun _ _=>()) (fun _ _=>True) (fun _=> .inl yys) (fun i s hi _=>⟨by
   simp only [ybM,ypI,yp1,zj4 (show (i:Int) < m.2.1.length by omega),cond_true,wr (show -9223372036854775808≤(i:Int)+1 by omega) (by omega),Int.natCast_add,Int.natCast_one,Int.toNat_natCast,zkl hi,ym8,bne_self_eq_false,Bool.not_true,Bool.not_false,cond_true,cond_false],trivial⟩) (fun s _=>by simp only [ybM,ypI,yp1,zkx (Int.le_refl _),cond_false]) () trivial 18446744073709551616 (by omega)
 unfold yd8
 simp only [bne_self_eq_false,beq_self_eq_true,ym8,Bool.not_true,Bool.not_false,cond_true,cond_false]
 refine (congrArg (fun z=>zkh z _ _) l1).trans ?_
 rw [zki]
 exact (congrArg (fun z=>zkh z _ _) l2).trans rfl
end
section
def yh1:Code:=(Tryz.f71.body).getD .skip
def ynI:Env:=zj2 TT [(167,yBC)] []
theorem yKw:FrOk Tryz.prog ⟨ynI,27,fun _=>none⟩ yh1:=zj6 yc yd ⟨yUx,trivial⟩
def yzk:Nat→Option Seg:=fun _=>none
def ya2:Shape:=⟨[(0,false,[.br tM]),(1,false,[.br tM]),(5,false,[.int .i64])],[],[]⟩
def yez:Shape:=⟨[(0,false,[.br tM]),(1,false,[.br tM]),(5,false,[.ci .i64 0])],[],[]⟩
def yes:Shape:=⟨[],[],[]⟩
def yiV:Shape:=⟨[(4,false,[.bool])],[],[]⟩
abbrev ynq (v0 v1:List dM) (v2:Int):(ya2).X:=(((v0,()),(v1,()),(v2,()),()),(),())
abbrev yI1 (v0 v1:List dM):(yez).X:=(((v0,()),(v1,()),((),()),()),(),())
abbrev ywC  :(yes).X:=((),(),())
def ynA (v0 v1:List dM) (v2:Int):Option ((ya2).X ⊕ ((yes).X ⊕ (yiV).X)) :=
 bif (ltb v2 (v0.length:Int)) then
 bif (inb v2 v0.length) then
 bif (inb v2 v1.length) then
 bnd (yd8 ((nth v0 v2 ([],[],false,[])).1,((nth v0 v2 ([],[],false,[])).2).1,(((nth v0 v2 ([],[],false,[])).2).2)) ((nth v1 v2 ([],[],false,[])).1,((nth v1 v2 ([],[],false,[])).2).1,(((nth v1 v2 ([],[],false,[])).2).2))) fun r2 =>
 bif (!r2.1.1) then
 some (.inr (.inr (((false,()),()),(),())))
 else
 some (.inl (((v0,()),(v1,()),((IntKind.i64.wrap (v2+1)),()),()),(),()))
 else none
 else none
 else
 some (.inr (.inl ((),(),())))
def ybj (x:(ya2).X):=ynA x.1.1.1 x.1.2.1.1 x.1.2.2.1.1
def ywo (x:(yez).X):(ya2).X:=(((x.1.1.1,()),(x.1.2.1.1,()),(0,()),()),(),())
def yxP:Code:=(zdD yh1 64 116).getD .skip
theorem yJ1:zdD yh1 64 29=some (.block 0 (.loop yxP)):=by kernel_rfl
theorem yLr (x:(ya2).X):zg0 ⟨ynI,27,yzk⟩ 0 yxP 116 ya2 yes yiV x=ybj x:=by kernel_rfl
def yww (x:(yez).X):Nat:=18446744073709551616
def ypa (x:(yez).X):Option ((yes).X ⊕ (yiV).X):=zz ybj (yww x) (ywo x)
def ywJ:Seg:=⟨yez,yes,yiV,ypa⟩
def yzl:Nat→Option Seg:=fun q=>bif Nat.beq q 29 then some ywJ else yzk q
theorem yKx:FrOk Tryz.prog ⟨ynI,27,yzl⟩ yh1:=(yKw).loop (sg:=ywJ) ya2 ywo (by decide) yJ1 ybj yww (by decide) (fun _=>rfl) (fun x r _ h=>h) yLr
abbrev yh8:List Par:= [.rd tMs,.rd tMs]
abbrev yn1:List OT:= [⟨false,tB,.fz⟩]
def ydg (a0 a1:List dM):Option (ResD yn1×MutD yh8) :=
 bif ((a0.length:Int) !=(a1.length:Int)) then
 some ((false,()),())
 else
 zkh (ypa (((a0,()),(a1,()),((),()),()),(),())) (fun y2 =>
 some ((true,()),())) (fun y2 =>
 some ((y2.1.1.1,()),()))
theorem ySg (x:InD yh8):zjx ⟨ynI,27,yzl⟩ Tryz.f71.results.toList yh1 yh8 yn1 x=ydg x.1 x.2.1:=by kernel_rfl
theorem yNp:ConOk Tryz.prog 71 ⟨yh8,yn1,fun x=>ydg x.1 x.2.1⟩:=zj1 (yKx) Tryz.func71 (by kernel_rfl) (by kernel_rfl) Tryz.ntmps71.symm (by decide) (fun x r h=>(ySg x).trans h)
def yzR:Con:=⟨yh8,yn1,fun x=>ydg x.1 x.2.1⟩
theorem yQW:ConOk Tryz.prog 71 yzR:=yNp
theorem y1E (l:List dM) (h:l.length≤1000000000) (hm: ∀ m∈l,m.1.length≤1000000000∧m.2.1.length≤1000000000):ydg l l=some ((true,()),()):=by
 have l1:ypa (yI1 l l)=some (.inl ywC) :=
  zj8 (step:=ybj) l.length (fun i (_:Unit)=>ynq l l i) (fun _ _=>()) (fun _ _=>True) (fun _=> .inl ywC) (fun i s hi _=>⟨by
   have hn:=yAP (P:=fun m:dM=>m.1.length≤1000000000∧m.2.1.length≤1000000000) (d:=noMem) (zkl hi) hm
   simp only [ybj,ynq,ynA,zj4 (show (i:Int) < l.length by omega),cond_true,wr (show -9223372036854775808≤(i:Int)+1 by omega) (by omega),Int.natCast_add,Int.natCast_one,Int.toNat_natCast,zkl hi,zkr]
   rw [y2g _ hn.1 hn.2]; rfl,trivial⟩) (fun s _=>by simp only [ybj,ynq,ynA,zkx (Int.le_refl _),cond_false]) () trivial 18446744073709551616 (by omega)
 unfold ydg
 rw [bne_self_eq_false,cond_false]
 exact (congrArg (fun z=>zkh z _ _) l1).trans rfl
end
section
def yNQ:Code:=(Tryz.f135.body).getD .skip
def yNS:Env:=zj2 TT [] []
theorem yVT:FrOk Tryz.prog ⟨yNS,15,fun _=>none⟩ yNQ:=zj6 yc yd trivial
def yXT:Nat→Option Seg:=fun _=>none
abbrev yrP:List Par:= [.rd tI,.rd tI,.rd tI]
abbrev yxv:List OT:= [⟨false,tB,.fz⟩]
def yy1 (a0 a1 a2:Int):Option (ResD yxv×MutD yrP) :=
 bif (leb a1 a0) then
 some (((leb a0 a2),()),())
 else
 some ((false,()),())
theorem y0z (x:InD yrP):zjx ⟨yNS,15,yXT⟩ Tryz.f135.results.toList yNQ yrP yxv x=yy1 x.1 x.2.1 x.2.2.1:=by kernel_rfl
theorem yY0:ConOk Tryz.prog 135 ⟨yrP,yxv,fun x=>yy1 x.1 x.2.1 x.2.2.1⟩:=zj1 (yVT) Tryz.func135 (by kernel_rfl) (by kernel_rfl) Tryz.ntmps135.symm (by decide) (fun x r h=>(y0z x).trans h)
def ya (a0 a1 a2:Int):Bool :=
 bif (leb a1 a0) then
 (leb a0 a2)
 else
 false
def yr:Con:=⟨yrP,yxv,fun x=>(fun n=>some ((n,()),())) (ya x.1 x.2.1 x.2.2.1)⟩
theorem y0d (a0 a1 a2:Int):yy1 a0 a1 a2=(fun n=>some ((n,()),())) (ya a0 a1 a2):=zkp (p:=fun (n:Bool)=>((n,()),())) (zkb (p:=fun (n:Bool)=>((n,()),())) rfl rfl)
theorem yx:ConOk Tryz.prog 135 yr:=(yY0).mono (fun x r _ h=>(y0d x.1 x.2.1 x.2.2.1).trans h)
theorem yvo {a b c:Int}:ya a b c=true↔b≤a∧a≤c:=by
 unfold ya
 cases h:leb b a
 ·have:=mt zkw (by rw [h]; simp: ¬ leb b a=true)
  simp [this]
 ·simp [zjE,zjE.1 h]
theorem y3i {a b c:Int} (h:b≤a) (h2:a≤c):ya a b c=true:=yvo.2 ⟨h,h2⟩
theorem ybX (x a b:Int):ya x a b=(leb a x&&leb x b):=by
 unfold ya; cases leb a x<;>rfl
theorem ypA {x:Int} {n:Nat} (h:n≤1152921504606846976):ya x 0 (IntKind.i64.wrap ((n:Int) - 1))=inb x n:=by
 rw [wr (by omega) (by omega),Bool.eq_iff_iff,yvo,zjD]; omega
end
end
end Go.Tf
