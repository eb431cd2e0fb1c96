/- Functions of the program, and what they come to. -/
import Derived.Test.YtgmadfpnljibhaaGreatBlocksBentTt
namespace Go.Tf
noncomputable section
open Go.Proofs
set_option synthInstance.maxHeartbeats 400000
set_option synthInstance.maxSize 10000
set_option linter.unusedVariables false
set_option linter.unusedSimpArgs false
set_option maxRecDepth 100000
section
def ySf:Code:=(Tryz.f135.body).getD .skip
def ySh:Env:=zj3 TT [] []
theorem y0J:FrOk Tryz.prog ⟨ySh,15,fun _=>none⟩ ySf:=zj7 yb yc trivial
def y2U:Nat→Option Seg:=fun _=>none
abbrev ytR:List Par:= [.rd tI,.rd tI,.rd tI]
abbrev yz2:List OT:= [⟨false,tB,.fz⟩]
def yBK (a0 a1 a2:Int):Option (ResD yz2×MutD ytR) :=
 bif (leb a1 a0) then
 some (((leb a0 a2),()),())
 else
 some ((false,()),())
theorem y5p (x:InD ytR):zjx ⟨ySh,15,y2U⟩ Tryz.f135.results.toList ySf ytR yz2 x=yBK x.1 x.2.1 x.2.2.1:=by kernel_rfl
theorem y32:ConOk Tryz.prog 135 ⟨ytR,yz2,fun x=>yBK x.1 x.2.1 x.2.2.1⟩:=zj2 (y0J) Tryz.func135 (by kernel_rfl) (by kernel_rfl) Tryz.ntmps135.symm (by decide) (fun x r h=>(y5p x).trans h)
def ya (a0 a1 a2:Int):Bool :=
 bif (leb a1 a0) then
 (leb a0 a2)
 else
 false
def yn:Con:=⟨ytR,yz2,fun x=>(fun n=>some ((n,()),())) (ya x.1 x.2.1 x.2.2.1)⟩
theorem y45 (a0 a1 a2:Int):yBK a0 a1 a2=(fun n=>some ((n,()),())) (ya a0 a1 a2):=zkq (p:=fun (n:Bool)=>((n,()),())) (zkc (p:=fun (n:Bool)=>((n,()),())) rfl rfl)
theorem yu:ConOk Tryz.prog 135 yn:=(y32).mono (fun x r _ h=>(y45 x.1 x.2.1 x.2.2.1).trans h)
theorem yxS {a b c:Int}:ya a b c=true↔b≤a∧a≤c:=by
 unfold ya
 cases h:leb b a
 ·have:=mt zkx (by rw [h]; simp: ¬ leb b a=true)
  simp [this]
 ·simp [zjE,zjE.1 h]
theorem y74 {a b c:Int} (h:b≤a) (h2:a≤c):ya a b c=true:=yxS.2 ⟨h,h2⟩
def yL {α:Type} (p:α→Bool) (l:List α):Int:=bif l.any p then ((l.takeWhile (fun x=> !p x)).length:Int) else -1
theorem y2D {α:Type} (p:α→Bool):yL p []= -1:=rfl
theorem yxQ {α:Type} (p:α→Bool) (x:α) (l:List α):yL p (x::l)=bif p x then 0 else bif leb 0 (yL p l) then yL p l+1 else -1:=by
 unfold yL
 rw [List.any_cons,List.takeWhile_cons]
 cases p x
 ·cases l.any p
  ·rfl
  ·simp only [Bool.false_or,Bool.not_false,if_true,cond_true,cond_false,List.length_cons]
   rw [zkx (show (0:Int)≤((l.takeWhile (fun x=> !p x)).length:Int) by omega),cond_true]; omega
 ·simp
theorem yno {α:Type} {p:α→Bool} {d:α}: ∀ {l:List α},leb 0 (yL p l)=true→inb (yL p l) l.length=true∧p (nth l (yL p l) d)=true
 | [],h=>by rw [y2D]at h; cases h
 | x::l,h=>by
  rw [yxQ]at h ⊢
  cases hx:p x
  ·rw [hx]at h
   cases hl:leb 0 (yL p l)
   ·rw [hl]at h; cases h
   ·obtain ⟨h1,h2⟩:=yno (d:=d) hl
    have h3:=zjD.1 h1
    have h4:=zjE.1 hl
    simp only [cond_false,cond_true,List.length_cons]
    refine ⟨zjD.2 (by omega),?_⟩
    unfold nth at h2 ⊢
    rw [show (yL p l+1).toNat=(yL p l).toNat+1 by omega,List.getD_cons_succ]
    exact h2
  ·simp only [cond_true,List.length_cons]
   refine ⟨zjD.2 (by omega),?_⟩
   exact hx
theorem yHG {A B α:Type} {step:A→Option (A ⊕ B)} (l:List α) (d:α) (f:Nat→A) (p:α→Bool) (b:Int→B) (c:B)
  (h: ∀ i,i < l.length→step (f i)=some (bif p (l.getD i d) then .inr (b i) else .inl (f (i+1)))) (e:step (f l.length)=some (.inr c)) (fuel:Nat) (hf:l.length < fuel) :
  zz step fuel (f 0)=some (bif leb 0 (yL p l) then b (yL p l) else c):=by
 have: ∀ (t q:List α) (fuel:Nat),q++t=l→t.length < fuel→zz step fuel (f q.length)=some (bif leb 0 (yL p t) then b (q.length+yL p t) else c):=by
  intro t
  induction t with
  | nil =>
   intro q fuel hq hf
   obtain ⟨fuel,rfl⟩: ∃ m,fuel=m+1:=⟨fuel - 1,by omega⟩
   rw [List.append_nil]at hq
   subst hq
   simp only [zz,e]; rfl
  | cons x t ih =>
   intro q fuel hq hf
   obtain ⟨fuel,rfl⟩: ∃ m,fuel=m+1:=⟨fuel - 1,by omega⟩
   have hx:l.getD q.length d=x:=by
    subst hq
    rw [zke (by simp)]; simp
   have hs:=h q.length (by rw [← hq]; simp)
   rw [hx]at hs
   rw [yxQ]
   cases hp:p x
   ·rw [hp]at hs
    have:=ih (q++ [x]) fuel (by rw [← hq]; simp) (by simp at hf; omega)
    simp only [List.length_append,List.length_cons,List.length_nil]at this
    simp only [zz,hs,cond_false]
    rw [show q.length+1=q.length+(0+1) by omega,this]
    cases hl:leb 0 (yL p t)
    ·rfl
    ·have:=zjE.1 hl
     rw [cond_true,cond_true,zkx (show 0≤yL p t+1 by omega),cond_true]
     congr 2; omega
   ·rw [hp]at hs
    simp only [zz,hs,cond_true]
    rw [zkx (Int.le_refl 0),cond_true,Int.add_zero]
 have:=this l [] fuel rfl hf
 simpa using this
theorem yDr {α β:Type} (f:α→β): ∀ (l:List α) (s:List β),l.foldl (fun s i=>s++ [f i]) s=s++l.map f
 | [],s=>by simp
 | x::l,s=>by rw [List.foldl_cons,yDr f l]; simp
theorem yvo {α:Type} (l:List α):l.foldl (fun s i=>s++ [i]) []=l:=by
 have:=yDr id l []
 simpa using this
theorem y6I {α:Type} (l:List α) (d:α) {i:Nat} (h:i < l.length):l.take i++ [nth l i d]=l.take (i+1):=by rw [zkn,zke h,List.take_append_getElem h]
def ycx (e:dW) (s:Bool×List dW) (x:dW):Bool×List dW:=(s.1||leb e.1 x.1,(bif !s.1&&leb e.1 x.1 then s.2++ [e] else s.2)++(bif x.1 !=e.1 then [x] else []))
def yFv (l:List dW) (e:dW):List dW:=bif (l.foldl (ycx e) (false,[])).1 then (l.foldl (ycx e) (false,[])).2 else (l.foldl (ycx e) (false,[])).2++ [e]
def yFB (a:dA) (l:List dW):dA:=(a.1,a.2.1,a.2.2.1,a.2.2.2.1,a.2.2.2.2.1,a.2.2.2.2.2.1,a.2.2.2.2.2.2.1,a.2.2.2.2.2.2.2.1,l,a.2.2.2.2.2.2.2.2.2)
abbrev noMem:dM:=([],[],false,[])
def isW (x:Int):Bool:=leb 0 x&&leb x 65535
def yaj (s:List Int):Bool:=leb (s.length:Int) 12&&s.all isW
theorem y0P {x:Int}:isW x=true↔0≤x∧x≤65535:=by simp [isW,zjE]
theorem y6G {s:List Int}:yaj s=true↔s.length≤12∧ ∀ x∈s,0≤x∧x≤65535:=by
 simp only [yaj,Bool.and_eq_true,zjE,List.all_eq_true,y0P]
 constructor
 ·rintro ⟨h1,h2⟩; exact ⟨by omega,h2⟩
 ·rintro ⟨h1,h2⟩; exact ⟨by omega,h2⟩
theorem y5E: ∀ {l:List Int},l.Pairwise (· < ·)↔ ∀ i,i+1 < l.length→l.getD i 0 < l.getD (i+1) 0
 | []=>by simp
 | [x]=>by simp
 | x::y::l=>by
  have ih:=y5E (l:=y::l)
  constructor
  ·intro h i hi
   cases h with
   | cons h1 h2 =>
    cases i with
    | zero=>exact h1 y List.mem_cons_self
    | succ i=>exact ih.1 h2 i (by simpa using hi)
  ·intro h
   have h2:(y::l).Pairwise (· < ·):=ih.2 fun i hi=>h (i+1) (by simpa using hi)
   refine .cons (fun z hz=> ?_) h2
   have h3:x < y:=h 0 (by simp)
   rcases List.mem_cons.1 hz with rfl | hz
   ·exact h3
   ·cases h2 with
    | cons h4 _=>exact Int.lt_trans h3 (h4 z hz)
def ysv (n:Nat) (l:List Int):Bool:=l.all (fun x=>inb x n)&&decide (l.Pairwise (· < ·))
def yyy (n:Nat) (w:dW):Bool:=inb w.1 n&&yaj w.2
def yw (m:dM):Bool:=m.1.all yaj&&m.2.1.all (yyy m.1.length)&&ysv m.1.length m.2.2.2&&leb 1 (m.1.length:Int)&&leb (m.1.length:Int) 20&&leb (m.2.1.length:Int) 60
def yG1 (n:Nat) (l:List Int) (i:Nat):Bool:= !(inb (l.getD i 0) n)||(decide (0 < i)&&leb (l.getD i 0) (l.getD (i - 1) 0))
theorem y2v (n:Nat) (l:List Int):(List.range l.length).any (yG1 n l)= !(ysv n l):=by
 rw [Bool.eq_iff_iff,List.any_eq_true,Bool.not_eq_true',ysv,Bool.and_eq_false_iff,decide_eq_false_iff_not,y5E,List.all_eq_false]
 simp only [List.mem_range,yG1,Bool.or_eq_true,Bool.not_eq_true',Bool.and_eq_true,decide_eq_true_eq,zjE]
 constructor
 ·rintro ⟨i,hi,h | ⟨h1,h2⟩⟩
  ·exact .inl ⟨l[i],List.getElem_mem hi,by rw [zke hi]at h; simp [h]⟩
  ·refine .inr fun h3=> ?_
   have:=h3 (i - 1) (by omega)
   rw [show i - 1+1=i by omega]at this
   omega
 ·rintro (⟨x,hx,h⟩ | h)
  ·obtain ⟨i,hi,rfl⟩:=List.getElem_of_mem hx
   exact ⟨i,hi,.inl (by rw [zke hi]; simpa using h)⟩
  ·refine Classical.byContradiction fun hc=>h fun i hi=> ?_
   refine Classical.byContradiction fun h4=>hc ⟨i+1,hi,.inr ⟨by omega,?_⟩⟩
   rw [Nat.add_sub_cancel]; omega
theorem ybE (x a b:Int):ya x a b=(leb a x&&leb x b):=by
 unfold ya; cases leb a x<;>rfl
theorem yru {x:Int} {n:Nat} (h:n≤1152921504606846976):ya x 0 (IntKind.i64.wrap ((n:Int) - 1))=inb x n:=by
 rw [wr (by omega) (by omega),Bool.eq_iff_iff,yxS,zjD]; omega
def yJK (n:Int) (c:List dW) (s:List Int):List Int:=c.foldl (fun s w=>bif w.1==n then w.2 else s) s
def yJh (m:dM) (n:Int):Bool:=yw m&&(!m.2.2.1&&(inb n m.1.length&& !(m.2.2.2.any (· ==n))))
def yoV (m:dM) (n:Int):List Int×Bool:=bif yJh m n then (yJK n m.2.1 (nth m.1 n []),true) else ([],false)
theorem yKA {P:List Int→Prop} {n:Int}: ∀ {c:List dW} {s:List Int},P s→(∀ w∈c,P w.2)→P (yJK n c s)
 | [],_,h,_=>h
 | w::c,s,h,hc=>yKA (c:=c) (zkl (hc w List.mem_cons_self) h) (fun x hx=>hc x (List.mem_cons_of_mem _ hx))
theorem yzG {α:Type} {P:α→Prop} {l:List α} {i:Int} {d:α} (h:inb i l.length=true) (hl: ∀ x∈l,P x):P (nth l i d):=by
 obtain ⟨h1,h2⟩:=zjD.1 h
 unfold nth
 rw [zke (show i.toNat < l.length by omega)]
 exact hl _ (List.getElem_mem _)
theorem yPL {α:Type} {p:α→Bool} {l:List α} (h:leb 0 (yL p l)=false):yL p l= -1:=by
 unfold yL at h ⊢
 cases ha:l.any p
 ·rfl
 ·rw [ha,cond_true,zkx (show (0:Int)≤((l.takeWhile (fun x=> !p x)).length:Int) by omega)] at h; cases h
theorem y2E {α:Type} {p:α→Bool}: ∀ {l:List α},leb 0 (yL p l)=true→(l.take ((yL p l).toNat+1)).filter (fun x=> !p x)=l.take (yL p l).toNat
 | [],h=>by rw [y2D]at h; cases h
 | x::l,h=>by
  rw [yxQ]at h ⊢
  cases hx:p x
  ·rw [hx]at h
   cases hl:leb 0 (yL p l)
   ·rw [hl]at h; cases h
   ·have h4:=zjE.1 hl
    simp only [cond_false,cond_true]
    rw [show (yL p l+1).toNat=(yL p l).toNat+1 by omega,List.take_succ_cons,List.take_succ_cons,List.filter_cons,hx,y2E hl]; rfl
  ·simp only [cond_true]
   show List.filter (fun x=> !p x) [x]= []
   rw [List.filter_cons,hx]; rfl
theorem y6Z {α:Type} {p:α→Bool} {l:List α} (h:leb 0 (yL p l)=false):l.filter (fun x=> !p x)=l:=by
 rw [List.filter_eq_self]
 intro x hx
 unfold yL at h
 cases ha:l.any p
 ·have:=List.any_eq_false.1 ha x hx
  simpa using this
 ·rw [ha,cond_true,zkx (show (0:Int)≤((l.takeWhile (fun x=> !p x)).length:Int) by omega)] at h; cases h
def yak (a:dA):dA:=(a.1,a.2.1,a.2.2.1,a.2.2.2.1,a.2.2.2.2.1,IntKind.i64.wrap (a.2.2.2.2.2.1+1),a.2.2.2.2.2.2)
def dataAt (s:Int):Int:=bif leb 0 s&&leb s 1099511627776 then s+6 else -1
def yda (a:dA) (m s:Int):Bool:=inb m a.2.2.1.length&&(!(nth a.2.2.1 m noMem).2.2.1&&(m !=a.2.2.2.1||ltb s a.2.2.2.2.1))
def yfc (a:dA) (m s:Int):List Int×Bool:=yoV (nth a.2.2.1 m noMem) (dataAt s)
def yq (a:dA) (m s:Int):Bool:=yda a m s&&((yfc a m s).2&&((yfc a m s).1.length:Int)==1)
def yBM (a:dA) (m s:Int):Int:=bif yq a m s then nth (yfc a m s).1 0 0 else 0
def xw (a b:Int):Int:=IntKind.i64.wrap ((BitVec.ofInt IntKind.i64.bits a ^^^ BitVec.ofInt IntKind.i64.bits b).toNat:Int)
def ygi (l:List Int):Int:=l.foldl xw 0
def bv (x:Int):BitVec 64:=BitVec.ofInt 64 x
theorem y4k (a b:Int):xw a b=(bv a ^^^ bv b).toInt:=by
 show IntKind.i64.wrap ((bv a ^^^ bv b).toNat:Int)=_
 rw [IntKind.wrap_i64,BitVec.toInt_eq_toNat_cond]
 have:=(bv a ^^^ bv b).isLt
 split<;>omega
theorem yKe (v:BitVec 64):bv v.toInt=v:=by unfold bv; simp
def yVQ (l:List Int):BitVec 64:=l.foldl (fun v x=>v ^^^ bv x) 0#64
theorem yVP (l:List Int):ygi l=(yVQ l).toInt:=by
 have: ∀ (l:List Int) (v:BitVec 64),l.foldl xw v.toInt=(l.foldl (fun v x=>v ^^^ bv x) v).toInt:=by
  intro l
  induction l with
  | nil=>intro _; rfl
  | cons x l ih =>
   intro v
   rw [List.foldl_cons,List.foldl_cons,y4k,yKe,ih]
 have h:=this l 0#64
 rwa [show (0#64:BitVec 64).toInt=0 from by decide]at h
theorem y6R (l:List Int) (x:Int):yVQ (l++ [x])=yVQ l ^^^ bv x:=by unfold yVQ; rw [List.foldl_append]; rfl
theorem y7e {i:Int} {n:Nat} (h: ¬ (0≤i∧i < (n:Int))):inb i n=false:=by
 cases e:inb i n
 ·rfl
 ·exact absurd (zjD.1 e) h
def yrv (l:List Int) (k:Int):Int:=bif inb k l.length then xw (ygi l) (nth l k 0) else ygi l
theorem y6S (u v:BitVec 64):u ^^^ v ^^^ v=u:=by rw [BitVec.xor_assoc,BitVec.xor_self,BitVec.xor_zero]
theorem y6B (l:List Int) (k:Int):(List.range l.length).foldl (fun n (i:Nat)=>bif (i:Int) !=k then xw n (nth l i 0) else n) 0=yrv l k:=by
 have: ∀ n,n≤l.length→(List.range n).foldl (fun n (i:Nat)=>bif (i:Int) !=k then xw n (nth l i 0) else n) 0=(bif inb k n then yVQ (l.take n) ^^^ bv (nth l k 0) else yVQ (l.take n)).toInt:=by
  intro n
  induction n with
  | zero =>
   intro _
   rw [y7e (show ¬ (0≤k∧k < ((0:Nat):Int)) by omega)]
   rfl
  | succ n ih =>
   intro hn
   rw [List.range_succ,List.foldl_append,List.foldl_cons,List.foldl_nil,ih (by omega),← y6I l 0 (show n < l.length by omega),y6R]
   by_cases hk:(n:Int)=k
   ·subst hk
    rw [show ((n:Int) !=n)=false by simp,cond_false,y7e (show ¬ (0≤(n:Int)∧(n:Int) < (n:Int)) by omega),show inb (n:Int) (n+1)=true from zkm (Nat.lt_succ_self n),cond_false,cond_true,y6S]
   ·rw [show ((n:Int) !=k)=true from bne_iff_ne.2 hk,cond_true,show inb k (n+1)=inb k n by rw [Bool.eq_iff_iff,zjD,zjD]; omega,y4k,yKe]
    cases inb k n
    ·rfl
    ·rw [cond_true,cond_true,BitVec.xor_assoc,BitVec.xor_comm (bv (nth l k 0)),← BitVec.xor_assoc]
 rw [this l.length (Nat.le_refl _),List.take_length]
 unfold yrv
 rw [y4k,yVP,yKe]
 cases inb k l.length<;>rfl
theorem y6A {l:List Int} {k:Int} (h:inb k l.length=true) (h0:nth l k 0=0):yrv l k=ygi l:=by
 unfold yrv
 rw [h,h0,cond_true,y4k,yVP,yKe,show bv 0=0#64 by decide,BitVec.xor_zero]
abbrev yaC:dA:=(0,(0,0),[],0,0,0,0,0,[],0,false,false)
def yxT (b:Nat→Bool) (c:List dW) (l:List (List Int)) (i:Nat):List (List Int):=bif b i then l.set (nth c i (0,[])).1.toNat (nth c i (0,[])).2 else l
def yms (b:Nat→Bool) (c:List dW) (l:List (List Int)):List (List Int):=(List.range c.length).foldl (yxT b c) l
theorem yby {m:dM} (h:yw m=true):m.1.all yaj=true∧m.2.1.all (yyy m.1.length)=true∧ysv m.1.length m.2.2.2=true∧1≤m.1.length∧m.1.length≤20∧m.2.1.length≤60:=by
 simp only [yw,Bool.and_eq_true,zjE]at h
 exact ⟨h.1.1.1.1.1,h.1.1.1.1.2,h.1.1.1.2,by omega,by omega,by omega⟩
theorem y43 {m:dM} (h:yw m=true) {i:Nat} (hi:i < m.2.1.length):inb (nth m.2.1 i (0,[])).1 m.1.length=true∧yaj (nth m.2.1 i (0,[])).2=true:=by
 have h1:=List.all_eq_true.1 (yby h).2.1 m.2.1[i] (List.getElem_mem hi)
 rw [zkn,zke hi]
 exact Bool.and_eq_true_iff.1 h1
theorem yKr {b:Nat→Bool} {c:List dW} {l:List (List Int)} {i:Nat}:(yxT b c l i).length=l.length:=by
 unfold yxT; cases b i
 ·rfl
 ·exact List.length_set
theorem yXk {α β:Type} (P:β→Prop) (f:β→α→β) (h: ∀ s x,P s→P (f s x)): ∀ (l:List α) (s:β),P s→P (l.foldl f s)
 | [],_,hs=>hs
 | x::l,s,hs=>yXk P f h l (f s x) (h s x hs)
theorem yz6 {b:Nat→Bool} {c:List dW} {l:List (List Int)}:(yms b c l).length=l.length :=
 yXk (fun x=>x.length=l.length) _ (fun s x hs=>by rw [yKr]; exact hs) _ l rfl
theorem y5u {P:List Int→Prop} {b:Nat→Bool} {c:List dW} {l:List (List Int)} (hl: ∀ x∈l,P x) (hc: ∀ w∈c,P w.2): ∀ x∈yms b c l,P x:=by
 have: ∀ (n:Nat),n≤c.length→ ∀ x∈(List.range n).foldl (yxT b c) l,P x:=by
  intro n
  induction n with
  | zero=>intro _; exact hl
  | succ n ih =>
   intro hn x hx
   rw [List.range_succ,List.foldl_append,List.foldl_cons,List.foldl_nil,yxT]at hx
   cases hb:b n
   ·rw [hb]at hx; exact ih (by omega) x hx
   ·rw [hb,cond_true]at hx
    rcases List.mem_or_eq_of_mem_set hx with h | h
    ·exact ih (by omega) x h
    ·rw [h,zkn,zke (show n < c.length by omega)]
     exact hc _ (List.getElem_mem _)
 exact this _ (Nat.le_refl _)
def yzu (m:dM) (n:Int) (s:List Int):Bool:=yw m&&(!m.2.2.1&&(inb n m.1.length&&(yaj s&&ltb (m.2.1.length:Int) 60)))
def y2s (l:List Int) (n:Int):List Int:=l.filter (· !=n)
def ygv (m:dM) (n:Int) (s:List Int):dM×Bool:=bif yzu m n s then ((m.1,m.2.1++ [(n,s)],m.2.2.1,y2s m.2.2.2 n),true) else (m,false)
def ye4 (m:dM):dM:=bif yw m&& !m.2.2.1 then (yms (fun _=>true) m.2.1 m.1,[],m.2.2.1,m.2.2.2) else m
def yDD (m:dM):dM:=(m.1,[],true,m.2.2.2)
end
section
def yNa:Code:=(Tryz.f134.body).getD .skip
def yNw:Env:=zj3 TT [(135,yn)] []
theorem yXB:FrOk Tryz.prog ⟨yNw,11,fun _=>none⟩ yNa:=zj7 yb yc ⟨yu,trivial⟩
def yZ0:Nat→Option Seg:=fun _=>none
abbrev yq8:List Par:= [.rd tG]
abbrev yw4:List OT:= [⟨false,tB,.fz⟩]
def yzX (a0:dG):Option (ResD yw4×MutD yq8) :=
 let r1:=ya a0.1 3 5
 bif r1 then
 let r2:=ya a0.2 1 8
 some ((r2,()),())
 else
 some ((false,()),())
theorem y4A (x:InD yq8):zjx ⟨yNw,11,yZ0⟩ Tryz.f134.results.toList yNa yq8 yw4 x=yzX x.1:=by kernel_rfl
theorem y1A:ConOk Tryz.prog 134 ⟨yq8,yw4,fun x=>yzX x.1⟩:=zj2 (yXB) Tryz.func134 (by kernel_rfl) (by kernel_rfl) Tryz.ntmps134.symm (by decide) (fun x r h=>(y4A x).trans h)
def yg (a0:dG):Bool :=
 let r1:=ya a0.1 3 5
 bif r1 then
 let r2:=ya a0.2 1 8
 r2
 else
 false
def yhx:Con:=⟨yq8,yw4,fun x=>(fun n=>some ((n,()),())) (yg x.1)⟩
theorem y3P (a0:dG):yzX a0=(fun n=>some ((n,()),())) (yg a0):=zkq (p:=fun (n:Bool)=>((n,()),())) (zkc (p:=fun (n:Bool)=>((n,()),())) rfl rfl)
theorem yoN:ConOk Tryz.prog 134 yhx:=(y1A).mono (fun x r _ h=>(y3P x.1).trans h)
theorem yk {a:Int×Int}:yg a=true↔(3≤a.1∧a.1≤5)∧1≤a.2∧a.2≤8:=by
 unfold yg
 cases h:ya a.1 3 5
 ·have: ¬ (3≤a.1∧a.1≤5):=fun e=>by rw [yxS.2 e]at h; simp at h
  simp [this]
 ·simp only [cond_true,yxS]
  exact ⟨fun e=>⟨yxS.1 h,e⟩,fun e=>e.2⟩
def yin (a:dA) (i:Nat):Bool:= !(yw (nth a.2.2.1 i noMem))||((((nth a.2.2.1 i noMem).1.length:Int) !=6+a.2.1.2)||((nth a.2.2.1 i noMem).2.2.1&&(((i:Int) !=a.2.2.2.1)&& !a.2.2.2.2.2.2.2.2.2.2.2)))
def yoz (a:dA):Bool:= !((List.range a.2.2.1.length).any (yin a))&&(a.2.2.1.length:Int)==a.2.1.1
def yi7 (g:dG) (l:List dW) (i:Nat):Bool:= !(leb 0 (nth l i (0,[])).1&&leb (nth l i (0,[])).1 (g.2 - 1))||(((nth l i (0,[])).2.length:Int) !=g.1 - 1||(!((nth l i (0,[])).2.all isW)||(decide (0 < i)&&leb (nth l i (0,[])).1 (nth l ((i - 1:Nat):Int) (0,[])).1)))
def yaK (g:dG) (l:List dW):Bool:= !((List.range l.length).any (yi7 g l))
def yx (a:dA):Bool :=
 yg a.2.1&&((leb 1 a.1&&leb a.1 60000)&&(yoz a&&(yaK a.2.1 a.2.2.2.2.2.2.2.2.1&&((leb (-1) a.2.2.2.1&&leb a.2.2.2.1 (a.2.1.1 - 1))&&((leb 0 a.2.2.2.2.1&&leb a.2.2.2.2.1 a.2.1.2)&&(!(a.2.2.2.1== -1&&a.2.2.2.2.1 !=0) &&
 ((leb 0 a.2.2.2.2.2.2.1&&leb a.2.2.2.2.2.2.1 60000)&&((leb a.2.2.2.2.2.2.1 a.2.2.2.2.2.1&&leb a.2.2.2.2.2.1 60000)&&(leb a.2.2.2.2.2.1 (a.2.2.2.2.2.2.1+4)&&((leb 0 a.2.2.2.2.2.2.2.1&&leb a.2.2.2.2.2.2.2.1 60000)&&(leb (-1) a.2.2.2.2.2.2.2.2.2.1&&leb a.2.2.2.2.2.2.2.2.2.1 1000)))))))))))
theorem yR {a:dA} (h:yx a=true):yg a.2.1=true:=(Bool.and_eq_true_iff.1 h).1
theorem yWD {a:dA} (h:yx a=true):yoz a=true:=by simp only [yx,Bool.and_eq_true]at h; exact h.2.2.1
theorem yG0 {a:dA} (h:yx a=true):(a.2.2.1.length:Int)=a.2.1.1:=by have:=yWD h; simp only [yoz,Bool.and_eq_true,beq_iff_eq]at this; exact this.2
theorem y2G {a:dA} (h:yoz a=true) {i:Nat} (hi:i < a.2.2.1.length):yw (nth a.2.2.1 i noMem)=true∧((nth a.2.2.1 i noMem).1.length:Int)=6+a.2.1.2∧((nth a.2.2.1 i noMem).2.2.1=true→(i:Int)=a.2.2.2.1∨a.2.2.2.2.2.2.2.2.2.2.2=true):=by
 simp only [yoz,Bool.and_eq_true,Bool.not_eq_true',List.any_eq_false,List.mem_range]at h
 have:=h.1 i hi
 simp only [yin,Bool.not_eq_true,Bool.or_eq_false_iff,Bool.not_eq_false',bne_eq_false_iff_eq,Bool.and_eq_false_iff]at this
 refine ⟨this.1,this.2.1,fun hf=> ?_⟩
 rcases this.2.2 with h1 | h1 | h1
 ·rw [hf]at h1; cases h1
 ·exact .inl h1
 ·exact .inr h1
theorem yPH: ∀ {l:List Int} {lo n:Int},l.Pairwise (· < ·)→(∀ x∈l,lo≤x∧x < n)→lo≤n→(l.length:Int)≤n - lo
 | [],lo,n,_,_,h=>by simp; omega
 | x::l,lo,n,hp,hx,h=>by
  cases hp with
  | cons h1 h2 =>
   have h3:=hx x List.mem_cons_self
   have:=yPH (l:=l) (lo:=x+1) (n:=n) h2 (fun y hy=>⟨h1 y hy,(hx y (List.mem_cons_of_mem _ hy)).2⟩) (by omega)
   rw [List.length_cons]; omega
theorem yro {n:Nat} {l:List Int}:ysv n l=true↔(∀ x∈l,0≤x∧x < n)∧l.Pairwise (· < ·):=by
 simp only [ysv,Bool.and_eq_true,List.all_eq_true,zjD,decide_eq_true_eq]
theorem yzF {m:dM} (h1:m.1.all yaj=true) (h2:m.2.1.all (yyy m.1.length)=true) (h3:ysv m.1.length m.2.2.2=true) (h4:1≤m.1.length) (h5:m.1.length≤20) (h6:m.2.1.length≤60):yw m=true:=by
 simp only [yw,h1,h2,h3,Bool.true_and,Bool.and_eq_true,zjE]
 omega
theorem y5Z {m:dM} (b:Nat→Bool) (h:yw m=true):(yms b m.2.1 m.1).all yaj=true:=by
 obtain ⟨h1,h2,_⟩:=yby h
 rw [List.all_eq_true]
 exact y5u (P:=fun x=>yaj x=true) (fun x hx=>List.all_eq_true.1 h1 x hx) (fun w hw=>(Bool.and_eq_true_iff.1 (List.all_eq_true.1 h2 w hw)).2)
theorem yVO {m:dM} (n:Int) (s:List Int) (h:yw m=true):yw (ygv m n s).1=true:=by
 unfold ygv
 cases hc:yzu m n s
 ·exact h
 ·simp only [yzu,Bool.and_eq_true,Bool.not_eq_true',zjH]at hc
  obtain ⟨h1,h2,h3,h4,h5,h6⟩:=yby h
  refine yzF h1 ?_ ?_ h4 h5 (by show (m.2.1++ [(n,s)]).length≤60; rw [List.length_append]; simp only [List.length_cons,List.length_nil]; omega)
  ·show (m.2.1++ [(n,s)]).all (yyy m.1.length)=true
   rw [List.all_append,h2]
   simp [yyy,hc.2.2.1,hc.2.2.2.1]
  ·show ysv m.1.length (y2s m.2.2.2 n)=true
   obtain ⟨b1,b2⟩:=yro.1 h3
   exact yro.2 ⟨fun x hx=>b1 x (List.mem_filter.1 hx).1,b2.filter _⟩
theorem y2T (m:dM) (n:Int) (s:List Int):(ygv m n s).1.1=m.1∧(ygv m n s).1.2.2.1=m.2.2.1:=by
 unfold ygv
 cases yzu m n s<;>exact ⟨rfl,rfl⟩
theorem yS1 {m:dM} (h:yw m=true):yw (ye4 m)=true:=by
 unfold ye4
 cases hc:(yw m&& !m.2.2.1)
 ·exact h
 ·obtain ⟨h1,h2,h3,h4,h5,h6⟩:=yby h
  refine yzF (y5Z _ h) rfl ?_ ?_ ?_ (Nat.zero_le _)
  ·show ysv (yms _ m.2.1 m.1).length m.2.2.2=true; rw [yz6]; exact h3
  ·show 1≤(yms _ m.2.1 m.1).length; rw [yz6]; exact h4
  ·show (yms _ m.2.1 m.1).length≤20; rw [yz6]; exact h5
theorem y2C (m:dM):(ye4 m).1.length=m.1.length∧(ye4 m).2.2.1=m.2.2.1:=by
 unfold ye4
 cases (yw m&& !m.2.2.1)
 ·exact ⟨rfl,rfl⟩
 ·exact ⟨yz6,rfl⟩
theorem y7i {m:dM} (h:yw m=true):yw (yDD m)=true:=by
 obtain ⟨h1,h2,h3,h4,h5,h6⟩:=yby h
 exact yzF h1 rfl h3 h4 h5 (Nat.zero_le _)
def ya7 (l:List dM):Prop:= ∀ m∈l,yw m=true
theorem yZj {l:List dM} {i:Nat} {x:dM} (h:ya7 l) (hx:yw x=true):ya7 (l.set i x):=fun m hm=>by
 rcases List.mem_or_eq_of_mem_set hm with h1 | rfl
 ·exact h m h1
 ·exact hx
theorem y2K {l:List dM} {m:Int} (h:ya7 l) (hm:inb m l.length=true):yw (nth l m noMem)=true:=yzG (P:=fun x=>yw x=true) hm h
theorem yWE {a:dA} (h:yx a=true):ya7 a.2.2.1:=fun m hm=>by
 obtain ⟨i,hi,rfl⟩:=List.getElem_of_mem hm
 have:=(y2G (yWD h) hi).1
 rwa [zkn,zke hi]at this
theorem y5N {α:Type} (A:List α) (y:α) (t:List α) (d:α):(A++y::t).getD A.length d=y:=by
 rw [List.getD_eq_getElem?_getD,List.getElem?_append_right (Nat.le_refl _),Nat.sub_self]; rfl
theorem y5S {α:Type} (A:List α) (y z:α) (t:List α):(A++y::t).set A.length z=A++z::t:=by
 rw [List.set_append_right _ _ (Nat.le_refl _),Nat.sub_self]; rfl
def yX9 (l:List Int) (n:Int):List Int:=l.filter (fun x=>ltb x n)++n::l.filter (fun x=>ltb n x)
def spoil (m:dM) (n:Int):dM:=bif yw m&&(inb n m.1.length&& !(m.2.2.2.any (· ==n))) then (m.1,m.2.1,m.2.2.1,yX9 m.2.2.2 n) else m
theorem y5f {l:List Int} {n:Int} (h:l.Pairwise (· < ·)) (hn:n∉l):l=l.filter (fun x=>ltb x n)++l.filter (fun x=>ltb n x):=by
 induction l with
 | nil=>rfl
 | cons x t ih =>
  obtain ⟨hx,ht⟩:=List.pairwise_cons.1 h
  simp only [List.mem_cons,not_or]at hn
  rw [List.filter_cons,List.filter_cons]
  by_cases hlt:x < n
  ·rw [zj5 hlt,zky (show x≤n by omega)]
   simp only [if_true,Bool.false_eq_true,if_false,List.cons_append]
   rw [← ih ht hn.2]
  ·have h3:t.filter (fun x=>ltb x n)= []:=List.filter_eq_nil_iff.2 (fun y hy=>by rw [zky (by have:=hx y hy; omega)]; simp)
   have h4:t.filter (fun x=>ltb n x)=t:=List.filter_eq_self.2 (fun y hy=>zj5 (by have:=hx y hy; omega))
   rw [zky (show n≤x by omega),zj5 (show n < x by omega),h3,h4]; rfl
theorem y5g {m:dM} (n:Int) (h:yw m=true):yw (spoil m n)=true:=by
 unfold spoil
 cases hc:(yw m&&(inb n m.1.length&& !(m.2.2.2.any (· ==n))))
 ·exact h
 ·simp only [Bool.and_eq_true]at hc
  have hi:=zjD.1 hc.2.1
  obtain ⟨h1,h2,h3,h4,h5,h6⟩:=yby h
  rw [yro]at h3
  refine yzF h1 h2 ?_ h4 h5 h6
  show ysv m.1.length (yX9 m.2.2.2 n)=true
  rw [yro]
  unfold yX9
  refine ⟨fun x hx=> ?_,?_⟩
  ·rcases List.mem_append.1 hx with g | g
   ·exact h3.1 x (List.mem_filter.1 g).1
   ·rcases List.mem_cons.1 g with rfl | g
    ·exact hi
    ·exact h3.1 x (List.mem_filter.1 g).1
  ·rw [List.pairwise_append,List.pairwise_cons]
   refine ⟨h3.2.filter _,⟨fun y hy=>zjH.1 (List.mem_filter.1 hy).2,h3.2.filter _⟩,fun x hx y hy=> ?_⟩
   have g1:=zjH.1 (List.mem_filter.1 hx).2
   rcases List.mem_cons.1 hy with rfl | hy
   ·exact g1
   ·exact Int.lt_trans g1 (zjH.1 (List.mem_filter.1 hy).2)
theorem y2O (m:dM) (n:Int):(spoil m n).1=m.1∧(spoil m n).2.2.1=m.2.2.1:=by
 unfold spoil
 cases (yw m&&(inb n m.1.length&& !(m.2.2.2.any (· ==n))))<;>exact ⟨rfl,rfl⟩
def yP (g:dG) (s:Int):Bool:=yg g&&(leb 0 s&&leb s (g.2 - 1))
def yh (g:dG) (s:Int):Int:=bif yP g s then g.1 - 1 - s.tmod g.1 else -1
def ybR (g:dG) (s i:Int):Int:=bif yP g s&&(leb 0 i&&leb i (g.1 - 2)) then (yh g s+1+i).tmod g.1 else -1
theorem yca {g:dG} {s:Int}:yP g s=true↔yg g=true∧0≤s∧s≤g.2 - 1:=by simp [yP,zjE]
theorem yrL {g:dG} {s:Int} (h:yP g s=true):0≤yh g s∧yh g s≤g.1 - 1:=by
 have h1:=yca.1 h
 have h2:=yk.1 h1.1
 unfold yh
 rw [h,cond_true,Int.tmod_eq_emod_of_nonneg h1.2.1]
 have:=Int.emod_nonneg s (show g.1≠0 by omega)
 have:=Int.emod_lt_of_pos s (show 0 < g.1 by omega)
 omega
theorem y0g {g:dG} {s i:Int} (h:yP g s=true) (h1:0≤i) (h2:i≤g.1 - 2):0≤ybR g s i∧ybR g s i≤g.1 - 1:=by
 have h3:=yk.1 (yca.1 h).1
 have h4:=yrL h
 unfold ybR
 rw [h,zkx h1,zkx h2,Bool.and_self,Bool.and_self,cond_true,Int.tmod_eq_emod_of_nonneg (by omega)]
 have:=Int.emod_nonneg (yh g s+1+i) (show g.1≠0 by omega)
 have:=Int.emod_lt_of_pos (yh g s+1+i) (show 0 < g.1 by omega)
 omega
def yH (p:Nat→Bool):Nat→Int
 | 0=> -1
 | n+1=>bif p n then yH p n else n
def yKs (p:Nat→Bool) (n:Nat):Bool:=(List.range n).any (fun i=> !p i&&leb 0 (yH p i))
theorem y2H (p:Nat→Bool): ∀ n,yH p n= -1∨(0≤yH p n∧yH p n < n∧p (yH p n).toNat=false)
 | 0=> .inl rfl
 | n+1=>by
  unfold yH
  cases h:p n
  ·exact .inr ⟨by show (0:Int)≤n; omega,by show (n:Int) < _; omega,h⟩
  ·rcases y2H p n with h1 | h1
   ·exact .inl h1
   ·exact .inr ⟨h1.1,by show yH p n < _; omega,h1.2.2⟩
def yae (a:dA) (s:Int) (n:Nat):List Int:=(List.range n).map (fun (i:Nat)=>yBM a i s)
theorem yr2 (a:dA) (s:Int) (n:Nat):(yae a s n).length=n:=by unfold yae; rw [List.length_map,List.length_range]
theorem yMa (a:dA) (s:Int) (n:Nat):yae a s n++ [yBM a n s]=yae a s (n+1):=by unfold yae; rw [List.range_succ,List.map_append]; rfl
theorem y5D (a:dA) (s:Int) {i n:Nat} (h:i < n):nth (yae a s n) i 0=yBM a i s:=by
 unfold yae
 rw [zkn,zke (by rw [List.length_map,List.length_range]; exact h)]; simp
def yal (a:dA) (s:Int):List Int×Bool :=
 bif yKs (fun (i:Nat)=>yq a i s) a.2.1.1.toNat then ([],false)
 else bif leb 0 (yH (fun (i:Nat)=>yq a i s) a.2.1.1.toNat) then ((yae a s a.2.1.1.toNat).set (yH (fun (i:Nat)=>yq a i s) a.2.1.1.toNat).toNat (ygi (yae a s a.2.1.1.toNat)),true)
 else (yae a s a.2.1.1.toNat,true)
theorem yPF {a:dA} {s:Int} (h:(yal a s).2=true):(yal a s).1.length=a.2.1.1.toNat:=by
 unfold yal at h ⊢
 cases h1:yKs (fun (i:Nat)=>yq a i s) a.2.1.1.toNat
 ·cases leb 0 (yH (fun (i:Nat)=>yq a i s) a.2.1.1.toNat)
  ·exact yr2 _ _ _
  ·simp only [cond_false,cond_true,List.length_set]; exact yr2 _ _ _
 ·rw [h1]at h; cases h
theorem y2I (a:dA) (s:Int) (n:Nat) (h:leb 0 (yH (fun (i:Nat)=>yq a i s) n)=true):inb (yH (fun (i:Nat)=>yq a i s) n) (yae a s n).length=true∧yrv (yae a s n) (yH (fun (i:Nat)=>yq a i s) n)=ygi (yae a s n):=by
 rcases y2H (fun (i:Nat)=>yq a i s) n with h1 | h1
 ·rw [h1]at h; cases h
 ·have h2:inb (yH (fun (i:Nat)=>yq a i s) n) (yae a s n).length=true:=by rw [yr2,zjD]; exact ⟨h1.1,h1.2.1⟩
  refine ⟨h2,y6A h2 ?_⟩
  have h3:=y5D a s (show (yH (fun (i:Nat)=>yq a i s) n).toNat < n by omega)
  rw [show (((yH (fun (i:Nat)=>yq a i s) n).toNat:Nat):Int)=yH (fun (i:Nat)=>yq a i s) n by omega]at h3
  rw [h3]
  unfold yBM
  have h4:yq a (yH (fun (i:Nat)=>yq a i s) n) s=false:=by
   have:=h1.2.2
   have this:yq a ((yH (fun (i:Nat)=>yq a i s) n).toNat:Nat) s=false:=h1.2.2
   rwa [show (((yH (fun (i:Nat)=>yq a i s) n).toNat:Nat):Int)=yH (fun (i:Nat)=>yq a i s) n by omega]at this
  rw [h4]; rfl
def yHA (a:dA) (s:Int):List Int×Bool:=bif (yal a s).2 then ((List.range (a.2.1.1 - 1).toNat).map (fun (i:Nat)=>nth (yal a s).1 (ybR a.2.1 s i) 0),true) else ([],false)
def yWK (a:dA) (s:Int):List Int×Bool:=bif yx a&&(!a.2.2.2.2.2.2.2.2.2.2.2&&yP a.2.1 s) then yHA a s else ([],false)
theorem y7s {x:Int} (h:isW x=true):(bv x).toNat < 2 ^ 16:=by
 have:=y0P.1 h
 unfold bv
 rw [BitVec.toNat_ofInt]
 omega
theorem y7x {v:BitVec 64} (h:v.toNat < 2 ^ 16):isW v.toInt=true:=by
 rw [BitVec.toInt_eq_toNat_of_lt (by omega)]
 exact y0P.2 (by omega)
theorem y7r: ∀ (l:List Int),l.all isW=true→(yVQ l).toNat < 2 ^ 16:=by
 intro l h
 have: ∀ (l:List Int) (v:BitVec 64),v.toNat < 2 ^ 16→l.all isW=true→(l.foldl (fun v x=>v ^^^ bv x) v).toNat < 2 ^ 16:=by
  intro l
  induction l with
  | nil=>intro v hv _; exact hv
  | cons x t ih =>
   intro v hv h
   simp only [List.all_cons,Bool.and_eq_true]at h
   refine ih _ ?_ h.2
   rw [BitVec.toNat_xor]
   exact Nat.xor_lt_two_pow hv (y7s h.1)
 exact this l 0#64 (by decide) h
theorem y6Q {l:List Int} (h:l.all isW=true):isW (ygi l)=true:=by
 rw [yVP]; exact y7x (y7r l h)
theorem yPG {l:List Int}:l.all isW=true↔ ∀ x∈l,isW x=true:=by simp
theorem y5O {l:List Int} {i:Int} (h:l.all isW=true):isW (nth l i 0)=true:=by
 unfold nth
 rw [List.getD_eq_getElem?_getD]
 cases e:l[i.toNat]? with
 | none=>rfl
 | some x=>exact yPG.1 h x (List.mem_of_getElem? e)
theorem y5T {l:List Int} {i:Nat} {x:Int} (h:l.all isW=true) (hx:isW x=true):(l.set i x).all isW=true:=by
 rw [yPG]at h ⊢
 intro y hy
 rcases List.mem_or_eq_of_mem_set hy with h1 | rfl
 ·exact h y h1
 ·exact hx
theorem y6b {m:dM} {n:Int} (h:(yoV m n).2=true):yaj (yoV m n).1=true:=by
 unfold yoV at h ⊢
 cases hc:yJh m n
 ·rw [hc]at h; cases h
 ·simp only [yJh,Bool.and_eq_true]at hc
  obtain ⟨h1,h2,h3,_,_,_⟩:=yby hc.1
  refine yKA (P:=fun s=>yaj s=true) ?_ fun w hw=> ?_
  ·exact yzG (P:=fun s=>yaj s=true) hc.2.2.1 (fun x hx=>List.all_eq_true.1 h1 x hx)
  ·have:=List.all_eq_true.1 h2 w hw
   simp only [yyy,Bool.and_eq_true]at this
   exact this.2
theorem y7d (a:dA) (m s:Int):isW (yBM a m s)=true:=by
 unfold yBM
 cases h:yq a m s
 ·rfl
 ·simp only [yq,Bool.and_eq_true]at h
  have:=y6b (m:=nth a.2.2.1 m noMem) (n:=dataAt s) h.2.1
  simp only [yaj,Bool.and_eq_true]at this
  exact y5O this.2
theorem yFT (a:dA) (s:Int) (n:Nat):(yae a s n).all isW=true:=by
 rw [yPG]
 unfold yae
 intro x hx
 obtain ⟨i,_,rfl⟩:=List.mem_map.1 hx
 exact y7d a i s
theorem y6O (a:dA) (s:Int):(yal a s).1.all isW=true:=by
 unfold yal
 cases yKs (fun (i:Nat)=>yq a i s) a.2.1.1.toNat
 ·cases leb 0 (yH (fun (i:Nat)=>yq a i s) a.2.1.1.toNat)
  ·exact yFT _ _ _
  ·exact y5T (yFT _ _ _) (y6Q (yFT _ _ _))
 ·rfl
theorem y6l (a:dA) (s:Int):(yHA a s).1.all isW=true:=by
 unfold yHA
 cases (yal a s).2
 ·rfl
 ·rw [yPG]
  intro x hx
  obtain ⟨i,_,rfl⟩:=List.mem_map.1 hx
  exact y5O (y6O a s)
end
section
def yLl:Code:=(Tryz.f139.body).getD .skip
def yLS:Env:=zj3 TT [] []
theorem yTM:FrOk Tryz.prog ⟨yLS,6,fun _=>none⟩ yLl:=zj7 yb yc trivial
def yWh:Nat→Option Seg:=fun _=>none
abbrev yol:List Par:= [.rd tG]
abbrev yuI:List OT:= [⟨false,tI,.fz⟩]
def yyo (a0:dG):Option (ResD yuI×MutD yol) :=
 some (((IntKind.i64.wrap (6+a0.2)),()),())
theorem y3u (x:InD yol):zjx ⟨yLS,6,yWh⟩ Tryz.f139.results.toList yLl yol yuI x=yyo x.1:=by kernel_rfl
theorem yZa:ConOk Tryz.prog 139 ⟨yol,yuI,fun x=>yyo x.1⟩:=zj2 (yTM) Tryz.func139 (by kernel_rfl) (by kernel_rfl) Tryz.ntmps139.symm (by decide) (fun x r h=>(y3u x).trans h)
def ycB (a0:dG):Int :=
 (IntKind.i64.wrap (6+a0.2))
def yqf:Con:=⟨yol,yuI,fun x=>(fun n=>some ((n,()),())) (ycB x.1)⟩
theorem y1j (a0:dG):yyo a0=(fun n=>some ((n,()),())) (ycB a0):=zkq (p:=fun (n:Int)=>((n,()),())) rfl
theorem yzK:ConOk Tryz.prog 139 yqf:=(yZa).mono (fun x r _ h=>(y1j x.1).trans h)
end
section
def yLk:Code:=(Tryz.f181.body).getD .skip
def yLR:Env:=zj3 TT [(135,yn)] []
theorem yTx:FrOk Tryz.prog ⟨yLR,5,fun _=>none⟩ yLk:=zj7 yb yc ⟨yu,trivial⟩
def yWg:Nat→Option Seg:=fun _=>none
abbrev yoi:List Par:= [.rd tI]
abbrev yuD:List OT:= [⟨false,tB,.fz⟩]
def yyn (a0:Int):Option (ResD yuD×MutD yoi) :=
 let r1:=ya a0 0 65535
 some ((r1,()),())
theorem y3n (x:InD yoi):zjx ⟨yLR,5,yWg⟩ Tryz.f181.results.toList yLk yoi yuD x=yyn x.1:=by kernel_rfl
theorem yY3:ConOk Tryz.prog 181 ⟨yoi,yuD,fun x=>yyn x.1⟩:=zj2 (yTx) Tryz.func181 (by kernel_rfl) (by kernel_rfl) Tryz.ntmps181.symm (by decide) (fun x r h=>(y3n x).trans h)
def yv (a0:Int):Bool :=
 let r1:=ya a0 0 65535
 r1
def yxD:Con:=⟨yoi,yuD,fun x=>(fun n=>some ((n,()),())) (yv x.1)⟩
theorem y1e (a0:Int):yyn a0=(fun n=>some ((n,()),())) (yv a0):=zkq (p:=fun (n:Bool)=>((n,()),())) rfl
theorem yJZ:ConOk Tryz.prog 181 yxD:=(yY3).mono (fun x r _ h=>(y1e x.1).trans h)
end
section
def ylI:Code:=(Tryz.f225.body).getD .skip
def yr8:Env:=zj3 TT [(181,yxD)] []
theorem yQS:FrOk Tryz.prog ⟨yr8,16,fun _=>none⟩ ylI:=zj7 yb yc ⟨yJZ,trivial⟩
def yDY:Nat→Option Seg:=fun _=>none
def yd5:Shape:=⟨[(0,false,[.br tI]),(3,false,[.int .i64])],[],[]⟩
def ykV:Shape:=⟨[(0,false,[.br tI]),(3,false,[.ci .i64 0])],[],[]⟩
def ykT:Shape:=⟨[],[],[]⟩
def yk8:Shape:=⟨[(2,false,[.bool])],[],[]⟩
def yrY (v0:List Int) (v1:Int):Option ((yd5).X ⊕ ((ykT).X ⊕ (yk8).X)) :=
 bif (ltb v1 (v0.length:Int)) then
 bif (inb v1 v0.length) then
 let r2:=yv (nth v0 v1 0)
 bif (!r2) then
 some (.inr (.inr (((false,()),()),(),())))
 else
 some (.inl (((v0,()),((IntKind.i64.wrap (v1+1)),()),()),(),()))
 else none
 else
 some (.inr (.inl ((),(),())))
def ycm (x:(yd5).X):=yrY x.1.1.1 x.1.2.1.1
def yAM (x:(ykV).X):(yd5).X:=(((x.1.1.1,()),(0,()),()),(),())
def yCp:Code:=(zdD ylI 64 52).getD .skip
theorem yQg:zdD ylI 64 13=some (.block 0 (.loop yCp)):=by kernel_rfl
theorem ySb (x:(yd5).X):zg0 ⟨yr8,16,yDY⟩ 0 yCp 52 yd5 ykT yk8 x=ycm x:=by kernel_rfl
def yA1 (x:(ykV).X):Nat:=18446744073709551616
def ys7 (x:(ykV).X):Option ((ykT).X ⊕ (yk8).X):=zz ycm (yA1 x) (yAM x)
def yBr:Seg:=⟨ykV,ykT,yk8,ys7⟩
def yDZ:Nat→Option Seg:=fun q=>bif Nat.beq q 13 then some yBr else yDY q
theorem yQT:FrOk Tryz.prog ⟨yr8,16,yDZ⟩ ylI:=(yQS).loop (sg:=yBr) yd5 yAM (by decide) yQg ycm yA1 (by decide) (fun _=>rfl) (fun x r _ h=>h) ySb
abbrev yhv:List Par:= [.rd tL]
abbrev yss:List OT:= [⟨false,tB,.fz⟩]
def ynI (a0:List Int):Option (ResD yss×MutD yhv) :=
 zjZ (ys7 (((a0,()),((),()),()),(),())) (fun y2 =>
 some ((true,()),())) (fun y2 =>
 some ((y2.1.1.1,()),()))
theorem y0C (x:InD yhv):zjx ⟨yr8,16,yDZ⟩ Tryz.f225.results.toList ylI yhv yss x=ynI x.1:=by kernel_rfl
theorem yVc:ConOk Tryz.prog 225 ⟨yhv,yss,fun x=>ynI x.1⟩:=zj2 (yQT) Tryz.func225 (by kernel_rfl) (by kernel_rfl) Tryz.ntmps225.symm (by decide) (fun x r h=>(y0C x).trans h)
def yU (a0:List Int):Bool:=a0.all yv
theorem yYw (a0:List Int) (hk:zi2 yhv (a0,())):ynI a0=(fun n=>some ((n,()),())) (yU a0):=by
 have hb:a0.length * 8≤2 ^ 47:=hk.1.1
 have hl:ys7 (((a0,()),((),()),()),(),())=some (bif a0.all yv then .inl ((),(),()) else .inr (((false,()),()),(),())) :=
  zjG (step:=ycm) a0 0 (fun i=>(((a0,()),((i:Int),()),()),(),())) yv _ _ (fun i hi=>by
   simp only [ycm,yrY,zkm hi,zkn,zj5 (show (i:Int) < a0.length by omega),cond_true,wr (show -9223372036854775808≤(i:Int)+1 by omega) (by omega),Int.natCast_add,Int.natCast_one]
   cases yv (a0.getD i 0)<;>rfl) (by simp only [ycm,yrY,zky (Int.le_refl _),cond_false]) _ (by show _ < 18446744073709551616; omega)
 unfold ynI yU
 rw [hl]
 cases a0.all yv<;>rfl
def yim:Con:=⟨yhv,yss,fun x=>(fun n=>some ((n,()),())) (yU x.1)⟩
theorem yqm:ConOk Tryz.prog 225 yim:=(yVc).mono (fun x r hk h=>(yYw x.1 hk).trans h)
end
section
def yNc:Code:=(Tryz.f269.body).getD .skip
def yNy:Env:=zj3 TT [(225,yim)] []
theorem yXH:FrOk Tryz.prog ⟨yNy,10,fun _=>none⟩ yNc:=zj7 yb yc ⟨yqm,trivial⟩
def yZ2:Nat→Option Seg:=fun _=>none
abbrev yra:List Par:= [.rd tL]
abbrev yw7:List OT:= [⟨false,tB,.fz⟩]
def yzZ (a0:List Int):Option (ResD yw7×MutD yra) :=
 bif (leb (a0.length:Int) 12) then
 let r1:=yU a0
 some ((r1,()),())
 else
 some ((false,()),())
theorem y4D (x:InD yra):zjx ⟨yNy,10,yZ2⟩ Tryz.f269.results.toList yNc yra yw7 x=yzZ x.1:=by kernel_rfl
theorem y1D:ConOk Tryz.prog 269 ⟨yra,yw7,fun x=>yzZ x.1⟩:=zj2 (yXH) Tryz.func269 (by kernel_rfl) (by kernel_rfl) Tryz.ntmps269.symm (by decide) (fun x r h=>(y4D x).trans h)
def yiq (a0:List Int):Bool :=
 bif (leb (a0.length:Int) 12) then
 let r1:=yU a0
 r1
 else
 false
def yzy:Con:=⟨yra,yw7,fun x=>(fun n=>some ((n,()),())) (yiq x.1)⟩
theorem y3S (a0:List Int):yzZ a0=(fun n=>some ((n,()),())) (yiq a0):=zkq (p:=fun (n:Bool)=>((n,()),())) (zkc (p:=fun (n:Bool)=>((n,()),())) rfl rfl)
theorem yL1:ConOk Tryz.prog 269 yzy:=(y1D).mono (fun x r _ h=>(y3S x.1).trans h)
theorem yIa:yiq=yaj:=funext fun s=>by
 unfold yiq yaj yU
 rw [show yv=isW from funext fun x=>by unfold yv; rw [ybE]; rfl]
 cases leb (s.length:Int) 12<;>rfl
end
end
end Go.Tf
