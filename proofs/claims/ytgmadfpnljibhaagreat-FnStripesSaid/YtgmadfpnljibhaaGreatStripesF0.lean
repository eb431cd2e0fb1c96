/- Functions of the program, and what they come to. -/
import Derived.Test.YtgmadfpnljibhaaGreatStripesTt
namespace Go.Tf
noncomputable section
open Go.Proofs
set_option synthInstance.maxHeartbeats 400000
set_option synthInstance.maxSize 10000
set_option linter.unusedVariables false
set_option linter.unusedSimpArgs false
set_option maxRecDepth 100000
section
def yRg:Code:=(Tryz.f12.body).getD .skip
def yRJ:Env:=zki TT [] []
theorem yYs:FrOk Tryz.prog ⟨yRJ,6,fun _=>none⟩ yRg:=zkp yb yd trivial
def yZg:Nat→Option Seg:=fun _=>none
abbrev yuM:List Par:= [.rd tYs]
abbrev yAC:List OT:= [⟨false,tB,.fz⟩]
def yCI (a0:List Int):Option (ResD yAC×MutD yuM) :=
 some (((ltb 1048576 (a0.length:Int)),()),())
theorem y1a (x:InD yuM):zjH ⟨yRJ,6,yZg⟩ Tryz.f12.results.toList yRg yuM yAC x=yCI x.1:=by kernel_rfl
theorem yZ8:ConOk Tryz.prog 12 ⟨yuM,yAC,fun x=>yCI x.1⟩:=zkh (yYs) Tryz.func12 (by kernel_rfl) (by kernel_rfl) Tryz.ntmps12.symm (by decide) (fun x r h=>(y1a x).trans h)
def yAK (a0:List Int):Bool :=
 (ltb 1048576 (a0.length:Int))
def yJX:Con:=⟨yuM,yAC,fun x=>(fun n=>some ((n,()),())) (yAK x.1)⟩
theorem y0D (a0:List Int):yCI a0=(fun n=>some ((n,()),())) (yAK a0):=zkS (p:=fun (n:Bool)=>((n,()),())) rfl
theorem y0F:ConOk Tryz.prog 12 yJX:=(yZ8).mono (fun x r _ h=>(y0D x.1).trans h)
def yad {α:Type} (p:α→Bool) (l:List α):Int:=bif l.any p then ((l.takeWhile (fun x=> !p x)).length:Int) else -1
theorem yXq {α:Type} (p:α→Bool):yad p []= -1:=rfl
theorem yAI {α:Type} (p:α→Bool) (x:α) (l:List α):yad p (x::l)=bif p x then 0 else bif leb 0 (yad p l) then yad p l+1 else -1:=by
 unfold yad
 rw [List.any_cons,List.takeWhile_cons]
 cases p x
 ·cases l.any p
  ·rfl
  ·simp only [Bool.false_or,Bool.not_false,if_true,cond_true,cond_false,List.length_cons]
   rw [zk0 (show (0:Int)≤((l.takeWhile (fun x=> !p x)).length:Int) by omega),cond_true]; omega
 ·simp
theorem yte {α:Type} {p:α→Bool} {d:α}: ∀ {l:List α},leb 0 (yad p l)=true→inb (yad p l) l.length=true∧p (nth l (yad p l) d)=true
 | [],h=>by rw [yXq]at h; cases h
 | x::l,h=>by
  rw [yAI]at h ⊢
  cases hx:p x
  ·rw [hx]at h
   cases hl:leb 0 (yad p l)
   ·rw [hl]at h; cases h
   ·obtain ⟨h1,h2⟩:=yte (d:=d) hl
    have h3:=zjP.1 h1
    have h4:=zjQ.1 hl
    simp only [cond_false,cond_true,List.length_cons]
    refine ⟨zjP.2 (by omega),?_⟩
    unfold nth at h2 ⊢
    rw [show (yad p l+1).toNat=(yad p l).toNat+1 by omega,List.getD_cons_succ]
    exact h2
  ·simp only [cond_true,List.length_cons]
   refine ⟨zjP.2 (by omega),?_⟩
   exact hx
theorem yXv {A B α:Type} {step:A→Option (A ⊕ B)} (l:List α) (d:α) (f:Nat→A) (p:α→Bool) (b:Int→B) (c:B)
  (h: ∀ i,i < l.length→step (f i)=some (bif p (l.getD i d) then .inr (b i) else .inl (f (i+1)))) (e:step (f l.length)=some (.inr c)) (fuel:Nat) (hf:l.length < fuel) :
  zr step fuel (f 0)=some (bif leb 0 (yad p l) then b (yad p l) else c):=by
 have: ∀ (t q:List α) (fuel:Nat),q++t=l→t.length < fuel→zr step fuel (f q.length)=some (bif leb 0 (yad p t) then b (q.length+yad p t) else c):=by
  intro t
  induction t with
  | nil =>
   intro q fuel hq hf
   obtain ⟨fuel,rfl⟩: ∃ m,fuel=m+1:=⟨fuel - 1,by omega⟩
   rw [List.append_nil]at hq
   subst hq
   simp only [zr,e]; rfl
  | cons x t ih =>
   intro q fuel hq hf
   obtain ⟨fuel,rfl⟩: ∃ m,fuel=m+1:=⟨fuel - 1,by omega⟩
   have hx:l.getD q.length d=x:=by
    subst hq
    rw [zcq (by simp)]; simp
   have hs:=h q.length (by rw [← hq]; simp)
   rw [hx]at hs
   rw [yAI]
   cases hp:p x
   ·rw [hp]at hs
    have:=ih (q++ [x]) fuel (by rw [← hq]; simp) (by simp at hf; omega)
    simp only [List.length_append,List.length_cons,List.length_nil]at this
    simp only [zr,hs,cond_false]
    rw [show q.length+1=q.length+(0+1) by omega,this]
    cases hl:leb 0 (yad p t)
    ·rfl
    ·have:=zjQ.1 hl
     rw [cond_true,cond_true,zk0 (show 0≤yad p t+1 by omega),cond_true]
     congr 2; omega
   ·rw [hp]at hs
    simp only [zr,hs,cond_true]
    rw [zk0 (Int.le_refl 0),cond_true,Int.add_zero]
 have:=this l [] fuel rfl hf
 simpa using this
theorem yqJ {α β:Type} (f:α→β): ∀ (l:List α) (s:List β),l.foldl (fun s i=>s++ [f i]) s=s++l.map f
 | [],s=>by simp
 | x::l,s=>by rw [List.foldl_cons,yqJ f l]; simp
theorem ytd {α:Type} (l:List α):l.foldl (fun s i=>s++ [i]) []=l:=by
 have:=yqJ id l []
 simpa using this
theorem y1Q {α:Type} (l:List α) (d:α) {i:Nat} (h:i < l.length):l.take i++ [nth l i d]=l.take (i+1):=by rw [zjW,zcq h,List.take_append_getElem h]
def yca (e:dW) (s:Bool×List dW) (x:dW):Bool×List dW:=(s.1||leb e.1 x.1,(bif !s.1&&leb e.1 x.1 then s.2++ [e] else s.2)++(bif x.1 !=e.1 then [x] else []))
def yLj (l:List dW) (e:dW):List dW:=bif (l.foldl (yca e) (false,[])).1 then (l.foldl (yca e) (false,[])).2 else (l.foldl (yca e) (false,[])).2++ [e]
def yCJ (a:dA) (l:List dW):dA:=(a.1,a.2.1,a.2.2.1,a.2.2.2.1,a.2.2.2.2.1,a.2.2.2.2.2.1,a.2.2.2.2.2.2.1,a.2.2.2.2.2.2.2.1,l,a.2.2.2.2.2.2.2.2.2)
def yG7 (m:dM):Nat:=(m.1.map (fun x:List Int=>x.length)).sum+(m.2.1.map (fun x:dW=>1+x.2.length)).sum+1+m.2.2.2.length
def yZe (l:List dM):Nat:=(l.map yG7).sum
def y2F (l:List dW):Nat:=(l.map (fun x:dW=>1+x.2.length)).sum
def yyW (a:dA):Nat:=yZe a.2.2.1+y2F a.2.2.2.2.2.2.2.2.1
abbrev noMem:dM:=([],[],false,[])
def isW (x:Int):Bool:=leb 0 x&&leb x 65535
def yab (s:List Int):Bool:=leb (s.length:Int) 12&&s.all isW
theorem yqK {x:Int}:isW x=true↔0≤x∧x≤65535:=by simp [isW,zjQ]
theorem ylM {s:List Int}:yab s=true↔s.length≤12∧ ∀ x∈s,0≤x∧x≤65535:=by
 simp only [yab,Bool.and_eq_true,zjQ,List.all_eq_true,yqK]
 constructor
 ·rintro ⟨h1,h2⟩; exact ⟨by omega,h2⟩
 ·rintro ⟨h1,h2⟩; exact ⟨by omega,h2⟩
theorem y0O: ∀ {l:List Int},l.Pairwise (· < ·)↔ ∀ i,i+1 < l.length→l.getD i 0 < l.getD (i+1) 0
 | []=>by simp
 | [x]=>by simp
 | x::y::l=>by
  have ih:=y0O (l:=y::l)
  constructor
  ·intro h i hi
   cases h with
   | cons h1 h2 =>
    cases i with
    | zero=>exact h1 y List.mem_cons_self
    | succ i=>exact ih.1 h2 i (by simpa using hi)
  ·intro h
   have h2:(y::l).Pairwise (· < ·):=ih.2 fun i hi=>h (i+1) (by simpa using hi)
   refine .cons (fun z hz=> ?_) h2
   have h3:x < y:=h 0 (by simp)
   rcases List.mem_cons.1 hz with rfl | hz
   ·exact h3
   ·cases h2 with
    | cons h4 _=>exact Int.lt_trans h3 (h4 z hz)
def yqE (n:Nat) (l:List Int):Bool:=l.all (fun x=>inb x n)&&decide (l.Pairwise (· < ·))
def ytS (n:Nat) (w:dW):Bool:=inb w.1 n&&yab w.2
def yl (m:dM):Bool:=m.1.all yab&&m.2.1.all (ytS m.1.length)&&yqE m.1.length m.2.2.2&&leb 1 (m.1.length:Int)&&leb (m.1.length:Int) 20&&leb (m.2.1.length:Int) 60
def yDR (n:Nat) (l:List Int) (i:Nat):Bool:= !(inb (l.getD i 0) n)||(decide (0 < i)&&leb (l.getD i 0) (l.getD (i - 1) 0))
theorem yXg (n:Nat) (l:List Int):(List.range l.length).any (yDR n l)= !(yqE n l):=by
 rw [Bool.eq_iff_iff,List.any_eq_true,Bool.not_eq_true',yqE,Bool.and_eq_false_iff,decide_eq_false_iff_not,y0O,List.all_eq_false]
 simp only [List.mem_range,yDR,Bool.or_eq_true,Bool.not_eq_true',Bool.and_eq_true,decide_eq_true_eq,zjQ]
 constructor
 ·rintro ⟨i,hi,h | ⟨h1,h2⟩⟩
  ·exact .inl ⟨l[i],List.getElem_mem hi,by rw [zcq hi]at h; simp [h]⟩
  ·refine .inr fun h3=> ?_
   have:=h3 (i - 1) (by omega)
   rw [show i - 1+1=i by omega]at this
   omega
 ·rintro (⟨x,hx,h⟩ | h)
  ·obtain ⟨i,hi,rfl⟩:=List.getElem_of_mem hx
   exact ⟨i,hi,.inl (by rw [zcq hi]; simpa using h)⟩
  ·refine Classical.byContradiction fun hc=>h fun i hi=> ?_
   refine Classical.byContradiction fun h4=>hc ⟨i+1,hi,.inr ⟨by omega,?_⟩⟩
   rw [Nat.add_sub_cancel]; omega
def yhC (n:Int) (c:List dW) (s:List Int):List Int:=c.foldl (fun s w=>bif w.1==n then w.2 else s) s
def ywU (m:dM) (n:Int):Bool:=yl m&&(!m.2.2.1&&(inb n m.1.length&& !(m.2.2.2.any (· ==n))))
def ybQ (m:dM) (n:Int):List Int×Bool:=bif ywU m n then (yhC n m.2.1 (nth m.1 n []),true) else ([],false)
theorem yHi {P:List Int→Prop} {n:Int}: ∀ {c:List dW} {s:List Int},P s→(∀ w∈c,P w.2)→P (yhC n c s)
 | [],_,h,_=>h
 | w::c,s,h,hc=>yHi (c:=c) (zkM (hc w List.mem_cons_self) h) (fun x hx=>hc x (List.mem_cons_of_mem _ hx))
theorem yub {α:Type} {P:α→Prop} {l:List α} {i:Int} {d:α} (h:inb i l.length=true) (hl: ∀ x∈l,P x):P (nth l i d):=by
 obtain ⟨h1,h2⟩:=zjP.1 h
 unfold nth
 rw [zcq (show i.toNat < l.length by omega)]
 exact hl _ (List.getElem_mem _)
theorem yVI {α:Type} {p:α→Bool} {l:List α} (h:leb 0 (yad p l)=false):yad p l= -1:=by
 unfold yad at h ⊢
 cases ha:l.any p
 ·rfl
 ·rw [ha,cond_true,zk0 (show (0:Int)≤((l.takeWhile (fun x=> !p x)).length:Int) by omega)] at h; cases h
theorem yXr {α:Type} {p:α→Bool}: ∀ {l:List α},leb 0 (yad p l)=true→(l.take ((yad p l).toNat+1)).filter (fun x=> !p x)=l.take (yad p l).toNat
 | [],h=>by rw [yXq]at h; cases h
 | x::l,h=>by
  rw [yAI]at h ⊢
  cases hx:p x
  ·rw [hx]at h
   cases hl:leb 0 (yad p l)
   ·rw [hl]at h; cases h
   ·have h4:=zjQ.1 hl
    simp only [cond_false,cond_true]
    rw [show (yad p l+1).toNat=(yad p l).toNat+1 by omega,List.take_succ_cons,List.take_succ_cons,List.filter_cons,hx,yXr hl]; rfl
  ·simp only [cond_true]
   show List.filter (fun x=> !p x) [x]= []
   rw [List.filter_cons,hx]; rfl
theorem y2l {α:Type} {p:α→Bool} {l:List α} (h:leb 0 (yad p l)=false):l.filter (fun x=> !p x)=l:=by
 rw [List.filter_eq_self]
 intro x hx
 unfold yad at h
 cases ha:l.any p
 ·have:=List.any_eq_false.1 ha x hx
  simpa using this
 ·rw [ha,cond_true,zk0 (show (0:Int)≤((l.takeWhile (fun x=> !p x)).length:Int) by omega)] at h; cases h
def yO (a:dA):dA:=(a.1,a.2.1,a.2.2.1,a.2.2.2.1,a.2.2.2.2.1,IntKind.i64.wrap (a.2.2.2.2.2.1+1),a.2.2.2.2.2.2)
def dataAt (s:Int):Int:=bif leb 0 s&&leb s 1099511627776 then s+6 else -1
def yby (a:dA) (m s:Int):Bool:=inb m a.2.2.1.length&&(!(nth a.2.2.1 m noMem).2.2.1&&(m !=a.2.2.2.1||ltb s a.2.2.2.2.1))
def yc0 (a:dA) (m s:Int):List Int×Bool:=ybQ (nth a.2.2.1 m noMem) (dataAt s)
def ym (a:dA) (m s:Int):Bool:=yby a m s&&((yc0 a m s).2&&((yc0 a m s).1.length:Int)==1)
def yjJ (a:dA) (m s:Int):Int:=bif ym a m s then nth (yc0 a m s).1 0 0 else 0
def xw (a b:Int):Int:=IntKind.i64.wrap ((BitVec.ofInt IntKind.i64.bits a ^^^ BitVec.ofInt IntKind.i64.bits b).toNat:Int)
def xorOf (l:List Int):Int:=l.foldl xw 0
def yBn (a:dA) (s:Int):Bool:=(List.range a.2.2.1.length).all (fun (i:Nat)=>ym a i s)
def yoZ (a:dA) (s:Int):Int×Bool:=bif yBn a s then (xorOf ((List.range a.2.2.1.length).map (fun (i:Nat)=>yjJ a i s)),true) else (0,false)
def yZd (a:dA):Bool:=(List.range (min a.2.1.2.toNat 20)).all (fun (s:Nat)=> !((yoZ a s).2&&(yoZ a s).1 !=0))
def bv (x:Int):BitVec 64:=BitVec.ofInt 64 x
theorem yUX (a b:Int):xw a b=(bv a ^^^ bv b).toInt:=by
 show IntKind.i64.wrap ((bv a ^^^ bv b).toNat:Int)=_
 rw [IntKind.wrap_i64,BitVec.toInt_eq_toNat_cond]
 have:=(bv a ^^^ bv b).isLt
 split<;>omega
theorem ys8 (v:BitVec 64):bv v.toInt=v:=by unfold bv; simp
theorem y4h (a b:Int):bv (xw a b)=bv a ^^^ bv b:=by rw [yUX,ys8]
theorem y0i {x:Int} (h: -9223372036854775808≤x) (h2:x≤9223372036854775807):(bv x).toInt=x:=by
 unfold bv
 rw [BitVec.toInt_ofInt,Int.bmod_def]
 simp only [Nat.reducePow]at *
 omega
def yd4 (l:List Int):BitVec 64:=l.foldl (fun v x=>v ^^^ bv x) 0#64
theorem ymB (l:List Int):xorOf l=(yd4 l).toInt:=by
 have: ∀ (l:List Int) (v:BitVec 64),l.foldl xw v.toInt=(l.foldl (fun v x=>v ^^^ bv x) v).toInt:=by
  intro l
  induction l with
  | nil=>intro _; rfl
  | cons x l ih =>
   intro v
   rw [List.foldl_cons,List.foldl_cons,yUX,ys8,ih]
 have h:=this l 0#64
 rwa [show (0#64:BitVec 64).toInt=0 from by decide]at h
theorem y1Z (l:List Int) (x:Int):yd4 (l++ [x])=yd4 l ^^^ bv x:=by unfold yd4; rw [List.foldl_append]; rfl
theorem y2E {i:Int} {n:Nat} (h: ¬ (0≤i∧i < (n:Int))):inb i n=false:=by
 cases e:inb i n
 ·rfl
 ·exact absurd (zjP.1 e) h
def ypE (l:List Int) (k:Int):Int:=bif inb k l.length then xw (xorOf l) (nth l k 0) else xorOf l
theorem yXM (u v:BitVec 64):u ^^^ v ^^^ v=u:=by rw [BitVec.xor_assoc,BitVec.xor_self,BitVec.xor_zero]
theorem y1K (l:List Int) (k:Int):(List.range l.length).foldl (fun n (i:Nat)=>bif (i:Int) !=k then xw n (nth l i 0) else n) 0=ypE l k:=by
 have: ∀ n,n≤l.length→(List.range n).foldl (fun n (i:Nat)=>bif (i:Int) !=k then xw n (nth l i 0) else n) 0=(bif inb k n then yd4 (l.take n) ^^^ bv (nth l k 0) else yd4 (l.take n)).toInt:=by
  intro n
  induction n with
  | zero =>
   intro _
   rw [y2E (show ¬ (0≤k∧k < ((0:Nat):Int)) by omega)]
   rfl
  | succ n ih =>
   intro hn
   rw [List.range_succ,List.foldl_append,List.foldl_cons,List.foldl_nil,ih (by omega),← y1Q l 0 (show n < l.length by omega),y1Z]
   by_cases hk:(n:Int)=k
   ·subst hk
    rw [show ((n:Int) !=n)=false by simp,cond_false,y2E (show ¬ (0≤(n:Int)∧(n:Int) < (n:Int)) by omega),show inb (n:Int) (n+1)=true from zkO (Nat.lt_succ_self n),cond_false,cond_true,yXM]
   ·rw [show ((n:Int) !=k)=true from bne_iff_ne.2 hk,cond_true,show inb k (n+1)=inb k n by rw [Bool.eq_iff_iff,zjP,zjP]; omega,yUX,ys8]
    cases inb k n
    ·rfl
    ·rw [cond_true,cond_true,BitVec.xor_assoc,BitVec.xor_comm (bv (nth l k 0)),← BitVec.xor_assoc]
 rw [this l.length (Nat.le_refl _),List.take_length]
 unfold ypE
 rw [yUX,ymB,ys8]
 cases inb k l.length<;>rfl
theorem y1J {l:List Int} {k:Int} (h:inb k l.length=true) (h0:nth l k 0=0):ypE l k=xorOf l:=by
 unfold ypE
 rw [h,h0,cond_true,yUX,ymB,ys8,show bv 0=0#64 by decide,BitVec.xor_zero]
abbrev ydv:dA:=(0,(0,0),[],0,0,0,0,0,[],0,false,false)
def yZb (k:Int) (i:Nat):Bool:=IntKind.i64.wrap ((BitVec.ofInt IntKind.i64.bits (k.fdiv (2 ^ (min (i:Int).toNat IntKind.i64.bits))) &&& BitVec.ofInt IntKind.i64.bits 1).toNat:Int)==1
def yS6 (k:Int):Int:=bif leb 0 k&&leb k 1048575 then k else 0
def ybx (b:Nat→Bool) (c:List dW) (l:List (List Int)) (i:Nat):List (List Int):=bif b i then l.set (nth c i (0,[])).1.toNat (nth c i (0,[])).2 else l
def yez (b:Nat→Bool) (c:List dW) (l:List (List Int)):List (List Int):=(List.range c.length).foldl (ybx b c) l
def ygL (m:dM) (k:Int):dM:=bif yl m then (yez (fun i=>decide (i < 20)&&yZb (yS6 k) i) m.2.1 m.1,[],m.2.2.1,m.2.2.2) else m
def yZV (ks:List Int) (i:Nat):Int:=bif decide (i < ks.length) then nth ks i 0 else 0
def y2O (l:List dM) (ks:List Int):List dM:=(List.range l.length).map (fun (i:Nat)=>ygL (nth l i noMem) (yZV ks i))
theorem yar {m:dM} (h:yl m=true):m.1.all yab=true∧m.2.1.all (ytS m.1.length)=true∧yqE m.1.length m.2.2.2=true∧1≤m.1.length∧m.1.length≤20∧m.2.1.length≤60:=by
 simp only [yl,Bool.and_eq_true,zjQ]at h
 exact ⟨h.1.1.1.1.1,h.1.1.1.1.2,h.1.1.1.2,by omega,by omega,by omega⟩
theorem yZ2 {m:dM} (h:yl m=true) {i:Nat} (hi:i < m.2.1.length):inb (nth m.2.1 i (0,[])).1 m.1.length=true∧yab (nth m.2.1 i (0,[])).2=true:=by
 have h1:=List.all_eq_true.1 (yar h).2.1 m.2.1[i] (List.getElem_mem hi)
 rw [zjW,zcq hi]
 exact Bool.and_eq_true_iff.1 h1
theorem yAJ {b:Nat→Bool} {c:List dW} {l:List (List Int)} {i:Nat}:(ybx b c l i).length=l.length:=by
 unfold ybx; cases b i
 ·rfl
 ·exact List.length_set
theorem ySp {α β:Type} (P:β→Prop) (f:β→α→β) (h: ∀ s x,P s→P (f s x)): ∀ (l:List α) (s:β),P s→P (l.foldl f s)
 | [],_,hs=>hs
 | x::l,s,hs=>ySp P f h l (f s x) (h s x hs)
theorem ynv {b:Nat→Bool} {c:List dW} {l:List (List Int)}:(yez b c l).length=l.length :=
 ySp (fun x=>x.length=l.length) _ (fun s x hs=>by rw [yAJ]; exact hs) _ l rfl
theorem y3u (b:Nat→Bool) (c:List dW) (l:List (List Int)):yez (fun i=>decide (i < 20)&&b i) c l=(List.range (min c.length 20)).foldl (ybx b c) l:=by
 have h1: ∀ n,n≤20→ ∀ l,(List.range n).foldl (ybx (fun i=>decide (i < 20)&&b i) c) l=(List.range n).foldl (ybx b c) l:=by
  intro n
  induction n with
  | zero=>intro _ _; rfl
  | succ n ih =>
   intro hn l
   rw [List.range_succ,List.foldl_append,List.foldl_append,ih (by omega)]
   simp only [List.foldl_cons,List.foldl_nil,ybx,show decide (n < 20)=true from decide_eq_true (by omega),Bool.true_and]
 have h2: ∀ n,20≤n→ ∀ l,(List.range n).foldl (ybx (fun i=>decide (i < 20)&&b i) c) l=(List.range 20).foldl (ybx b c) l:=by
  intro n
  induction n with
  | zero=>intro h; omega
  | succ n ih =>
   intro hn l
   by_cases h:20≤n
   ·rw [List.range_succ,List.foldl_append,ih h]
    simp only [List.foldl_cons,List.foldl_nil,ybx,show decide (n < 20)=false from decide_eq_false (by omega),Bool.false_and,cond_false]
   ·rw [h1 (n+1) (by omega),show n+1=20 by omega]
 unfold yez
 by_cases h:c.length≤20
 ·rw [h1 _ h,Nat.min_eq_left h]
 ·rw [h2 _ (by omega),Nat.min_eq_right (by omega)]
theorem yUS {l:List (List Int)} {b:Nat} (h:l.length≤20) (hs: ∀ x∈l,x.length≤b):(l.map (fun x:List Int=>x.length)).sum≤20 * b:=by
 have:=zi5 (f:=fun x:List Int=>x.length) hs
 exact Nat.le_trans this (Nat.mul_le_mul_right _ h)
theorem yNZ {P:List Int→Prop} {b:Nat→Bool} {c:List dW} {l:List (List Int)} (hl: ∀ x∈l,P x) (hc: ∀ w∈c,P w.2): ∀ x∈yez b c l,P x:=by
 have: ∀ (n:Nat),n≤c.length→ ∀ x∈(List.range n).foldl (ybx b c) l,P x:=by
  intro n
  induction n with
  | zero=>intro _; exact hl
  | succ n ih =>
   intro hn x hx
   rw [List.range_succ,List.foldl_append,List.foldl_cons,List.foldl_nil,ybx]at hx
   cases hb:b n
   ·rw [hb]at hx; exact ih (by omega) x hx
   ·rw [hb,cond_true]at hx
    rcases List.mem_or_eq_of_mem_set hx with h | h
    ·exact ih (by omega) x h
    ·rw [h,zjW,zcq (show n < c.length by omega)]
     exact hc _ (List.getElem_mem _)
 exact this _ (Nat.le_refl _)
theorem y1c (m:dM) (k:Int):yG7 (ygL m k)≤yG7 m+240:=by
 unfold ygL
 cases hm:yl m
 ·exact Nat.le_add_right _ _
 ·obtain ⟨h1,h2,_,_,h3,_⟩:=yar hm
  have hs: ∀ x∈yez (fun i=>decide (i < 20)&&yZb (yS6 k) i) m.2.1 m.1,x.length≤12 :=
   yNZ (P:=fun x=>x.length≤12) (fun x hx=>(ylM.1 (List.all_eq_true.1 h1 x hx)).1) (fun w hw=>(ylM.1 (Bool.and_eq_true_iff.1 (List.all_eq_true.1 h2 w hw)).2).1)
  have:=yUS (b:=12) (by rw [ynv]; exact h3) hs
  unfold yG7
  simp only [cond_true,List.map_nil,List.sum_nil]
  omega
theorem y26 (l:List dM) (ks:List Int):yZe (y2O l ks)≤yZe l+240 * l.length:=by
 have: ∀ n,n≤l.length→(((List.range n).map (fun (i:Nat)=>ygL (nth l i noMem) (yZV ks i))).map yG7).sum≤((l.take n).map yG7).sum+240 * n:=by
  intro n
  induction n with
  | zero=>intro _; simp
  | succ n ih =>
   intro hn
   rw [List.range_succ,List.map_append,List.map_append,List.sum_append,← List.take_append_getElem (show n < l.length by omega),List.map_append,List.sum_append]
   have:=ih (by omega)
   have h2:=y1c (nth l n noMem) (yZV ks n)
   rw [zjW,zcq (show n < l.length by omega)] at h2
   simp only [List.map_cons,List.map_nil,List.sum_cons,List.sum_nil]
   rw [zjW l n,zcq (show n < l.length by omega)]
   omega
 have h:=this l.length (Nat.le_refl _)
 rw [List.take_length]at h
 exact h
def yaC (m:dM) (n:Int) (s:List Int):Bool:=yl m&&(!m.2.2.1&&(inb n m.1.length&&(yab s&&ltb (m.2.1.length:Int) 60)))
def yHt (l:List Int) (n:Int):List Int:=l.filter (· !=n)
def yG (m:dM) (n:Int) (s:List Int):dM×Bool:=bif yaC m n s then ((m.1,m.2.1++ [(n,s)],m.2.2.1,yHt m.2.2.2 n),true) else (m,false)
def yq (m:dM):dM:=bif yl m&& !m.2.2.1 then (yez (fun _=>true) m.2.1 m.1,[],m.2.2.1,m.2.2.2) else m
def yle (m:dM):dM:=(m.1,[],true,m.2.2.2)
end
section
def yie:Code:=(Tryz.f36.body).getD .skip
def yn2:Env:=zki TT [] []
theorem yKk:FrOk Tryz.prog ⟨yn2,26,fun _=>none⟩ yie:=zkp yb yd trivial
def yzn:Nat→Option Seg:=fun _=>none
def ycD:Shape:=⟨[(0,false,[.br tI]),(1,false,[.br tI]),(5,false,[.int .i64])],[],[]⟩
def yiJ:Shape:=⟨[(0,false,[.br tI]),(1,false,[.br tI]),(5,false,[.ci .i64 0])],[],[]⟩
def yiu:Shape:=⟨[],[],[]⟩
def yi8:Shape:=⟨[(4,false,[.bool])],[],[]⟩
def ynT (v0 v1:List Int) (v2:Int):Option ((ycD).X ⊕ ((yiu).X ⊕ (yi8).X)) :=
 bif (ltb v2 (v0.length:Int)) then
 bif (inb v2 v0.length) then
 bif (inb v2 v1.length) then
 bif ((nth v0 v2 0) !=(nth v1 v2 0)) then
 some (.inr (.inr (((false,()),()),(),())))
 else
 some (.inl (((v0,()),(v1,()),((IntKind.i64.wrap (v2+1)),()),()),(),()))
 else none
 else none
 else
 some (.inr (.inl ((),(),())))
def ybt (x:(ycD).X):=ynT x.1.1.1 x.1.2.1.1 x.1.2.2.1.1
def yws (x:(yiJ).X):(ycD).X:=(((x.1.1.1,()),(x.1.2.1.1,()),(0,()),()),(),())
def yxN:Code:=(zdI yie 64 116).getD .skip
theorem yJR:zdI yie 64 29=some (.block 0 (.loop yxN)):=by kernel_rfl
theorem yLo (x:(ycD).X):zg7 ⟨yn2,26,yzn⟩ 0 yxN 116 ycD yiu yi8 x=ybt x:=by kernel_rfl
def ywz (x:(yiJ).X):Nat:=18446744073709551616
def ypi (x:(yiJ).X):Option ((yiu).X ⊕ (yi8).X):=zr ybt (ywz x) (yws x)
def ywJ:Seg:=⟨yiJ,yiu,yi8,ypi⟩
def yzo:Nat→Option Seg:=fun q=>bif Nat.beq q 29 then some ywJ else yzn q
theorem yKl:FrOk Tryz.prog ⟨yn2,26,yzo⟩ yie:=(yKk).loop (sg:=ywJ) ycD yws (by decide) yJR ybt ywz (by decide) (fun _=>rfl) (fun x r _ h=>h) yLo
abbrev yfk:List Par:= [.rd tL,.rd tL]
abbrev yoe:List OT:= [⟨false,tB,.fz⟩]
def ykh (a0 a1:List Int):Option (ResD yoe×MutD yfk) :=
 bif ((a0.length:Int) !=(a1.length:Int)) then
 some ((false,()),())
 else
 zjw (ypi (((a0,()),(a1,()),((),()),()),(),())) (fun y0 =>
 some ((true,()),())) (fun y0 =>
 some ((y0.1.1.1,()),()))
theorem ySd (x:InD yfk):zjH ⟨yn2,26,yzo⟩ Tryz.f36.results.toList yie yfk yoe x=ykh x.1 x.2.1:=by kernel_rfl
theorem yNm:ConOk Tryz.prog 36 ⟨yfk,yoe,fun x=>ykh x.1 x.2.1⟩:=zkh (yKl) Tryz.func36 (by kernel_rfl) (by kernel_rfl) Tryz.ntmps36.symm (by decide) (fun x r h=>(ySd x).trans h)
def yae (a0 a1:List Int):Bool:=decide (a0=a1)
theorem yQg (a0 a1:List Int) (hk:zi9 yfk (a0,a1,())):ykh a0 a1=(fun n=>some ((n,()),())) (yae a0 a1):=by
 have hb:a0.length * 8≤2 ^ 47:=hk.1.1
 have hl:a0.length=a1.length→ypi (((a0,()),(a1,()),((),()),()),(),())=some (bif (List.range a0.length).any (fun i=>a0.getD i 0 !=a1.getD i 0) then .inr (((false,()),()),(),()) else .inl ((),(),())):=fun hL =>
  zf4 (step:=ybt) (fun i=>(((a0,()),(a1,()),((i:Int),()),()),(),())) a0.length (fun i=>a0.getD i 0 !=a1.getD i 0) _ _ (fun i hi=>by
   simp only [ybt,ynT,zkO hi,zkO (hL ▸ hi),zjW,zjI (show (i:Int) < a0.length by omega),cond_true,wr (show -9223372036854775808≤(i:Int)+1 by omega) (by omega),Int.natCast_add,Int.natCast_one]
   cases (a0.getD i 0 !=a1.getD i 0)<;>rfl) (by simp only [ybt,ynT,zkm (Int.le_refl _),cond_false]) _ (by show _ < 18446744073709551616; omega)
 unfold ykh yae
 by_cases h:a0.length=a1.length
 ·rw [show ((a0.length:Int) !=(a1.length:Int))=false by simp [h],zkX,hl h]
  by_cases e:a0=a1
  ·subst e
   have:(List.range a0.length).any (fun i=>a0.getD i 0 !=a0.getD i 0)=false:=by simp
   rw [this,decide_eq_true rfl]
   rfl
  ·have:(List.range a0.length).any (fun i=>a0.getD i 0 !=a1.getD i 0)=true:=by
    rcases Bool.eq_false_or_eq_true ((List.range a0.length).any (fun i=>a0.getD i 0 !=a1.getD i 0)) with h2 | h2
    ·exact h2
    ·refine absurd (List.ext_getElem h fun i h3 h4=> ?_) e
     rw [List.any_eq_false]at h2
     have:=h2 i (List.mem_range.2 h3)
     simpa [h3,h4] using this
   rw [this,decide_eq_false e]
   rfl
 ·rw [show ((a0.length:Int) !=(a1.length:Int))=true from bne_iff_ne.2 (by omega),zkY,decide_eq_false (fun e=>h (congrArg _ e))]
theorem yh8 (a:List Int):yae a a=true:=by unfold yae; simp
def yj4:Con:=⟨yfk,yoe,fun x=>(fun n=>some ((n,()),())) (yae x.1 x.2.1)⟩
theorem ytw:ConOk Tryz.prog 36 yj4:=(yNm).mono (fun x r hk h=>(yQg x.1 x.2.1 hk).trans h)
end
section
def ygU:Code:=(Tryz.f56.body).getD .skip
def ylO:Env:=zki TT [(36,yj4)] []
theorem yIT:FrOk Tryz.prog ⟨ylO,42,fun _=>none⟩ ygU:=zkp yb yd ⟨ytw,trivial⟩
def yxy:Nat→Option Seg:=fun _=>none
def yaP:Shape:=⟨[(0,false,[.br tW]),(1,false,[.br tW]),(5,false,[.int .i64])],[],[]⟩
def yee:Shape:=⟨[(0,false,[.br tW]),(1,false,[.br tW]),(5,false,[.ci .i64 0])],[],[]⟩
def yd9:Shape:=⟨[],[],[]⟩
def yhF:Shape:=⟨[(4,false,[.bool])],[],[]⟩
abbrev yma (v0 v1:List dW) (v2:Int):(yaP).X:=(((v0,()),(v1,()),(v2,()),()),(),())
abbrev yHd (v0 v1:List dW):(yee).X:=(((v0,()),(v1,()),((),()),()),(),())
abbrev yvG  :(yd9).X:=((),(),())
def ymx (v0 v1:List dW) (v2:Int):Option ((yaP).X ⊕ ((yd9).X ⊕ (yhF).X)) :=
 bif (ltb v2 (v0.length:Int)) then
 bif (inb v2 v0.length) then
 bif (inb v2 v1.length) then
 bif (!((nth v0 v2 (0,[])).1 !=(nth v1 v2 (0,[])).1)) then
 bif (inb v2 v0.length) then
 bif (inb v2 v1.length) then
 let r2:=yae ((nth v0 v2 (0,[])).2) ((nth v1 v2 (0,[])).2)
 bif (!r2) then
 some (.inr (.inr (((false,()),()),(),())))
 else
 some (.inl (((v0,()),(v1,()),((IntKind.i64.wrap (v2+1)),()),()),(),()))
 else none
 else none
 else
 some (.inr (.inr (((false,()),()),(),())))
 else none
 else none
 else
 some (.inr (.inl ((),(),())))
def ya0 (x:(yaP).X):=ymx x.1.1.1 x.1.2.1.1 x.1.2.2.1.1
def yvs (x:(yee).X):(yaP).X:=(((x.1.1.1,()),(x.1.2.1.1,()),(0,()),()),(),())
def ywg:Code:=(zdI ygU 64 116).getD .skip
theorem yIG:zdI ygU 64 29=some (.block 0 (.loop ywg)):=by kernel_rfl
theorem yJk (x:(yaP).X):zg7 ⟨ylO,42,yxy⟩ 0 ywg 116 yaP yd9 yhF x=ya0 x:=by kernel_rfl
def yvx (x:(yee).X):Nat:=18446744073709551616
def yny (x:(yee).X):Option ((yd9).X ⊕ (yhF).X):=zr ya0 (yvx x) (yvs x)
def yv6:Seg:=⟨yee,yd9,yhF,yny⟩
def yxz:Nat→Option Seg:=fun q=>bif Nat.beq q 29 then some yv6 else yxy q
theorem yIU:FrOk Tryz.prog ⟨ylO,42,yxz⟩ ygU:=(yIT).loop (sg:=yv6) yaP yvs (by decide) yIG ya0 yvx (by decide) (fun _=>rfl) (fun x r _ h=>h) yJk
abbrev ygY:List Par:= [.rd tWs,.rd tWs]
abbrev ylW:List OT:= [⟨false,tB,.fz⟩]
def ybh (a0 a1:List dW):Option (ResD ylW×MutD ygY) :=
 bif ((a0.length:Int) !=(a1.length:Int)) then
 some ((false,()),())
 else
 zjw (yny (((a0,()),(a1,()),((),()),()),(),())) (fun y2 =>
 some ((true,()),())) (fun y2 =>
 some ((y2.1.1.1,()),()))
theorem yOE (x:InD ygY):zjH ⟨ylO,42,yxz⟩ Tryz.f56.results.toList ygU ygY ylW x=ybh x.1 x.2.1:=by kernel_rfl
theorem yK8:ConOk Tryz.prog 56 ⟨ygY,ylW,fun x=>ybh x.1 x.2.1⟩:=zkh (yIU) Tryz.func56 (by kernel_rfl) (by kernel_rfl) Tryz.ntmps56.symm (by decide) (fun x r h=>(yOE x).trans h)
def ypz:Con:=⟨ygY,ylW,fun x=>ybh x.1 x.2.1⟩
theorem yAq:ConOk Tryz.prog 56 ypz:=yK8
theorem yUR (l:List dW) (h:l.length≤1000000000):ybh l l=some ((true,()),()):=by
 have l1:yny (yHd l l)=some (.inl yvG) :=
  zks (step:=ya0) l.length (fun i (_:Unit)=>yma l l i) (fun _ _=>()) (fun _ _=>True) (fun _=> .inl yvG) (fun i s hi _=>⟨by
   simp only [ya0,yma,ymx,zjI (show (i:Int) < l.length by omega),cond_true,wr (show -9223372036854775808≤(i:Int)+1 by omega) (by omega),Int.natCast_add,Int.natCast_one,Int.toNat_natCast,zkO hi,yh8,bne_self_eq_false,Bool.not_true,Bool.not_false,cond_true,cond_false],trivial⟩) (fun s _=>by simp only [ya0,yma,ymx,zkm (Int.le_refl _),cond_false]) () trivial 18446744073709551616 (by omega)
 unfold ybh
 rw [bne_self_eq_false,cond_false]
 exact (congrArg (fun z=>zjw z _ _) l1).trans rfl
end
section
def ycx:Code:=(Tryz.f167.body).getD .skip
def ygB:Env:=zki TT [(36,yj4)] []
theorem yMu:FrOk Tryz.prog ⟨ygB,93,fun _=>none⟩ ycx:=zkp yb yd ⟨ytw,trivial⟩
def yA4:Nat→Option Seg:=fun _=>none
def ybH:Shape:=⟨[(2,false,[.ptr 0 0]),(3,false,[.ptr 64 0]),(5,false,[.int .i64])],[(0,[.br tL,.br tW,.bool,.br tI]),(64,[.br tL,.br tW,.bool,.br tI])],[]⟩
def yf7:Shape:=⟨[(2,false,[.ptr 0 0]),(3,false,[.ptr 64 0]),(5,false,[.ci .i64 0])],[(0,[.br tL,.br tW,.bool,.br tI]),(64,[.br tL,.br tW,.bool,.br tI])],[]⟩
def yfV:Shape:=⟨[(2,false,[.ptr 0 0]),(3,false,[.ptr 64 0])],[(0,[.br tL,.br tW,.bool,.br tI]),(64,[.br tL,.br tW,.bool,.br tI])],[]⟩
def yjY:Shape:=⟨[(4,false,[.bool])],[],[]⟩
abbrev ypL (v0:Int) (v1 v2:dM):(ybH).X:=((((),()),((),()),(v0,()),()),((v1.1,v1.2.1,v1.2.2.1,v1.2.2.2,()),(v2.1,v2.2.1,v2.2.2.1,v2.2.2.2,()),()),())
abbrev yKO (v0 v1:dM):(yf7).X:=((((),()),((),()),((),()),()),((v0.1,v0.2.1,v0.2.2.1,v0.2.2.2,()),(v1.1,v1.2.1,v1.2.2.1,v1.2.2.2,()),()),())
abbrev yyw (v0 v1:dM):(yfV).X:=((((),()),((),()),()),((v0.1,v0.2.1,v0.2.2.1,v0.2.2.2,()),(v1.1,v1.2.1,v1.2.2.1,v1.2.2.2,()),()),())
def yp7 (v0:Int) (v1:List (List Int)) (v2:List dW) (v3:Bool) (v4:List Int) (v5:List (List Int)) (v6:List dW) (v7:Bool) (v8:List Int):Option ((ybH).X ⊕ ((yfV).X ⊕ (yjY).X)) :=
 bif (ltb v0 (v1.length:Int)) then
 bif (inb v0 v1.length) then
 bif (inb v0 v5.length) then
 let r3:=yae (nth v1 v0 []) (nth v5 v0 [])
 bif (!r3) then
 some (.inr (.inr (((false,()),()),(),())))
 else
 some (.inl ((((),()),((),()),((IntKind.i64.wrap (v0+1)),()),()),((v1,v2,v3,v4,()),(v5,v6,v7,v8,()),()),()))
 else none
 else none
 else
 some (.inr (.inl ((((),()),((),()),()),((v1,v2,v3,v4,()),(v5,v6,v7,v8,()),()),())))
def ybY (x:(ybH).X):=yp7 x.1.2.2.1.1 x.2.1.1.1 x.2.1.1.2.1 x.2.1.1.2.2.1 x.2.1.1.2.2.2.1 x.2.1.2.1.1 x.2.1.2.1.2.1 x.2.1.2.1.2.2.1 x.2.1.2.1.2.2.2.1
def yx2 (x:(yf7).X):(ybH).X:=((((),()),((),()),(0,()),()),((x.2.1.1.1,x.2.1.1.2.1,x.2.1.1.2.2.1,x.2.1.1.2.2.2.1,()),(x.2.1.2.1.1,x.2.1.2.1.2.1,x.2.1.2.1.2.2.1,x.2.1.2.1.2.2.2.1,()),()),())
def yzG:Code:=(zdI ycx 64 116).getD .skip
theorem yL3:zdI ycx 64 29=some (.block 0 (.loop yzG)):=by kernel_rfl
theorem yNK (x:(ybH).X):zg7 ⟨ygB,93,yA4⟩ 0 yzG 116 ybH yfV yjY x=ybY x:=by kernel_rfl
def yyj (x:(yf7).X):Nat:=18446744073709551616
def yre (x:(yf7).X):Option ((yfV).X ⊕ (yjY).X):=zr ybY (yyj x) (yx2 x)
def yyJ:Seg:=⟨yf7,yfV,yjY,yre⟩
def ysW:Nat→Option Seg:=fun q=>bif Nat.beq q 29 then some yyJ else yA4 q
theorem yMv:FrOk Tryz.prog ⟨ygB,93,ysW⟩ ycx:=(yMu).loop (sg:=yyJ) ybH yx2 (by decide) yL3 ybY yyj (by decide) (fun _=>rfl) (fun x r _ h=>h) yNK
def ybI:Shape:=⟨[(2,false,[.ptr 0 0]),(3,false,[.ptr 64 0]),(6,false,[.int .i64])],[(0,[.br tL,.br tW,.bool,.br tI]),(64,[.br tL,.br tW,.bool,.br tI])],[]⟩
def yf8:Shape:=⟨[(2,false,[.ptr 0 0]),(3,false,[.ptr 64 0]),(6,false,[.ci .i64 0])],[(0,[.br tL,.br tW,.bool,.br tI]),(64,[.br tL,.br tW,.bool,.br tI])],[]⟩
def yfW:Shape:=⟨[],[],[]⟩
def yjZ:Shape:=⟨[(4,false,[.bool])],[],[]⟩
abbrev ypM (v0:Int) (v1 v2:dM):(ybI).X:=((((),()),((),()),(v0,()),()),((v1.1,v1.2.1,v1.2.2.1,v1.2.2.2,()),(v2.1,v2.2.1,v2.2.2.1,v2.2.2.2,()),()),())
abbrev yKP (v0 v1:dM):(yf8).X:=((((),()),((),()),((),()),()),((v0.1,v0.2.1,v0.2.2.1,v0.2.2.2,()),(v1.1,v1.2.1,v1.2.2.1,v1.2.2.2,()),()),())
abbrev yyx  :(yfW).X:=((),(),())
def yp8 (v0:Int) (v1:List (List Int)) (v2:List dW) (v3:Bool) (v4:List Int) (v5:List (List Int)) (v6:List dW) (v7:Bool) (v8:List Int):Option ((ybI).X ⊕ ((yfW).X ⊕ (yjZ).X)) :=
 bif (ltb v0 (v2.length:Int)) then
 bif (inb v0 v2.length) then
 bif (inb v0 v6.length) then
 bif (!((nth v2 v0 (0,[])).1 !=(nth v6 v0 (0,[])).1)) then
 bif (inb v0 v2.length) then
 bif (inb v0 v6.length) then
 let r6:=yae ((nth v2 v0 (0,[])).2) ((nth v6 v0 (0,[])).2)
 bif (!r6) then
 some (.inr (.inr (((false,()),()),(),())))
 else
 some (.inl ((((),()),((),()),((IntKind.i64.wrap (v0+1)),()),()),((v1,v2,v3,v4,()),(v5,v6,v7,v8,()),()),()))
 else none
 else none
 else
 some (.inr (.inr (((false,()),()),(),())))
 else none
 else none
 else
 some (.inr (.inl ((),(),())))
def ybZ (x:(ybI).X):=yp8 x.1.2.2.1.1 x.2.1.1.1 x.2.1.1.2.1 x.2.1.1.2.2.1 x.2.1.1.2.2.2.1 x.2.1.2.1.1 x.2.1.2.1.2.1 x.2.1.2.1.2.2.1 x.2.1.2.1.2.2.2.1
def yx3 (x:(yf8).X):(ybI).X:=((((),()),((),()),(0,()),()),((x.2.1.1.1,x.2.1.1.2.1,x.2.1.1.2.2.1,x.2.1.1.2.2.2.1,()),(x.2.1.2.1.1,x.2.1.2.1.2.1,x.2.1.2.1.2.2.1,x.2.1.2.1.2.2.2.1,()),()),())
def yzH:Code:=(zdI ycx 64 244).getD .skip
theorem yL4:zdI ycx 64 61=some (.block 2 (.loop yzH)):=by kernel_rfl
theorem yNL (x:(ybI).X):zg7 ⟨ygB,93,ysW⟩ 2 yzH 244 ybI yfW yjZ x=ybZ x:=by kernel_rfl
def yyk (x:(yf8).X):Nat:=18446744073709551616
def yrf (x:(yf8).X):Option ((yfW).X ⊕ (yjZ).X):=zr ybZ (yyk x) (yx3 x)
def yyK:Seg:=⟨yf8,yfW,yjZ,yrf⟩
def yA5:Nat→Option Seg:=fun q=>bif Nat.beq q 61 then some yyK else ysW q
theorem yMw:FrOk Tryz.prog ⟨ygB,93,yA5⟩ ycx:=(yMv).loop (sg:=yyK) ybI yx3 (by decide) yL4 ybZ yyk (by decide) (fun _=>rfl) (fun x r _ h=>h) yNL
abbrev ykK:List Par:= [.rd tM,.rd tM]
abbrev yqv:List OT:= [⟨false,tB,.fz⟩]
def yeD (a0 a1:dM):Option (ResD yqv×MutD ykK) :=
 bif (!((a0.1.length:Int) !=(a1.1.length:Int))) then
 bif (!((a0.2.1.length:Int) !=(a1.2.1.length:Int))) then
 bif (!(!(a0.2.2.1==a1.2.2.1))) then
 let r1:=yae a0.2.2.2 a1.2.2.2
 bif (!r1) then
 some ((false,()),())
 else
 zjw (yre ((((),()),((),()),((),()),()),((a0.1,a0.2.1,a0.2.2.1,a0.2.2.2,()),(a1.1,a1.2.1,a1.2.2.1,a1.2.2.2,()),()),())) (fun y3 =>
 zjw (yrf ((((),()),((),()),((),()),()),((y3.2.1.1.1,y3.2.1.1.2.1,y3.2.1.1.2.2.1,y3.2.1.1.2.2.2.1,()),(y3.2.1.2.1.1,y3.2.1.2.1.2.1,y3.2.1.2.1.2.2.1,y3.2.1.2.1.2.2.2.1,()),()),())) (fun y6 =>
 some ((true,()),())) (fun y6 =>
 some ((y6.1.1.1,()),()))) (fun y3 =>
 some ((y3.1.1.1,()),()))
 else
 some ((false,()),())
 else
 some ((false,()),())
 else
 some ((false,()),())
theorem yVn (x:InD ykK):zjH ⟨ygB,93,yA5⟩ Tryz.f167.results.toList ycx ykK yqv x=yeD x.1 x.2.1:=by kernel_rfl
theorem yQz:ConOk Tryz.prog 167 ⟨ykK,yqv,fun x=>yeD x.1 x.2.1⟩:=zkh (yMw) Tryz.func167 (by kernel_rfl) (by kernel_rfl) Tryz.ntmps167.symm (by decide) (fun x r h=>(yVn x).trans h)
def yBH:Con:=⟨ykK,yqv,fun x=>yeD x.1 x.2.1⟩
theorem yUp:ConOk Tryz.prog 167 yBH:=yQz
theorem y2u (m:dM) (h1:m.1.length≤1000000000) (h2:m.2.1.length≤1000000000):yeD m m=some ((true,()),()):=by
 have l1:yre (yKO m m)=some (.inl (yyw m m)) :=
  zks (step:=ybY) m.1.length (fun i (_:Unit)=>ypL i m m) (fun _ _=>()) (fun _ _=>True) (fun _=> .inl (yyw m m)) (fun i s hi _=>⟨by
   simp only [ybY,ypL,yp7,zjI (show (i:Int) < m.1.length by omega),cond_true,wr (show -9223372036854775808≤(i:Int)+1 by omega) (by omega),Int.natCast_add,Int.natCast_one,Int.toNat_natCast,zkO hi,yh8,Bool.not_true,cond_false],trivial⟩) (fun s _=>by simp only [ybY,ypL,yp7,zkm (Int.le_refl _),cond_false]) () trivial 18446744073709551616 (by omega)
 have l2:yrf (yKP m m)=some (.inl yyx) :=
  zks (step:=ybZ) m.2.1.length (fun i (_:Unit)=>ypM i m m) (fun _ _=>()) (fun _ _=>True) (fun _=> .inl yyx) (fun i s hi _=>⟨by
   simp only [ybZ,ypM,yp8,zjI (show (i:Int) < m.2.1.length by omega),cond_true,wr (show -9223372036854775808≤(i:Int)+1 by omega) (by omega),Int.natCast_add,Int.natCast_one,Int.toNat_natCast,zkO hi,yh8,bne_self_eq_false,Bool.not_true,Bool.not_false,cond_true,cond_false],trivial⟩) (fun s _=>by simp only [ybZ,ypM,yp8,zkm (Int.le_refl _),cond_false]) () trivial 18446744073709551616 (by omega)
 unfold yeD
 simp only [bne_self_eq_false,beq_self_eq_true,yh8,Bool.not_true,Bool.not_false,cond_true,cond_false]
 refine (congrArg (fun z=>zjw z _ _) l1).trans ?_
 rw [zkJ]
 exact (congrArg (fun z=>zjw z _ _) l2).trans rfl
end
section
def yif:Code:=(Tryz.f71.body).getD .skip
def yn3:Env:=zki TT [(167,yBH)] []
theorem yKm:FrOk Tryz.prog ⟨yn3,27,fun _=>none⟩ yif:=zkp yb yd ⟨yUp,trivial⟩
def yzp:Nat→Option Seg:=fun _=>none
def ybc:Shape:=⟨[(0,false,[.br tM]),(1,false,[.br tM]),(5,false,[.int .i64])],[],[]⟩
def yeZ:Shape:=⟨[(0,false,[.br tM]),(1,false,[.br tM]),(5,false,[.ci .i64 0])],[],[]⟩
def yeT:Shape:=⟨[],[],[]⟩
def yi9:Shape:=⟨[(4,false,[.bool])],[],[]⟩
abbrev ynG (v0 v1:List dM) (v2:Int):(ybc).X:=(((v0,()),(v1,()),(v2,()),()),(),())
abbrev yI2 (v0 v1:List dM):(yeZ).X:=(((v0,()),(v1,()),((),()),()),(),())
abbrev ywD  :(yeT).X:=((),(),())
def ynU (v0 v1:List dM) (v2:Int):Option ((ybc).X ⊕ ((yeT).X ⊕ (yi9).X)) :=
 bif (ltb v2 (v0.length:Int)) then
 bif (inb v2 v0.length) then
 bif (inb v2 v1.length) then
 bnd (yeD ((nth v0 v2 ([],[],false,[])).1,((nth v0 v2 ([],[],false,[])).2).1,(((nth v0 v2 ([],[],false,[])).2).2)) ((nth v1 v2 ([],[],false,[])).1,((nth v1 v2 ([],[],false,[])).2).1,(((nth v1 v2 ([],[],false,[])).2).2))) fun r2 =>
 bif (!r2.1.1) then
 some (.inr (.inr (((false,()),()),(),())))
 else
 some (.inl (((v0,()),(v1,()),((IntKind.i64.wrap (v2+1)),()),()),(),()))
 else none
 else none
 else
 some (.inr (.inl ((),(),())))
def ybu (x:(ybc).X):=ynU x.1.1.1 x.1.2.1.1 x.1.2.2.1.1
def ywt (x:(yeZ).X):(ybc).X:=(((x.1.1.1,()),(x.1.2.1.1,()),(0,()),()),(),())
def yxO:Code:=(zdI yif 64 116).getD .skip
theorem yJS:zdI yif 64 29=some (.block 0 (.loop yxO)):=by kernel_rfl
theorem yLp (x:(ybc).X):zg7 ⟨yn3,27,yzp⟩ 0 yxO 116 ybc yeT yi9 x=ybu x:=by kernel_rfl
def ywA (x:(yeZ).X):Nat:=18446744073709551616
def ypj (x:(yeZ).X):Option ((yeT).X ⊕ (yi9).X):=zr ybu (ywA x) (ywt x)
def ywK:Seg:=⟨yeZ,yeT,yi9,ypj⟩
def yzq:Nat→Option Seg:=fun q=>bif Nat.beq q 29 then some ywK else yzp q
theorem yKn:FrOk Tryz.prog ⟨yn3,27,yzq⟩ yif:=(yKm).loop (sg:=ywK) ybc ywt (by decide) yJS ybu ywA (by decide) (fun _=>rfl) (fun x r _ h=>h) yLp
abbrev yil:List Par:= [.rd tMs,.rd tMs]
abbrev yof:List OT:= [⟨false,tB,.fz⟩]
def ydD (a0 a1:List dM):Option (ResD yof×MutD yil) :=
 bif ((a0.length:Int) !=(a1.length:Int)) then
 some ((false,()),())
 else
 zjw (ypj (((a0,()),(a1,()),((),()),()),(),())) (fun y2 =>
 some ((true,()),())) (fun y2 =>
 some ((y2.1.1.1,()),()))
theorem ySe (x:InD yil):zjH ⟨yn3,27,yzq⟩ Tryz.f71.results.toList yif yil yof x=ydD x.1 x.2.1:=by kernel_rfl
theorem yNn:ConOk Tryz.prog 71 ⟨yil,yof,fun x=>ydD x.1 x.2.1⟩:=zkh (yKn) Tryz.func71 (by kernel_rfl) (by kernel_rfl) Tryz.ntmps71.symm (by decide) (fun x r h=>(ySe x).trans h)
def yzS:Con:=⟨yil,yof,fun x=>ydD x.1 x.2.1⟩
theorem yQT:ConOk Tryz.prog 71 yzS:=yNn
theorem y1O (l:List dM) (h:l.length≤1000000000) (hm: ∀ m∈l,m.1.length≤1000000000∧m.2.1.length≤1000000000):ydD l l=some ((true,()),()):=by
 have l1:ypj (yI2 l l)=some (.inl ywD) :=
  zks (step:=ybu) l.length (fun i (_:Unit)=>ynG l l i) (fun _ _=>()) (fun _ _=>True) (fun _=> .inl ywD) (fun i s hi _=>⟨by
   have hn:=yub (P:=fun m:dM=>m.1.length≤1000000000∧m.2.1.length≤1000000000) (d:=noMem) (zkO hi) hm
   simp only [ybu,ynG,ynU,zjI (show (i:Int) < l.length by omega),cond_true,wr (show -9223372036854775808≤(i:Int)+1 by omega) (by omega),Int.natCast_add,Int.natCast_one,Int.toNat_natCast,zkO hi,zkV]
   rw [y2u _ hn.1 hn.2]; rfl,trivial⟩) (fun s _=>by simp only [ybu,ynG,ynU,zkm (Int.le_refl _),cond_false]) () trivial 18446744073709551616 (by omega)
 unfold ydD
 rw [bne_self_eq_false,cond_false]
 exact (congrArg (fun z=>zjw z _ _) l1).trans rfl
end
section
def yNR:Code:=(Tryz.f135.body).getD .skip
def yNT:Env:=zki TT [] []
theorem yVE:FrOk Tryz.prog ⟨yNT,15,fun _=>none⟩ yNR:=zkp yb yd trivial
def yXN:Nat→Option Seg:=fun _=>none
abbrev yrQ:List Par:= [.rd tI,.rd tI,.rd tI]
abbrev yxl:List OT:= [⟨false,tB,.fz⟩]
def yy7 (a0 a1 a2:Int):Option (ResD yxl×MutD yrQ) :=
 bif (leb a1 a0) then
 some (((leb a0 a2),()),())
 else
 some ((false,()),())
theorem y0s (x:InD yrQ):zjH ⟨yNT,15,yXN⟩ Tryz.f135.results.toList yNR yrQ yxl x=yy7 x.1 x.2.1 x.2.2.1:=by kernel_rfl
theorem yYR:ConOk Tryz.prog 135 ⟨yrQ,yxl,fun x=>yy7 x.1 x.2.1 x.2.2.1⟩:=zkh (yVE) Tryz.func135 (by kernel_rfl) (by kernel_rfl) Tryz.ntmps135.symm (by decide) (fun x r h=>(y0s x).trans h)
def ya (a0 a1 a2:Int):Bool :=
 bif (leb a1 a0) then
 (leb a0 a2)
 else
 false
def yx:Con:=⟨yrQ,yxl,fun x=>(fun n=>some ((n,()),())) (ya x.1 x.2.1 x.2.2.1)⟩
theorem yZ5 (a0 a1 a2:Int):yy7 a0 a1 a2=(fun n=>some ((n,()),())) (ya a0 a1 a2):=zkS (p:=fun (n:Bool)=>((n,()),())) (zkx (p:=fun (n:Bool)=>((n,()),())) rfl rfl)
theorem yD:ConOk Tryz.prog 135 yx:=(yYR).mono (fun x r _ h=>(yZ5 x.1 x.2.1 x.2.2.1).trans h)
theorem yrY {a b c:Int}:ya a b c=true↔b≤a∧a≤c:=by
 unfold ya
 cases h:leb b a
 ·have:=mt zk0 (by rw [h]; simp: ¬ leb b a=true)
  simp [this]
 ·simp [zjQ,zjQ.1 h]
theorem y31 {a b c:Int} (h:b≤a) (h2:a≤c):ya a b c=true:=yrY.2 ⟨h,h2⟩
theorem y4j {a b c:Int} (h: ¬ (b≤a∧a≤c)):ya a b c=false:=by
 cases e:ya a b c
 ·rfl
 ·exact absurd (yrY.1 e) h
theorem ycd (x a b:Int):ya x a b=(leb a x&&leb x b):=by
 unfold ya; cases leb a x<;>rfl
theorem ypD {x:Int} {n:Nat} (h:n≤1152921504606846976):ya x 0 (IntKind.i64.wrap ((n:Int) - 1))=inb x n:=by
 rw [wr (by omega) (by omega),Bool.eq_iff_iff,yrY,zjP]; omega
end
end
end Go.Tf
