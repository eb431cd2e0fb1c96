/- Functions of the program, and what they come to. -/
import Derived.Test.YtgmadfpnljibhaaGreatBuiltBentTt
namespace Go.Tf
noncomputable section
open Go.Proofs
set_option synthInstance.maxHeartbeats 400000
set_option synthInstance.maxSize 10000
set_option linter.unusedVariables false
set_option linter.unusedSimpArgs false
set_option maxRecDepth 100000
section
def yQ2:Code:=(Tryz.f12.body).getD .skip
def yRu:Env:=zki TT [] []
theorem yX8:FrOk Tryz.prog ⟨yRu,6,fun _=>none⟩ yQ2:=zkp yc yd trivial
def yYY:Nat→Option Seg:=fun _=>none
abbrev yuA:List Par:= [.rd tYs]
abbrev yAB:List OT:= [⟨false,tB,.fz⟩]
def yCK (a0:List Int):Option (ResD yAB×MutD yuA) :=
  some (((ltb 1048576 (a0.length:Int)),()),())
theorem y0x (x:InD yuA):zjH ⟨yRu,6,yYY⟩ Tryz.f12.results.toList yQ2 yuA yAB x=yCK x.1:=by kernel_rfl
theorem yZM:ConOk Tryz.prog 12 ⟨yuA,yAB,fun x=>yCK x.1⟩:=zkh (yX8) Tryz.func12 (by kernel_rfl) (by kernel_rfl) Tryz.ntmps12.symm (by decide) (fun x r h=>(y0x x).trans h)
def yAJ (a0:List Int):Bool :=
  (ltb 1048576 (a0.length:Int))
def yJV:Con:=⟨yuA,yAB,fun x=>(fun n=>some ((n,()),())) (yAJ x.1)⟩
theorem yZ8 (a0:List Int):yCK a0=(fun n=>some ((n,()),())) (yAJ a0):=zkS (p:=fun (n:Bool)=>((n,()),())) rfl
theorem yZ9:ConOk Tryz.prog 12 yJV:=(yZM).mono (fun x r _ h=>(yZ8 x.1).trans h)
def yac {α:Type} (p:α→Bool) (l:List α):Int:=bif l.any p then ((l.takeWhile (fun x=> !p x)).length:Int) else -1
theorem yXf {α:Type} (p:α→Bool):yac p []= -1:=rfl
theorem yAH {α:Type} (p:α→Bool) (x:α) (l:List α):yac p (x::l)=bif p x then 0 else bif leb 0 (yac p l) then yac p l+1 else -1:=by
  unfold yac
  rw [List.any_cons,List.takeWhile_cons]
  cases p x
  · cases l.any p
    · rfl
    · simp only [Bool.false_or,Bool.not_false,if_true,cond_true,cond_false,List.length_cons]
      rw [zk0 (show (0:Int)≤((l.takeWhile (fun x=> !p x)).length:Int) by omega),cond_true]; omega
  · simp
theorem ywX {α:Type} {p:α→Bool} {d:α}: ∀ {l:List α},leb 0 (yac p l)=true→inb (yac p l) l.length=true∧p (nth l (yac p l) d)=true
  | [],h=>by rw [yXf]at h; cases h
  | x::l,h=>by
    rw [yAH]at h ⊢
    cases hx:p x
    · rw [hx]at h
      cases hl:leb 0 (yac p l)
      · rw [hl]at h; cases h
      · obtain ⟨h1,h2⟩:=ywX (d:=d) hl
        have h3:=zjP.1 h1
        have h4:=zjQ.1 hl
        simp only [cond_false,cond_true,List.length_cons]
        refine ⟨zjP.2 (by omega),?_⟩
        unfold nth at h2 ⊢
        rw [show (yac p l+1).toNat=(yac p l).toNat+1 by omega,List.getD_cons_succ]
        exact h2
    · simp only [cond_true,List.length_cons]
      refine ⟨zjP.2 (by omega),?_⟩
      exact hx
theorem yXi {A B α:Type} {step:A→Option (A ⊕ B)} (l:List α) (d:α) (f:Nat→A) (p:α→Bool) (b:Int→B) (c:B)
    (h: ∀ i,i < l.length→step (f i)=some (bif p (l.getD i d) then .inr (b i) else .inl (f (i+1)))) (e:step (f l.length)=some (.inr c)) (fuel:Nat) (hf:l.length < fuel) :
    zr step fuel (f 0)=some (bif leb 0 (yac p l) then b (yac p l) else c):=by
  have: ∀ (t q:List α) (fuel:Nat),q++t=l→t.length < fuel→zr step fuel (f q.length)=some (bif leb 0 (yac p t) then b (q.length+yac p t) else c):=by
    intro t
    induction t with
    | nil =>
      intro q fuel hq hf
      obtain ⟨fuel,rfl⟩: ∃ m,fuel=m+1:=⟨fuel - 1,by omega⟩
      rw [List.append_nil]at hq
      subst hq
      simp only [zr,e]; rfl
    | cons x t ih =>
      intro q fuel hq hf
      obtain ⟨fuel,rfl⟩: ∃ m,fuel=m+1:=⟨fuel - 1,by omega⟩
      have hx:l.getD q.length d=x:=by
        subst hq
        rw [zcq (by simp)]; simp
      have hs:=h q.length (by rw [← hq]; simp)
      rw [hx]at hs
      rw [yAH]
      cases hp:p x
      · rw [hp]at hs
        have:=ih (q++ [x]) fuel (by rw [← hq]; simp) (by simp at hf; omega)
        simp only [List.length_append,List.length_cons,List.length_nil]at this
        simp only [zr,hs,cond_false]
        rw [show q.length+1=q.length+(0+1) by omega,this]
        cases hl:leb 0 (yac p t)
        · rfl
        · have:=zjQ.1 hl
          rw [cond_true,cond_true,zk0 (show 0≤yac p t+1 by omega),cond_true]
          congr 2; omega
      · rw [hp]at hs
        simp only [zr,hs,cond_true]
        rw [zk0 (Int.le_refl 0),cond_true,Int.add_zero]
  have:=this l [] fuel rfl hf
  simpa using this
theorem yGJ {α β:Type} (f:α→β): ∀ (l:List α) (s:List β),l.foldl (fun s i=>s++ [f i]) s=s++l.map f
  | [],s=>by simp
  | x::l,s=>by rw [List.foldl_cons,yGJ f l]; simp
theorem ytb {α:Type} (l:List α):l.foldl (fun s i=>s++ [i]) []=l:=by
  have:=yGJ id l []
  simpa using this
theorem y1c {α:Type} (l:List α) (d:α) {i:Nat} (h:i < l.length):l.take i++ [nth l i d]=l.take (i+1):=by rw [zjW,zcq h,List.take_append_getElem h]
def yb1 (e:dW) (s:Bool×List dW) (x:dW):Bool×List dW:=(s.1||leb e.1 x.1,(bif !s.1&&leb e.1 x.1 then s.2++ [e] else s.2)++(bif x.1 !=e.1 then [x] else []))
def yLf (l:List dW) (e:dW):List dW:=bif (l.foldl (yb1 e) (false,[])).1 then (l.foldl (yb1 e) (false,[])).2 else (l.foldl (yb1 e) (false,[])).2++ [e]
def yG9 (a:dA) (l:List dW):dA:=(a.1,a.2.1,a.2.2.1,a.2.2.2.1,a.2.2.2.2.1,a.2.2.2.2.2.1,a.2.2.2.2.2.2.1,a.2.2.2.2.2.2.2.1,l,a.2.2.2.2.2.2.2.2.2)
def yGQ (m:dM):Nat:=(m.1.map (fun x:List Int=>x.length)).sum+(m.2.1.map (fun x:dW=>1+x.2.length)).sum+1+m.2.2.2.length
def yYW (l:List dM):Nat:=(l.map yGQ).sum
def y1L (l:List dW):Nat:=(l.map (fun x:dW=>1+x.2.length)).sum
def ytd (a:dA):Nat:=yYW a.2.2.1+y1L a.2.2.2.2.2.2.2.2.1
abbrev ye:dM:=([],[],false,[])
def isW (x:Int):Bool:=leb 0 x&&leb x 65535
def yaf (s:List Int):Bool:=leb (s.length:Int) 12&&s.all isW
theorem yVx {x:Int}:isW x=true↔0≤x∧x≤65535:=by simp [isW,zjQ]
theorem yyA {s:List Int}:yaf s=true↔s.length≤12∧ ∀ x∈s,0≤x∧x≤65535:=by
  simp only [yaf,Bool.and_eq_true,zjQ,List.all_eq_true,yVx]
  constructor
  · rintro ⟨h1,h2⟩; exact ⟨by omega,h2⟩
  · rintro ⟨h1,h2⟩; exact ⟨by omega,h2⟩
theorem y0g: ∀ {l:List Int},l.Pairwise (· < ·)↔ ∀ i,i+1 < l.length→l.getD i 0 < l.getD (i+1) 0
  | []=>by simp
  | [x]=>by simp
  | x::y::l=>by
    have ih:=y0g (l:=y::l)
    constructor
    · intro h i hi
      cases h with
      | cons h1 h2 =>
        cases i with
        | zero=>exact h1 y List.mem_cons_self
        | succ i=>exact ih.1 h2 i (by simpa using hi)
    · intro h
      have h2:(y::l).Pairwise (· < ·):=ih.2 fun i hi=>h (i+1) (by simpa using hi)
      refine .cons (fun z hz=> ?_) h2
      have h3:x < y:=h 0 (by simp)
      rcases List.mem_cons.1 hz with rfl | hz
      · exact h3
      · cases h2 with
        | cons h4 _=>exact Int.lt_trans h3 (h4 z hz)
def yqw (n:Nat) (l:List Int):Bool:=l.all (fun x=>inb x n)&&decide (l.Pairwise (· < ·))
def yvZ (n:Nat) (w:dW):Bool:=inb w.1 n&&yaf w.2
def yp (m:dM):Bool:=m.1.all yaf&&m.2.1.all (yvZ m.1.length)&&yqw m.1.length m.2.2.2&&leb 1 (m.1.length:Int)&&leb (m.1.length:Int) 20&&leb (m.2.1.length:Int) 60
def yDR (n:Nat) (l:List Int) (i:Nat):Bool:= !(inb (l.getD i 0) n)||(decide (0 < i)&&leb (l.getD i 0) (l.getD (i - 1) 0))
theorem yW4 (n:Nat) (l:List Int):(List.range l.length).any (yDR n l)= !(yqw n l):=by
  rw [Bool.eq_iff_iff,List.any_eq_true,Bool.not_eq_true',yqw,Bool.and_eq_false_iff,decide_eq_false_iff_not,y0g,List.all_eq_false]
  simp only [List.mem_range,yDR,Bool.or_eq_true,Bool.not_eq_true',Bool.and_eq_true,decide_eq_true_eq,zjQ]
  constructor
  · rintro ⟨i,hi,h | ⟨h1,h2⟩⟩
    · exact .inl ⟨l[i],List.getElem_mem hi,by rw [zcq hi]at h; simp [h]⟩
    · refine .inr fun h3=> ?_
      have:=h3 (i - 1) (by omega)
      rw [show i - 1+1=i by omega]at this
      omega
  · rintro (⟨x,hx,h⟩ | h)
    · obtain ⟨i,hi,rfl⟩:=List.getElem_of_mem hx
      exact ⟨i,hi,.inl (by rw [zcq hi]; simpa using h)⟩
    · refine Classical.byContradiction fun hc=>h fun i hi=> ?_
      refine Classical.byContradiction fun h4=>hc ⟨i+1,hi,.inr ⟨by omega,?_⟩⟩
      rw [Nat.add_sub_cancel]; omega
def yGl (n:Int) (c:List dW) (s:List Int):List Int:=c.foldl (fun s w=>bif w.1==n then w.2 else s) s
def yAO (m:dM) (n:Int):Bool:=yp m&&(!m.2.2.1&&(inb n m.1.length&& !(m.2.2.2.any (· ==n))))
def ydy (m:dM) (n:Int):List Int×Bool:=bif yAO m n then (yGl n m.2.1 (nth m.1 n []),true) else ([],false)
theorem yG0 {P:List Int→Prop} {n:Int}: ∀ {c:List dW} {s:List Int},P s→(∀ w∈c,P w.2)→P (yGl n c s)
  | [],_,h,_=>h
  | w::c,s,h,hc=>yG0 (c:=c) (zkM (hc w List.mem_cons_self) h) (fun x hx=>hc x (List.mem_cons_of_mem _ hx))
theorem yw2 {α:Type} {P:α→Prop} {l:List α} {i:Int} {d:α} (h:inb i l.length=true) (hl: ∀ x∈l,P x):P (nth l i d):=by
  obtain ⟨h1,h2⟩:=zjP.1 h
  unfold nth
  rw [zcq (show i.toNat < l.length by omega)]
  exact hl _ (List.getElem_mem _)
theorem yVv {α:Type} {p:α→Bool} {l:List α} (h:leb 0 (yac p l)=false):yac p l= -1:=by
  unfold yac at h ⊢
  cases ha:l.any p
  · rfl
  · rw [ha,cond_true,zk0 (show (0:Int)≤((l.takeWhile (fun x=> !p x)).length:Int) by omega)] at h; cases h
theorem yXg {α:Type} {p:α→Bool}: ∀ {l:List α},leb 0 (yac p l)=true→(l.take ((yac p l).toNat+1)).filter (fun x=> !p x)=l.take (yac p l).toNat
  | [],h=>by rw [yXf]at h; cases h
  | x::l,h=>by
    rw [yAH]at h ⊢
    cases hx:p x
    · rw [hx]at h
      cases hl:leb 0 (yac p l)
      · rw [hl]at h; cases h
      · have h4:=zjQ.1 hl
        simp only [cond_false,cond_true]
        rw [show (yac p l+1).toNat=(yac p l).toNat+1 by omega,List.take_succ_cons,List.take_succ_cons,List.filter_cons,hx,yXg hl]; rfl
    · simp only [cond_true]
      show List.filter (fun x=> !p x) [x]= []
      rw [List.filter_cons,hx]; rfl
theorem y1w {α:Type} {p:α→Bool} {l:List α} (h:leb 0 (yac p l)=false):l.filter (fun x=> !p x)=l:=by
  rw [List.filter_eq_self]
  intro x hx
  unfold yac at h
  cases ha:l.any p
  · have:=List.any_eq_false.1 ha x hx
    simpa using this
  · rw [ha,cond_true,zk0 (show (0:Int)≤((l.takeWhile (fun x=> !p x)).length:Int) by omega)] at h; cases h
def yhP (a:dA):dA:=(a.1,a.2.1,a.2.2.1,a.2.2.2.1,a.2.2.2.2.1,IntKind.i64.wrap (a.2.2.2.2.2.1+1),a.2.2.2.2.2.2)
def ycA (s:Int):Int:=bif leb 0 s&&leb s 1099511627776 then s+6 else -1
def ydk (a:dA) (m s:Int):Bool:=inb m a.2.2.1.length&&(!(nth a.2.2.1 m ye).2.2.1&&(m !=a.2.2.2.1||ltb s a.2.2.2.2.1))
def yew (a:dA) (m s:Int):List Int×Bool:=ydy (nth a.2.2.1 m ye) (ycA s)
def yn (a:dA) (m s:Int):Bool:=ydk a m s&&((yew a m s).2&&((yew a m s).1.length:Int)==1)
def yxl (a:dA) (m s:Int):Int:=bif yn a m s then nth (yew a m s).1 0 0 else 0
def xw (a b:Int):Int:=IntKind.i64.wrap ((BitVec.ofInt IntKind.i64.bits a ^^^ BitVec.ofInt IntKind.i64.bits b).toNat:Int)
def yoK (l:List Int):Int:=l.foldl xw 0
def y1m (a:dA) (s:Int):Bool:=(List.range a.2.2.1.length).all (fun (i:Nat)=>yn a i s)
def y1O (a:dA) (s:Int):Int×Bool:=bif y1m a s then (yoK ((List.range a.2.2.1.length).map (fun (i:Nat)=>yxl a i s)),true) else (0,false)
def y24 (a:dA):Bool:=(List.range (min a.2.1.2.toNat 20)).all (fun (s:Nat)=> !((y1O a s).2&&(y1O a s).1 !=0))
def bv (x:Int):BitVec 64:=BitVec.ofInt 64 x
theorem yUH (a b:Int):xw a b=(bv a ^^^ bv b).toInt:=by
  show IntKind.i64.wrap ((bv a ^^^ bv b).toNat:Int)=_
  rw [IntKind.wrap_i64,BitVec.toInt_eq_toNat_cond]
  have:=(bv a ^^^ bv b).isLt
  split<;>omega
theorem yBt (v:BitVec 64):bv v.toInt=v:=by unfold bv; simp
theorem y23 (a b:Int):bv (xw a b)=bv a ^^^ bv b:=by rw [yUH,yBt]
theorem y2Z {x:Int} (h: -9223372036854775808≤x) (h2:x≤9223372036854775807):(bv x).toInt=x:=by
  unfold bv
  rw [BitVec.toInt_ofInt,Int.bmod_def]
  simp only [Nat.reducePow]at *
  omega
def yQ1 (l:List Int):BitVec 64:=l.foldl (fun v x=>v ^^^ bv x) 0#64
theorem yQ0 (l:List Int):yoK l=(yQ1 l).toInt:=by
  have: ∀ (l:List Int) (v:BitVec 64),l.foldl xw v.toInt=(l.foldl (fun v x=>v ^^^ bv x) v).toInt:=by
    intro l
    induction l with
    | nil=>intro _; rfl
    | cons x l ih =>
      intro v
      rw [List.foldl_cons,List.foldl_cons,yUH,yBt,ih]
  have h:=this l 0#64
  rwa [show (0#64:BitVec 64).toInt=0 from by decide]at h
theorem y1j (l:List Int) (x:Int):yQ1 (l++ [x])=yQ1 l ^^^ bv x:=by unfold yQ1; rw [List.foldl_append]; rfl
theorem y1K {i:Int} {n:Nat} (h: ¬ (0≤i∧i < (n:Int))):inb i n=false:=by
  cases e:inb i n
  · rfl
  · exact absurd (zjP.1 e) h
def ypA (l:List Int) (k:Int):Int:=bif inb k l.length then xw (yoK l) (nth l k 0) else yoK l
theorem y1k (u v:BitVec 64):u ^^^ v ^^^ v=u:=by rw [BitVec.xor_assoc,BitVec.xor_self,BitVec.xor_zero]
theorem y06 (l:List Int) (k:Int):(List.range l.length).foldl (fun n (i:Nat)=>bif (i:Int) !=k then xw n (nth l i 0) else n) 0=ypA l k:=by
  have: ∀ n,n≤l.length→(List.range n).foldl (fun n (i:Nat)=>bif (i:Int) !=k then xw n (nth l i 0) else n) 0=(bif inb k n then yQ1 (l.take n) ^^^ bv (nth l k 0) else yQ1 (l.take n)).toInt:=by
    intro n
    induction n with
    | zero =>
      intro _
      rw [y1K (show ¬ (0≤k∧k < ((0:Nat):Int)) by omega)]
      rfl
    | succ n ih =>
      intro hn
      rw [List.range_succ,List.foldl_append,List.foldl_cons,List.foldl_nil,ih (by omega),← y1c l 0 (show n < l.length by omega),y1j]
      by_cases hk:(n:Int)=k
      · subst hk
        rw [show ((n:Int) !=n)=false by simp,cond_false,y1K (show ¬ (0≤(n:Int)∧(n:Int) < (n:Int)) by omega),show inb (n:Int) (n+1)=true from zkO (Nat.lt_succ_self n),cond_false,cond_true,y1k]
      · rw [show ((n:Int) !=k)=true from bne_iff_ne.2 hk,cond_true,show inb k (n+1)=inb k n by rw [Bool.eq_iff_iff,zjP,zjP]; omega,yUH,yBt]
        cases inb k n
        · rfl
        · rw [cond_true,cond_true,BitVec.xor_assoc,BitVec.xor_comm (bv (nth l k 0)),← BitVec.xor_assoc]
  rw [this l.length (Nat.le_refl _),List.take_length]
  unfold ypA
  rw [yUH,yQ0,yBt]
  cases inb k l.length<;>rfl
theorem y05 {l:List Int} {k:Int} (h:inb k l.length=true) (h0:nth l k 0=0):ypA l k=yoK l:=by
  unfold ypA
  rw [h,h0,cond_true,yUH,yQ0,yBt,show bv 0=0#64 by decide,BitVec.xor_zero]
abbrev yU:dA:=(0,(0,0),[],0,0,0,0,0,[],0,false,false)
def y1J (k:Int) (i:Nat):Bool:=IntKind.i64.wrap ((BitVec.ofInt IntKind.i64.bits (k.fdiv (2 ^ (min (i:Int).toNat IntKind.i64.bits))) &&& BitVec.ofInt IntKind.i64.bits 1).toNat:Int)==1
def y00 (k:Int):Int:=bif leb 0 k&&leb k 1048575 then k else 0
def yf9 (b:Nat→Bool) (c:List dW) (l:List (List Int)) (i:Nat):List (List Int):=bif b i then l.set (nth c i (0,[])).1.toNat (nth c i (0,[])).2 else l
def yep (b:Nat→Bool) (c:List dW) (l:List (List Int)):List (List Int):=(List.range c.length).foldl (yf9 b c) l
def yLx (m:dM) (k:Int):dM:=bif yp m then (yep (fun i=>decide (i < 20)&&y1J (y00 k) i) m.2.1 m.1,[],m.2.2.1,m.2.2.2) else m
def yZC (ks:List Int) (i:Nat):Int:=bif decide (i < ks.length) then nth ks i 0 else 0
def y1V (l:List dM) (ks:List Int):List dM:=(List.range l.length).map (fun (i:Nat)=>yLx (nth l i ye) (yZC ks i))
theorem yao {m:dM} (h:yp m=true):m.1.all yaf=true∧m.2.1.all (yvZ m.1.length)=true∧yqw m.1.length m.2.2.2=true∧1≤m.1.length∧m.1.length≤20∧m.2.1.length≤60:=by
  simp only [yp,Bool.and_eq_true,zjQ]at h
  exact ⟨h.1.1.1.1.1,h.1.1.1.1.2,h.1.1.1.2,by omega,by omega,by omega⟩
theorem yZI {m:dM} (h:yp m=true) {i:Nat} (hi:i < m.2.1.length):inb (nth m.2.1 i (0,[])).1 m.1.length=true∧yaf (nth m.2.1 i (0,[])).2=true:=by
  have h1:=List.all_eq_true.1 (yao h).2.1 m.2.1[i] (List.getElem_mem hi)
  rw [zjW,zcq hi]
  exact Bool.and_eq_true_iff.1 h1
theorem yGO {b:Nat→Bool} {c:List dW} {l:List (List Int)} {i:Nat}:(yf9 b c l i).length=l.length:=by
  unfold yf9; cases b i
  · rfl
  · exact List.length_set
theorem ySc {α β:Type} (P:β→Prop) (f:β→α→β) (h: ∀ s x,P s→P (f s x)): ∀ (l:List α) (s:β),P s→P (l.foldl f s)
  | [],_,hs=>hs
  | x::l,s,hs=>ySc P f h l (f s x) (h s x hs)
theorem yrW {b:Nat→Bool} {c:List dW} {l:List (List Int)}:(yep b c l).length=l.length :=
  ySc (fun x=>x.length=l.length) _ (fun s x hs=>by rw [yGO]; exact hs) _ l rfl
theorem y2u (b:Nat→Bool) (c:List dW) (l:List (List Int)):yep (fun i=>decide (i < 20)&&b i) c l=(List.range (min c.length 20)).foldl (yf9 b c) l:=by
  have h1: ∀ n,n≤20→ ∀ l,(List.range n).foldl (yf9 (fun i=>decide (i < 20)&&b i) c) l=(List.range n).foldl (yf9 b c) l:=by
    intro n
    induction n with
    | zero=>intro _ _; rfl
    | succ n ih =>
      intro hn l
      rw [List.range_succ,List.foldl_append,List.foldl_append,ih (by omega)]
      simp only [List.foldl_cons,List.foldl_nil,yf9,show decide (n < 20)=true from decide_eq_true (by omega),Bool.true_and]
  have h2: ∀ n,20≤n→ ∀ l,(List.range n).foldl (yf9 (fun i=>decide (i < 20)&&b i) c) l=(List.range 20).foldl (yf9 b c) l:=by
    intro n
    induction n with
    | zero=>intro h; omega
    | succ n ih =>
      intro hn l
      by_cases h:20≤n
      · rw [List.range_succ,List.foldl_append,ih h]
        simp only [List.foldl_cons,List.foldl_nil,yf9,show decide (n < 20)=false from decide_eq_false (by omega),Bool.false_and,cond_false]
      · rw [h1 (n+1) (by omega),show n+1=20 by omega]
  unfold yep
  by_cases h:c.length≤20
  · rw [h1 _ h,Nat.min_eq_left h]
  · rw [h2 _ (by omega),Nat.min_eq_right (by omega)]
theorem yUB {l:List (List Int)} {b:Nat} (h:l.length≤20) (hs: ∀ x∈l,x.length≤b):(l.map (fun x:List Int=>x.length)).sum≤20 * b:=by
  have:=zi5 (f:=fun x:List Int=>x.length) hs
  exact Nat.le_trans this (Nat.mul_le_mul_right _ h)
theorem yNM {P:List Int→Prop} {b:Nat→Bool} {c:List dW} {l:List (List Int)} (hl: ∀ x∈l,P x) (hc: ∀ w∈c,P w.2): ∀ x∈yep b c l,P x:=by
  have: ∀ (n:Nat),n≤c.length→ ∀ x∈(List.range n).foldl (yf9 b c) l,P x:=by
    intro n
    induction n with
    | zero=>intro _; exact hl
    | succ n ih =>
      intro hn x hx
      rw [List.range_succ,List.foldl_append,List.foldl_cons,List.foldl_nil,yf9]at hx
      cases hb:b n
      · rw [hb]at hx; exact ih (by omega) x hx
      · rw [hb,cond_true]at hx
        rcases List.mem_or_eq_of_mem_set hx with h | h
        · exact ih (by omega) x h
        · rw [h,zjW,zcq (show n < c.length by omega)]
          exact hc _ (List.getElem_mem _)
  exact this _ (Nat.le_refl _)
theorem y0z (m:dM) (k:Int):yGQ (yLx m k)≤yGQ m+240:=by
  unfold yLx
  cases hm:yp m
  · exact Nat.le_add_right _ _
  · obtain ⟨h1,h2,_,_,h3,_⟩:=yao hm
    have hs: ∀ x∈yep (fun i=>decide (i < 20)&&y1J (y00 k) i) m.2.1 m.1,x.length≤12 :=
      yNM (P:=fun x=>x.length≤12) (fun x hx=>(yyA.1 (List.all_eq_true.1 h1 x hx)).1) (fun w hw=>(yyA.1 (Bool.and_eq_true_iff.1 (List.all_eq_true.1 h2 w hw)).2).1)
    have:=yUB (b:=12) (by rw [yrW]; exact h3) hs
    unfold yGQ
    simp only [cond_true,List.map_nil,List.sum_nil]
    omega
theorem y2b (l:List dM) (ks:List Int):yYW (y1V l ks)≤yYW l+240 * l.length:=by
  have: ∀ n,n≤l.length→(((List.range n).map (fun (i:Nat)=>yLx (nth l i ye) (yZC ks i))).map yGQ).sum≤((l.take n).map yGQ).sum+240 * n:=by
    intro n
    induction n with
    | zero=>intro _; simp
    | succ n ih =>
      intro hn
      rw [List.range_succ,List.map_append,List.map_append,List.sum_append,← List.take_append_getElem (show n < l.length by omega),List.map_append,List.sum_append]
      have:=ih (by omega)
      have h2:=y0z (nth l n ye) (yZC ks n)
      rw [zjW,zcq (show n < l.length by omega)] at h2
      simp only [List.map_cons,List.map_nil,List.sum_cons,List.sum_nil]
      rw [zjW l n,zcq (show n < l.length by omega)]
      omega
  have h:=this l.length (Nat.le_refl _)
  rw [List.take_length]at h
  exact h
def ywN (m:dM) (n:Int) (s:List Int):Bool:=yp m&&(!m.2.2.1&&(inb n m.1.length&&(yaf s&&ltb (m.2.1.length:Int) 60)))
def yW0 (l:List Int) (n:Int):List Int:=l.filter (· !=n)
def yfH (m:dM) (n:Int) (s:List Int):dM×Bool:=bif ywN m n s then ((m.1,m.2.1++ [(n,s)],m.2.2.1,yW0 m.2.2.2 n),true) else (m,false)
def yeo (m:dM):dM:=bif yp m&& !m.2.2.1 then (yep (fun _=>true) m.2.1 m.1,[],m.2.2.1,m.2.2.2) else m
def yAQ (m:dM):dM:=(m.1,[],true,m.2.2.2)
end
section
def yoP:Code:=(Tryz.f94.body).getD .skip
def yue:Env:=zki TT [] []
theorem ySF:FrOk Tryz.prog ⟨yue,32,fun _=>none⟩ yoP:=zkp yc yd trivial
def yFr:Nat→Option Seg:=fun _=>none
def yfm:Shape:=⟨[(0,false,[.fz tY]),(3,false,[.int .i64]),(4,false,[.int .i64])],[],[]⟩
def ynQ:Shape:=⟨[(0,false,[.fz tY]),(3,false,[.int .i64]),(4,false,[.ci .i64 0])],[],[]⟩
def ynP:Shape:=⟨[(0,false,[.fz tY]),(3,false,[.int .i64])],[],[]⟩
def yoa:Shape:=⟨[],[],[]⟩
def yC0 (v0:List Int) (v1:Int) (v2:Int):Option ((yfm).X ⊕ ((ynP).X ⊕ (yoa).X)) :=
  bif (ltb v2 (v0.length:Int)) then
    bif (ltb v2 4000) then
      bif (inb v2 v0.length) then
        some (.inl (((v0,()),((IntKind.i64.wrap ((BitVec.ofInt IntKind.i64.bits (IntKind.i64.wrap ((IntKind.i64.wrap ((IntKind.i64.wrap (v1 * 137))+(IntKind.i64.wrap (nth v0 v2 0))))+11)) &&& BitVec.ofInt IntKind.i64.bits 1073741823).toNat:Int)),()),((IntKind.i64.wrap (v2+1)),()),()),(),()))
      else none
    else
      some (.inr (.inl (((v0,()),(v1,()),()),(),())))
  else
    some (.inr (.inl (((v0,()),(v1,()),()),(),())))
def ygc (x:(yfm).X):=yC0 x.1.1.1 x.1.2.1.1 x.1.2.2.1.1
def yB1 (x:(ynQ).X):(yfm).X:=(((x.1.1.1,()),(x.1.2.1.1,()),(0,()),()),(),())
def yD2:Code:=(zdI yoP 64 116).getD .skip
theorem yRD:zdI yoP 64 29=some (.block 0 (.loop yD2)):=by kernel_rfl
theorem yUu (x:(yfm).X):zg7 ⟨yue,32,yFr⟩ 0 yD2 116 yfm ynP yoa x=ygc x:=by kernel_rfl
def yCh (x:(ynQ).X):Nat:=(fun (u0:List Int) (u1:Int)=>18446744073709551616) x.1.1.1 x.1.2.1.1
def yut (x:(ynQ).X):Option ((ynP).X ⊕ (yoa).X):=zr ygc (yCh x) (yB1 x)
def yCT:Seg:=⟨ynQ,ynP,yoa,yut⟩
def yFs:Nat→Option Seg:=fun q=>bif Nat.beq q 29 then some yCT else yFr q
theorem ySG:FrOk Tryz.prog ⟨yue,32,yFs⟩ yoP:=(ySF).loop (sg:=yCT) yfm yB1 (by decide) yRD ygc yCh (by decide) (fun _=>rfl) (fun x r _ h=>h) yUu
abbrev ykN:List Par:= [.kp tYs .fz]
abbrev yuT:List OT:= [⟨true,tU,.fz⟩]
def ygH (a0:List Int):Option (ResD yuT×MutD ykN) :=
  zjw (yut (((a0,()),((IntKind.i64.wrap (770770+(a0.length:Int))),()),((),()),()),(),())) (fun y0 =>
    some (((y0.1.1.1,0,y0.1.2.1.1),()),())) (fun y0 =>
    none)
theorem yZl (x:InD ykN):zjH ⟨yue,32,yFs⟩ Tryz.f94.results.toList yoP ykN yuT x=ygH x.1:=by kernel_rfl
theorem yWm:ConOk Tryz.prog 94 ⟨ykN,yuT,fun x=>ygH x.1⟩:=zkh (ySG) Tryz.func94 (by kernel_rfl) (by kernel_rfl) Tryz.ntmps94.symm (by decide) (fun x r h=>(yZl x).trans h)
def yhB (a0:List Int):List Int×Int×Int:=(((ygH a0).getD (((([]:List Int),(0:Int),(0:Int)),()),())).1).1
def yG (u:List Int×Int×Int):Prop:=0≤u.2.1∧(u.1.length:Int)≤140737488355328
theorem yZE (a0:List Int) (hb:a0.length≤140737488355328): ∃ s:Int,ygH a0=some (((a0,0,s),()),()):=by
  have hl: ∃ b,yut (((a0,()),((IntKind.i64.wrap (770770+(a0.length:Int))),()),((),()),()),(),())=some b∧(∃ s:Int,b= .inl (((a0,()),(s,()),()),(),())):=by
    refine ziU (step:=ygc) (fun x=>(a0.length - (x.1.2.2.1.1:Int).toNat)) (fun x=>(x.1.1.1:List Int)=a0∧(0:Int)≤(x.1.2.2.1.1:Int)) _ ?_ _ _ ⟨rfl,Int.le_refl _⟩ (by show a0.length - _ < 18446744073709551616; omega)
    rintro ⟨⟨⟨(l:List Int),_⟩,⟨(s:Int),_⟩,⟨(i:Int),_⟩,_⟩,_,_⟩ ⟨h0,hi⟩
    simp only at h0 hi
    subst h0
    simp only [ygc,yC0]
    by_cases h1:i < (l.length:Int)
    · rw [zjI h1]
      by_cases h2:i < 4000
      · rw [zjI h2,zjP.2 ⟨hi,h1⟩]
        refine .inl ⟨_,rfl,⟨rfl,?_⟩,?_⟩
        · show 0≤IntKind.i64.wrap (i+1); rw [wr (by omega) (by omega)]; omega
        · show l.length - (IntKind.i64.wrap (i+1)).toNat < l.length - i.toNat; rw [wr (by omega) (by omega)]; omega
      · rw [zkm (Int.not_lt.1 h2)]
        exact .inr ⟨_,rfl,_,rfl⟩
    · rw [zkm (Int.not_lt.1 h1)]
      exact .inr ⟨_,rfl,_,rfl⟩
  obtain ⟨b,e,s,rfl⟩:=hl
  refine ⟨s,?_⟩
  unfold ygH
  rw [e]; rfl
theorem yYs (a0:List Int) (hk:zi9 ykN (a0,())):ygH a0=(fun n=>some ((n,()),())) (yhB a0):=by
  obtain ⟨s,e⟩:=yZE a0 (by have:a0.length * 1≤2 ^ 47:=hk.1.1; omega)
  unfold yhB
  rw [e]; rfl
theorem y0Y (a0:List Int) (hb:a0.length≤140737488355328):yG (yhB a0):=by
  obtain ⟨s,e⟩:=yZE a0 hb
  unfold yhB
  rw [e]
  exact ⟨Int.le_refl _,by show (a0.length:Int)≤_; omega⟩
def ywV:Con:=⟨ykN,yuT,fun x=>(fun n=>some ((n,()),())) (yhB x.1)⟩
theorem yIe:ConOk Tryz.prog 94 ywV:=(yWm).mono (fun x r hk h=>(yYs x.1 hk).trans h)
end
section
def yNF:Code:=(Tryz.f135.body).getD .skip
def yNH:Env:=zki TT [] []
theorem yVr:FrOk Tryz.prog ⟨yNH,15,fun _=>none⟩ yNF:=zkp yc yd trivial
def yXu:Nat→Option Seg:=fun _=>none
abbrev yrN:List Par:= [.rd tI,.rd tI,.rd tI]
abbrev yxn:List OT:= [⟨false,tB,.fz⟩]
def yy2 (a0:Int) (a1:Int) (a2:Int):Option (ResD yxn×MutD yrN) :=
  bif (leb a1 a0) then
    some (((leb a0 a2),()),())
  else
    some ((false,()),())
theorem yZ1 (x:InD yrN):zjH ⟨yNH,15,yXu⟩ Tryz.f135.results.toList yNF yrN yxn x=yy2 x.1 x.2.1 x.2.2.1:=by kernel_rfl
theorem yYA:ConOk Tryz.prog 135 ⟨yrN,yxn,fun x=>yy2 x.1 x.2.1 x.2.2.1⟩:=zkh (yVr) Tryz.func135 (by kernel_rfl) (by kernel_rfl) Tryz.ntmps135.symm (by decide) (fun x r h=>(yZ1 x).trans h)
def ya (a0:Int) (a1:Int) (a2:Int):Bool :=
  bif (leb a1 a0) then
    (leb a0 a2)
  else
    false
def yq:Con:=⟨yrN,yxn,fun x=>(fun n=>some ((n,()),())) (ya x.1 x.2.1 x.2.2.1)⟩
theorem yZJ (a0:Int) (a1:Int) (a2:Int):yy2 a0 a1 a2=(fun n=>some ((n,()),())) (ya a0 a1 a2):=zkS (p:=fun (n:Bool)=>((n,()),())) (zkx (p:=fun (n:Bool)=>((n,()),())) rfl rfl)
theorem yz:ConOk Tryz.prog 135 yq:=(yYA).mono (fun x r _ h=>(yZJ x.1 x.2.1 x.2.2.1).trans h)
theorem yrV {a b c:Int}:ya a b c=true↔b≤a∧a≤c:=by
  unfold ya
  cases h:leb b a
  · have:=mt zk0 (by rw [h]; simp: ¬ leb b a=true)
    simp [this]
  · simp [zjQ,zjQ.1 h]
theorem y2U {a b c:Int} (h:b≤a) (h2:a≤c):ya a b c=true:=yrV.2 ⟨h,h2⟩
theorem y26 {a b c:Int} (h: ¬ (b≤a∧a≤c)):ya a b c=false:=by
  cases e:ya a b c
  · rfl
  · exact absurd (yrV.1 e) h
theorem ydj (x a b:Int):ya x a b=(leb a x&&leb x b):=by
  unfold ya; cases leb a x<;>rfl
theorem ypz {x:Int} {n:Nat} (h:n≤1152921504606846976):ya x 0 (IntKind.i64.wrap ((n:Int) - 1))=inb x n:=by
  rw [wr (by omega) (by omega),Bool.eq_iff_iff,yrV,zjP]; omega
end
section
def yI9:Code:=(Tryz.f134.body).getD .skip
def yJy:Env:=zki TT [(135,yq)] []
theorem ySt:FrOk Tryz.prog ⟨yJy,11,fun _=>none⟩ yI9:=zkp yc yd ⟨yz,trivial⟩
def yUO:Nat→Option Seg:=fun _=>none
abbrev yo9:List Par:= [.rd tG]
abbrev yuL:List OT:= [⟨false,tB,.fz⟩]
def yxg (a0:dG):Option (ResD yuL×MutD yo9) :=
  let r1:=ya a0.1 3 5
  bif r1 then
    let r2:=ya a0.2 1 8
    some ((r2,()),())
  else
    some ((false,()),())
theorem yZd (x:InD yo9):zjH ⟨yJy,11,yUO⟩ Tryz.f134.results.toList yI9 yo9 yuL x=yxg x.1:=by kernel_rfl
theorem yWe:ConOk Tryz.prog 134 ⟨yo9,yuL,fun x=>yxg x.1⟩:=zkh (ySt) Tryz.func134 (by kernel_rfl) (by kernel_rfl) Tryz.ntmps134.symm (by decide) (fun x r h=>(yZd x).trans h)
def yf (a0:dG):Bool :=
  let r1:=ya a0.1 3 5
  bif r1 then
    let r2:=ya a0.2 1 8
    r2
  else
    false
def ygy:Con:=⟨yo9,yuL,fun x=>(fun n=>some ((n,()),())) (yf x.1)⟩
theorem yYm (a0:dG):yxg a0=(fun n=>some ((n,()),())) (yf a0):=zkS (p:=fun (n:Bool)=>((n,()),())) (zkx (p:=fun (n:Bool)=>((n,()),())) rfl rfl)
theorem ym7:ConOk Tryz.prog 134 ygy:=(yWe).mono (fun x r _ h=>(yYm x.1).trans h)
theorem yk {a:Int×Int}:yf a=true↔(3≤a.1∧a.1≤5)∧1≤a.2∧a.2≤8:=by
  unfold yf
  cases h:ya a.1 3 5
  · have: ¬ (3≤a.1∧a.1≤5):=fun e=>by rw [yrV.2 e]at h; simp at h
    simp [this]
  · simp only [cond_true,yrV]
    exact ⟨fun e=>⟨yrV.1 h,e⟩,fun e=>e.2⟩
def yhv (a:dA) (i:Nat):Bool:= !(yp (nth a.2.2.1 i ye))||((((nth a.2.2.1 i ye).1.length:Int) !=6+a.2.1.2)||((nth a.2.2.1 i ye).2.2.1&&(((i:Int) !=a.2.2.2.1)&& !a.2.2.2.2.2.2.2.2.2.2.2)))
def ymU (a:dA):Bool:= !((List.range a.2.2.1.length).any (yhv a))&&(a.2.2.1.length:Int)==a.2.1.1
def yh7 (g:dG) (l:List dW) (i:Nat):Bool:= !(leb 0 (nth l i (0,[])).1&&leb (nth l i (0,[])).1 (g.2 - 1))||(((nth l i (0,[])).2.length:Int) !=g.1 - 1||(!((nth l i (0,[])).2.all isW)||(decide (0 < i)&&leb (nth l i (0,[])).1 (nth l ((i - 1:Nat):Int) (0,[])).1)))
def yaY (g:dG) (l:List dW):Bool:= !((List.range l.length).any (yh7 g l))
def ym (a:dA):Bool :=
  yf a.2.1&&((leb 1 a.1&&leb a.1 60000)&&(ymU a&&(yaY a.2.1 a.2.2.2.2.2.2.2.2.1&&((leb (-1) a.2.2.2.1&&leb a.2.2.2.1 (a.2.1.1 - 1))&&((leb 0 a.2.2.2.2.1&&leb a.2.2.2.2.1 a.2.1.2)&&(!(a.2.2.2.1== -1&&a.2.2.2.2.1 !=0) &&
  ((leb 0 a.2.2.2.2.2.2.1&&leb a.2.2.2.2.2.2.1 60000)&&((leb a.2.2.2.2.2.2.1 a.2.2.2.2.2.1&&leb a.2.2.2.2.2.1 60000)&&(leb a.2.2.2.2.2.1 (a.2.2.2.2.2.2.1+4)&&((leb 0 a.2.2.2.2.2.2.2.1&&leb a.2.2.2.2.2.2.2.1 60000)&&(leb (-1) a.2.2.2.2.2.2.2.2.2.1&&leb a.2.2.2.2.2.2.2.2.2.1 1000)))))))))))
theorem ybI {a:dA} (h:ym a=true):yf a.2.1=true:=(Bool.and_eq_true_iff.1 h).1
theorem y25 {a:Int×Int} (h: ¬ yf a=true):yf a=false:=by cases e:yf a<;>simp_all
theorem yRK {a:dA} (h:ym a=true):ymU a=true:=by simp only [ym,Bool.and_eq_true]at h; exact h.2.2.1
theorem yxD {a:dA} (h:ym a=true):(a.2.2.1.length:Int)=a.2.1.1:=by have:=yRK h; simp only [ymU,Bool.and_eq_true,beq_iff_eq]at this; exact this.2
theorem yXj {a:dA} (h:ymU a=true) {i:Nat} (hi:i < a.2.2.1.length):yp (nth a.2.2.1 i ye)=true∧((nth a.2.2.1 i ye).1.length:Int)=6+a.2.1.2∧((nth a.2.2.1 i ye).2.2.1=true→(i:Int)=a.2.2.2.1∨a.2.2.2.2.2.2.2.2.2.2.2=true):=by
  simp only [ymU,Bool.and_eq_true,Bool.not_eq_true',List.any_eq_false,List.mem_range]at h
  have:=h.1 i hi
  simp only [yhv,Bool.not_eq_true,Bool.or_eq_false_iff,Bool.not_eq_false',bne_eq_false_iff_eq,Bool.and_eq_false_iff]at this
  refine ⟨this.1,this.2.1,fun hf=> ?_⟩
  rcases this.2.2 with h1 | h1 | h1
  · rw [hf]at h1; cases h1
  · exact .inl h1
  · exact .inr h1
theorem yFU: ∀ {l:List Int} {lo n:Int},l.Pairwise (· < ·)→(∀ x∈l,lo≤x∧x < n)→lo≤n→(l.length:Int)≤n - lo
  | [],lo,n,_,_,h=>by simp; omega
  | x::l,lo,n,hp,hx,h=>by
    cases hp with
    | cons h1 h2 =>
      have h3:=hx x List.mem_cons_self
      have:=yFU (l:=l) (lo:=x+1) (n:=n) h2 (fun y hy=>⟨h1 y hy,(hx y (List.mem_cons_of_mem _ hy)).2⟩) (by omega)
      rw [List.length_cons]; omega
theorem ylq {n:Nat} {l:List Int}:yqw n l=true↔(∀ x∈l,0≤x∧x < n)∧l.Pairwise (· < ·):=by
  simp only [yqw,Bool.and_eq_true,List.all_eq_true,zjP,decide_eq_true_eq]
theorem ywZ {m:dM} (h1:m.1.all yaf=true) (h2:m.2.1.all (yvZ m.1.length)=true) (h3:yqw m.1.length m.2.2.2=true) (h4:1≤m.1.length) (h5:m.1.length≤20) (h6:m.2.1.length≤60):yp m=true:=by
  simp only [yp,h1,h2,h3,Bool.true_and,Bool.and_eq_true,zjQ]
  omega
theorem yZ6 {m:dM} (h:yp m=true):yGQ m≤1041:=by
  obtain ⟨h1,h2,h3,h4,h5,h6⟩:=yao h
  have a1:=yUB (b:=12) h5 (fun x hx=>(yyA.1 (List.all_eq_true.1 h1 x hx)).1)
  have a2:=zi5 (f:=fun x:dW=>1+x.2.length) (c:=13) (l:=m.2.1) (fun w hw=>by have:=(yyA.1 (Bool.and_eq_true_iff.1 (List.all_eq_true.1 h2 w hw)).2).1; omega)
  have a3:=Nat.mul_le_mul_right 13 h6
  obtain ⟨b1,b2⟩:=ylq.1 h3
  have a4:=yFU (lo:=0) (n:=m.1.length) b2 b1 (by omega)
  unfold yGQ
  omega
theorem y0B {m:dM} (b:Nat→Bool) (h:yp m=true):(yep b m.2.1 m.1).all yaf=true:=by
  obtain ⟨h1,h2,_⟩:=yao h
  rw [List.all_eq_true]
  exact yNM (P:=fun x=>yaf x=true) (fun x hx=>List.all_eq_true.1 h1 x hx) (fun w hw=>(Bool.and_eq_true_iff.1 (List.all_eq_true.1 h2 w hw)).2)
theorem yQZ {m:dM} (n:Int) (s:List Int) (h:yp m=true):yp (yfH m n s).1=true:=by
  unfold yfH
  cases hc:ywN m n s
  · exact h
  · simp only [ywN,Bool.and_eq_true,Bool.not_eq_true',zjT]at hc
    obtain ⟨h1,h2,h3,h4,h5,h6⟩:=yao h
    refine ywZ h1 ?_ ?_ h4 h5 (by show (m.2.1++ [(n,s)]).length≤60; rw [List.length_append]; simp only [List.length_cons,List.length_nil]; omega)
    · show (m.2.1++ [(n,s)]).all (yvZ m.1.length)=true
      rw [List.all_append,h2]
      simp [yvZ,hc.2.2.1,hc.2.2.2.1]
    · show yqw m.1.length (yW0 m.2.2.2 n)=true
      obtain ⟨b1,b2⟩:=ylq.1 h3
      exact ylq.2 ⟨fun x hx=>b1 x (List.mem_filter.1 hx).1,b2.filter _⟩
theorem yXt (m:dM) (n:Int) (s:List Int):(yfH m n s).1.1=m.1∧(yfH m n s).1.2.2.1=m.2.2.1:=by
  unfold yfH
  cases ywN m n s<;>exact ⟨rfl,rfl⟩
theorem yOv {m:dM} (h:yp m=true):yp (yeo m)=true:=by
  unfold yeo
  cases hc:(yp m&& !m.2.2.1)
  · exact h
  · obtain ⟨h1,h2,h3,h4,h5,h6⟩:=yao h
    refine ywZ (y0B _ h) rfl ?_ ?_ ?_ (Nat.zero_le _)
    · show yqw (yep _ m.2.1 m.1).length m.2.2.2=true; rw [yrW]; exact h3
    · show 1≤(yep _ m.2.1 m.1).length; rw [yrW]; exact h4
    · show (yep _ m.2.1 m.1).length≤20; rw [yrW]; exact h5
theorem yXd (m:dM):(yeo m).1.length=m.1.length∧(yeo m).2.2.1=m.2.2.1:=by
  unfold yeo
  cases (yp m&& !m.2.2.1)
  · exact ⟨rfl,rfl⟩
  · exact ⟨yrW,rfl⟩
theorem y0m {m:dM} (h:yp m=true):yp (yAQ m)=true:=by
  obtain ⟨h1,h2,h3,h4,h5,h6⟩:=yao h
  exact ywZ h1 rfl h3 h4 h5 (Nat.zero_le _)
def yag (l:List dM):Prop:= ∀ m∈l,yp m=true
theorem yvx {l:List dM} {i:Nat} {x:dM} (h:yag l) (hx:yp x=true):yag (l.set i x):=fun m hm=>by
  rcases List.mem_or_eq_of_mem_set hm with h1 | rfl
  · exact h m h1
  · exact hx
theorem yLa {l:List dM} {m:Int} (h:yag l) (hm:inb m l.length=true):yp (nth l m ye)=true:=yw2 (P:=fun x=>yp x=true) hm h
theorem yLb {l:List dM} (h:yag l):yYW l≤l.length * 1041:=zi5 (f:=yGQ) (fun x hx=>yZ6 (h x hx))
theorem yAD {a:dA} (h:ym a=true):yag a.2.2.1:=fun m hm=>by
  obtain ⟨i,hi,rfl⟩:=List.getElem_of_mem hm
  have:=(yXj (yRK h) hi).1
  rwa [zjW,zcq hi]at this
theorem y0p {α:Type} (A:List α) (y:α) (t:List α) (d:α):(A++y::t).getD A.length d=y:=by
  rw [List.getD_eq_getElem?_getD,List.getElem?_append_right (Nat.le_refl _),Nat.sub_self]; rfl
theorem y0t {α:Type} (A:List α) (y z:α) (t:List α):(A++y::t).set A.length z=A++z::t:=by
  rw [List.set_append_right _ _ (Nat.le_refl _),Nat.sub_self]; rfl
def yS3 (l:List Int) (n:Int):List Int:=l.filter (fun x=>ltb x n)++n::l.filter (fun x=>ltb n x)
def yxr (m:dM) (n:Int):dM:=bif yp m&&(inb n m.1.length&& !(m.2.2.2.any (· ==n))) then (m.1,m.2.1,m.2.2.1,yS3 m.2.2.2 n) else m
theorem yZQ {l:List Int} {n:Int} (h:l.Pairwise (· < ·)) (hn:n∉l):l=l.filter (fun x=>ltb x n)++l.filter (fun x=>ltb n x):=by
  induction l with
  | nil=>rfl
  | cons x t ih =>
    obtain ⟨hx,ht⟩:=List.pairwise_cons.1 h
    simp only [List.mem_cons,not_or]at hn
    rw [List.filter_cons,List.filter_cons]
    by_cases hlt:x < n
    · rw [zjI hlt,zkm (show x≤n by omega)]
      simp only [if_true,Bool.false_eq_true,if_false,List.cons_append]
      rw [← ih ht hn.2]
    · have h3:t.filter (fun x=>ltb x n)= []:=List.filter_eq_nil_iff.2 (fun y hy=>by rw [zkm (by have:=hx y hy; omega)]; simp)
      have h4:t.filter (fun x=>ltb n x)=t:=List.filter_eq_self.2 (fun y hy=>zjI (by have:=hx y hy; omega))
      rw [zkm (show n≤x by omega),zjI (show n < x by omega),h3,h4]; rfl
theorem yZR {m:dM} (n:Int) (h:yp m=true):yp (yxr m n)=true:=by
  unfold yxr
  cases hc:(yp m&&(inb n m.1.length&& !(m.2.2.2.any (· ==n))))
  · exact h
  · simp only [Bool.and_eq_true]at hc
    have hi:=zjP.1 hc.2.1
    obtain ⟨h1,h2,h3,h4,h5,h6⟩:=yao h
    rw [ylq]at h3
    refine ywZ h1 h2 ?_ h4 h5 h6
    show yqw m.1.length (yS3 m.2.2.2 n)=true
    rw [ylq]
    unfold yS3
    refine ⟨fun x hx=> ?_,?_⟩
    · rcases List.mem_append.1 hx with g | g
      · exact h3.1 x (List.mem_filter.1 g).1
      · rcases List.mem_cons.1 g with rfl | g
        · exact hi
        · exact h3.1 x (List.mem_filter.1 g).1
    · rw [List.pairwise_append,List.pairwise_cons]
      refine ⟨h3.2.filter _,⟨fun y hy=>zjT.1 (List.mem_filter.1 hy).2,h3.2.filter _⟩,fun x hx y hy=> ?_⟩
      have g1:=zjT.1 (List.mem_filter.1 hx).2
      rcases List.mem_cons.1 hy with rfl | hy
      · exact g1
      · exact Int.lt_trans g1 (zjT.1 (List.mem_filter.1 hy).2)
theorem yXo (m:dM) (n:Int):(yxr m n).1=m.1∧(yxr m n).2.2.1=m.2.2.1:=by
  unfold yxr
  cases (yp m&&(inb n m.1.length&& !(m.2.2.2.any (· ==n))))<;>exact ⟨rfl,rfl⟩
def ycW (g:dG) (s:Int):Bool:=yf g&&(leb 0 s&&leb s (g.2 - 1))
def yu (g:dG) (s:Int):Int:=bif ycW g s then g.1 - 1 - s.tmod g.1 else -1
def ypw (g:dG) (s i:Int):Int:=bif ycW g s&&(leb 0 i&&leb i (g.1 - 2)) then (yu g s+1+i).tmod g.1 else -1
theorem ye8 {g:dG} {s:Int}:ycW g s=true↔yf g=true∧0≤s∧s≤g.2 - 1:=by simp [ycW,zjQ]
theorem yEK {g:dG} {s:Int} (h:ycW g s=true):0≤yu g s∧yu g s≤g.1 - 1:=by
  have h1:=ye8.1 h
  have h2:=yk.1 h1.1
  unfold yu
  rw [h,cond_true,Int.tmod_eq_emod_of_nonneg h1.2.1]
  have:=Int.emod_nonneg s (show g.1≠0 by omega)
  have:=Int.emod_lt_of_pos s (show 0 < g.1 by omega)
  omega
theorem y1S {g:dG} {s i:Int} (h:ycW g s=true) (h1:0≤i) (h2:i≤g.1 - 2):0≤ypw g s i∧ypw g s i≤g.1 - 1:=by
  have h3:=yk.1 (ye8.1 h).1
  have h4:=yEK h
  unfold ypw
  rw [h,zk0 h1,zk0 h2,Bool.and_self,Bool.and_self,cond_true,Int.tmod_eq_emod_of_nonneg (by omega)]
  have:=Int.emod_nonneg (yu g s+1+i) (show g.1≠0 by omega)
  have:=Int.emod_lt_of_pos (yu g s+1+i) (show 0 < g.1 by omega)
  omega
def yI (p:Nat→Bool):Nat→Int
  | 0=> -1
  | n+1=>bif p n then yI p n else n
def yGR (p:Nat→Bool) (n:Nat):Bool:=(List.range n).any (fun i=> !p i&&leb 0 (yI p i))
theorem yXk (p:Nat→Bool): ∀ n,yI p n= -1∨(0≤yI p n∧yI p n < n∧p (yI p n).toNat=false)
  | 0=> .inl rfl
  | n+1=>by
    unfold yI
    cases h:p n
    · exact .inr ⟨by show (0:Int)≤n; omega,by show (n:Int) < _; omega,h⟩
    · rcases yXk p n with h1 | h1
      · exact .inl h1
      · exact .inr ⟨h1.1,by show yI p n < _; omega,h1.2.2⟩
def y5 (a:dA) (s:Int) (n:Nat):List Int:=(List.range n).map (fun (i:Nat)=>yxl a i s)
theorem yp6 (a:dA) (s:Int) (n:Nat):(y5 a s n).length=n:=by unfold y5; rw [List.length_map,List.length_range]
theorem yIh (a:dA) (s:Int) (n:Nat):y5 a s n++ [yxl a n s]=y5 a s (n+1):=by unfold y5; rw [List.range_succ,List.map_append]; rfl
theorem y0e (a:dA) (s:Int) {i n:Nat} (h:i < n):nth (y5 a s n) i 0=yxl a i s:=by
  unfold y5
  rw [zjW,zcq (by rw [List.length_map,List.length_range]; exact h)]; simp
def yZ (a:dA) (s:Int):List Int×Bool :=
  bif yGR (fun (i:Nat)=>yn a i s) a.2.1.1.toNat then ([],false)
  else bif leb 0 (yI (fun (i:Nat)=>yn a i s) a.2.1.1.toNat) then ((y5 a s a.2.1.1.toNat).set (yI (fun (i:Nat)=>yn a i s) a.2.1.1.toNat).toNat (yoK (y5 a s a.2.1.1.toNat)),true)
  else (y5 a s a.2.1.1.toNat,true)
theorem yLs {a:dA} {s:Int} (h:(yZ a s).2=true):(yZ a s).1.length=a.2.1.1.toNat:=by
  unfold yZ at h ⊢
  cases h1:yGR (fun (i:Nat)=>yn a i s) a.2.1.1.toNat
  · cases leb 0 (yI (fun (i:Nat)=>yn a i s) a.2.1.1.toNat)
    · exact yp6 _ _ _
    · simp only [cond_false,cond_true,List.length_set]; exact yp6 _ _ _
  · rw [h1]at h; cases h
theorem yXl (a:dA) (s:Int) (n:Nat) (h:leb 0 (yI (fun (i:Nat)=>yn a i s) n)=true):inb (yI (fun (i:Nat)=>yn a i s) n) (y5 a s n).length=true∧ypA (y5 a s n) (yI (fun (i:Nat)=>yn a i s) n)=yoK (y5 a s n):=by
  rcases yXk (fun (i:Nat)=>yn a i s) n with h1 | h1
  · rw [h1]at h; cases h
  · have h2:inb (yI (fun (i:Nat)=>yn a i s) n) (y5 a s n).length=true:=by rw [yp6,zjP]; exact ⟨h1.1,h1.2.1⟩
    refine ⟨h2,y05 h2 ?_⟩
    have h3:=y0e a s (show (yI (fun (i:Nat)=>yn a i s) n).toNat < n by omega)
    rw [show (((yI (fun (i:Nat)=>yn a i s) n).toNat:Nat):Int)=yI (fun (i:Nat)=>yn a i s) n by omega]at h3
    rw [h3]
    unfold yxl
    have h4:yn a (yI (fun (i:Nat)=>yn a i s) n) s=false:=by
      have:=h1.2.2
      have this:yn a ((yI (fun (i:Nat)=>yn a i s) n).toNat:Nat) s=false:=h1.2.2
      rwa [show (((yI (fun (i:Nat)=>yn a i s) n).toNat:Nat):Int)=yI (fun (i:Nat)=>yn a i s) n by omega]at this
    rw [h4]; rfl
def yAE (a:dA) (s:Int):List Int×Bool:=bif (yZ a s).2 then ((List.range (a.2.1.1 - 1).toNat).map (fun (i:Nat)=>nth (yZ a s).1 (ypw a.2.1 s i) 0),true) else ([],false)
def y0S (a:dA) (s:Int):List Int×Bool:=bif ym a&&(!a.2.2.2.2.2.2.2.2.2.2.2&&ycW a.2.1 s) then yAE a s else ([],false)
theorem y2M (a:dA) (s:Int):(yAE a s).1.length≤(a.2.1.1 - 1).toNat:=by
  unfold yAE
  cases (yZ a s).2
  · exact Nat.zero_le _
  · simp
def y21 (a:dA):List Int:=bif ym a&&(List.range a.2.1.2.toNat).all (fun (s:Nat)=>(y0S a s).2) then (List.range a.2.1.2.toNat).flatMap (fun (s:Nat)=>(y0S a s).1) else []
theorem y2d {x:Int} (h:isW x=true):(bv x).toNat < 2 ^ 16:=by
  have:=yVx.1 h
  unfold bv
  rw [BitVec.toNat_ofInt]
  omega
theorem y2g {v:BitVec 64} (h:v.toNat < 2 ^ 16):isW v.toInt=true:=by
  rw [BitVec.toInt_eq_toNat_of_lt (by omega)]
  exact yVx.2 (by omega)
theorem y2a: ∀ (l:List Int),l.all isW=true→(yQ1 l).toNat < 2 ^ 16:=by
  intro l h
  have: ∀ (l:List Int) (v:BitVec 64),v.toNat < 2 ^ 16→l.all isW=true→(l.foldl (fun v x=>v ^^^ bv x) v).toNat < 2 ^ 16:=by
    intro l
    induction l with
    | nil=>intro v hv _; exact hv
    | cons x t ih =>
      intro v hv h
      simp only [List.all_cons,Bool.and_eq_true]at h
      refine ih _ ?_ h.2
      rw [BitVec.toNat_xor]
      exact Nat.xor_lt_two_pow hv (y2d h.1)
  exact this l 0#64 (by decide) h
theorem y1i {l:List Int} (h:l.all isW=true):isW (yoK l)=true:=by
  rw [yQ0]; exact y2g (y2a l h)
theorem yLt {l:List Int}:l.all isW=true↔ ∀ x∈l,isW x=true:=by simp
theorem y0q {l:List Int} {i:Int} (h:l.all isW=true):isW (nth l i 0)=true:=by
  unfold nth
  rw [List.getD_eq_getElem?_getD]
  cases e:l[i.toNat]? with
  | none=>rfl
  | some x=>exact yLt.1 h x (List.mem_of_getElem? e)
theorem y0u {l:List Int} {i:Nat} {x:Int} (h:l.all isW=true) (hx:isW x=true):(l.set i x).all isW=true:=by
  rw [yLt]at h ⊢
  intro y hy
  rcases List.mem_or_eq_of_mem_set hy with h1 | rfl
  · exact h y h1
  · exact hx
theorem y0J {m:dM} {n:Int} (h:(ydy m n).2=true):yaf (ydy m n).1=true:=by
  unfold ydy at h ⊢
  cases hc:yAO m n
  · rw [hc]at h; cases h
  · simp only [yAO,Bool.and_eq_true]at hc
    obtain ⟨h1,h2,h3,_,_,_⟩:=yao hc.1
    refine yG0 (P:=fun s=>yaf s=true) ?_ fun w hw=> ?_
    · exact yw2 (P:=fun s=>yaf s=true) hc.2.2.1 (fun x hx=>List.all_eq_true.1 h1 x hx)
    · have:=List.all_eq_true.1 h2 w hw
      simp only [yvZ,Bool.and_eq_true]at this
      exact this.2
theorem y1I (a:dA) (m s:Int):isW (yxl a m s)=true:=by
  unfold yxl
  cases h:yn a m s
  · rfl
  · simp only [yn,Bool.and_eq_true]at h
    have:=y0J (m:=nth a.2.2.1 m ye) (n:=ycA s) h.2.1
    simp only [yaf,Bool.and_eq_true]at this
    exact y0q this.2
theorem yC2 (a:dA) (s:Int) (n:Nat):(y5 a s n).all isW=true:=by
  rw [yLt]
  unfold y5
  intro x hx
  obtain ⟨i,_,rfl⟩:=List.mem_map.1 hx
  exact y1I a i s
theorem y1g (a:dA) (s:Int):(yZ a s).1.all isW=true:=by
  unfold yZ
  cases yGR (fun (i:Nat)=>yn a i s) a.2.1.1.toNat
  · cases leb 0 (yI (fun (i:Nat)=>yn a i s) a.2.1.1.toNat)
    · exact yC2 _ _ _
    · exact y0u (yC2 _ _ _) (y1i (yC2 _ _ _))
  · rfl
theorem y0R (a:dA) (s:Int):(yAE a s).1.all isW=true:=by
  unfold yAE
  cases (yZ a s).2
  · rfl
  · rw [yLt]
    intro x hx
    obtain ⟨i,_,rfl⟩:=List.mem_map.1 hx
    exact y0q (y1g a s)
end
section
def yHy:Code:=(Tryz.f139.body).getD .skip
def yH1:Env:=zki TT [] []
theorem yPb:FrOk Tryz.prog ⟨yH1,6,fun _=>none⟩ yHy:=zkp yc yd trivial
def yRp:Nat→Option Seg:=fun _=>none
abbrev ymK:List Par:= [.rd tG]
abbrev ysA:List OT:= [⟨false,tI,.fz⟩]
def yvP (a0:dG):Option (ResD ysA×MutD ymK) :=
  some (((IntKind.i64.wrap (6+a0.2)),()),())
theorem yX0 (x:InD ymK):zjH ⟨yH1,6,yRp⟩ Tryz.f139.results.toList yHy ymK ysA x=yvP x.1:=by kernel_rfl
theorem yTZ:ConOk Tryz.prog 139 ⟨ymK,ysA,fun x=>yvP x.1⟩:=zkh (yPb) Tryz.func139 (by kernel_rfl) (by kernel_rfl) Tryz.ntmps139.symm (by decide) (fun x r h=>(yX0 x).trans h)
def yb5 (a0:dG):Int :=
  (IntKind.i64.wrap (6+a0.2))
def yom:Con:=⟨ymK,ysA,fun x=>(fun n=>some ((n,()),())) (yb5 x.1)⟩
theorem yVX (a0:dG):yvP a0=(fun n=>some ((n,()),())) (yb5 a0):=zkS (p:=fun (n:Int)=>((n,()),())) rfl
theorem yw7:ConOk Tryz.prog 139 yom:=(yTZ).mono (fun x r _ h=>(yVX x.1).trans h)
end
section
def yHx:Code:=(Tryz.f181.body).getD .skip
def yH0:Env:=zki TT [(135,yq)] []
theorem yOW:FrOk Tryz.prog ⟨yH0,5,fun _=>none⟩ yHx:=zkp yc yd ⟨yz,trivial⟩
def yRo:Nat→Option Seg:=fun _=>none
abbrev ymH:List Par:= [.rd tI]
abbrev ysv:List OT:= [⟨false,tB,.fz⟩]
def yvO (a0:Int):Option (ResD ysv×MutD ymH) :=
  let r1:=ya a0 0 65535
  some ((r1,()),())
theorem yXT (x:InD ymH):zjH ⟨yH0,5,yRo⟩ Tryz.f181.results.toList yHx ymH ysv x=yvO x.1:=by kernel_rfl
theorem yTS:ConOk Tryz.prog 181 ⟨ymH,ysv,fun x=>yvO x.1⟩:=zkh (yOW) Tryz.func181 (by kernel_rfl) (by kernel_rfl) Tryz.ntmps181.symm (by decide) (fun x r h=>(yXT x).trans h)
def yaj (a0:Int):Bool :=
  let r1:=ya a0 0 65535
  r1
def yEj:Con:=⟨ymH,ysv,fun x=>(fun n=>some ((n,()),())) (yaj x.1)⟩
theorem yVS (a0:Int):yvO a0=(fun n=>some ((n,()),())) (yaj a0):=zkS (p:=fun (n:Bool)=>((n,()),())) rfl
theorem yWK:ConOk Tryz.prog 181 yEj:=(yTS).mono (fun x r _ h=>(yVS x.1).trans h)
end
end
end Go.Tf
