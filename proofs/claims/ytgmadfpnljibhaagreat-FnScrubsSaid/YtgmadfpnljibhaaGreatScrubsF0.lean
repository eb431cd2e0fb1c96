/- Functions of the program, and what they come to. -/
import Derived.Test.YtgmadfpnljibhaaGreatScrubsTt
namespace Go.Tf
noncomputable section
open Go.Proofs
set_option synthInstance.maxHeartbeats 400000
set_option synthInstance.maxSize 10000
set_option linter.unusedVariables false
set_option linter.unusedSimpArgs false
set_option maxRecDepth 100000
section
def yN6:Code:=(Tryz.f12.body).getD .skip
def yOy:Env:=zki TT [] []
theorem yV0:FrOk Tryz.prog ⟨yOy,6,fun _=>none⟩ yN6:=zkp yc yd trivial
def yWR:Nat→Option Seg:=fun _=>none
abbrev ys1:List Par:= [.rd tYs]
abbrev yxW:List OT:= [⟨false,tB,.fz⟩]
def yz4 (a0:List Int):Option (ResD yxW×MutD ys1) :=
  some (((ltb 1048576 (a0.length:Int)),()),())
theorem yYO (x:InD ys1):zjH ⟨yOy,6,yWR⟩ Tryz.f12.results.toList yN6 ys1 yxW x=yz4 x.1:=by kernel_rfl
theorem yXM:ConOk Tryz.prog 12 ⟨ys1,yxW,fun x=>yz4 x.1⟩:=zkh (yV0) Tryz.func12 (by kernel_rfl) (by kernel_rfl) Tryz.ntmps12.symm (by decide) (fun x r h=>(yYO x).trans h)
def yx2 (a0:List Int):Bool :=
  (ltb 1048576 (a0.length:Int))
def yHu:Con:=⟨ys1,yxW,fun x=>(fun n=>some ((n,()),())) (yx2 x.1)⟩
theorem yYm (a0:List Int):yz4 a0=(fun n=>some ((n,()),())) (yx2 a0):=zkS (p:=fun (n:Bool)=>((n,()),())) rfl
theorem yYn:ConOk Tryz.prog 12 yHu:=(yXM).mono (fun x r _ h=>(yYm x.1).trans h)
def yaJ {α:Type} (p:α→Bool) (l:List α):Int:=bif l.any p then ((l.takeWhile (fun x=> !p x)).length:Int) else -1
theorem yU2 {α:Type} (p:α→Bool):yaJ p []= -1:=rfl
theorem yx1 {α:Type} (p:α→Bool) (x:α) (l:List α):yaJ p (x::l)=bif p x then 0 else bif leb 0 (yaJ p l) then yaJ p l+1 else -1:=by
  unfold yaJ
  rw [List.any_cons,List.takeWhile_cons]
  cases p x
  · cases l.any p
    · rfl
    · simp only [Bool.false_or,Bool.not_false,if_true,cond_true,cond_false,List.length_cons]
      rw [zk0 (show (0:Int)≤((l.takeWhile (fun x=> !p x)).length:Int) by omega),cond_true]; omega
  · simp
theorem yrz {α:Type} {p:α→Bool} {d:α}: ∀ {l:List α},leb 0 (yaJ p l)=true→inb (yaJ p l) l.length=true∧p (nth l (yaJ p l) d)=true
  | [],h=>by rw [yU2]at h; cases h
  | x::l,h=>by
    rw [yx1]at h ⊢
    cases hx:p x
    · rw [hx]at h
      cases hl:leb 0 (yaJ p l)
      · rw [hl]at h; cases h
      · obtain ⟨h1,h2⟩:=yrz (d:=d) hl
        have h3:=zjP.1 h1
        have h4:=zjQ.1 hl
        simp only [cond_false,cond_true,List.length_cons]
        refine ⟨zjP.2 (by omega),?_⟩
        unfold nth at h2 ⊢
        rw [show (yaJ p l+1).toNat=(yaJ p l).toNat+1 by omega,List.getD_cons_succ]
        exact h2
    · simp only [cond_true,List.length_cons]
      refine ⟨zjP.2 (by omega),?_⟩
      exact hx
theorem yU4 {A B α:Type} {step:A→Option (A ⊕ B)} (l:List α) (d:α) (f:Nat→A) (p:α→Bool) (b:Int→B) (c:B)
    (h: ∀ i,i < l.length→step (f i)=some (bif p (l.getD i d) then .inr (b i) else .inl (f (i+1)))) (e:step (f l.length)=some (.inr c)) (fuel:Nat) (hf:l.length < fuel) :
    zr step fuel (f 0)=some (bif leb 0 (yaJ p l) then b (yaJ p l) else c):=by
  have: ∀ (t q:List α) (fuel:Nat),q++t=l→t.length < fuel→zr step fuel (f q.length)=some (bif leb 0 (yaJ p t) then b (q.length+yaJ p t) else c):=by
    intro t
    induction t with
    | nil =>
      intro q fuel hq hf
      obtain ⟨fuel,rfl⟩: ∃ m,fuel=m+1:=⟨fuel - 1,by omega⟩
      rw [List.append_nil]at hq
      subst hq
      simp only [zr,e]; rfl
    | cons x t ih =>
      intro q fuel hq hf
      obtain ⟨fuel,rfl⟩: ∃ m,fuel=m+1:=⟨fuel - 1,by omega⟩
      have hx:l.getD q.length d=x:=by
        subst hq
        rw [zcq (by simp)]; simp
      have hs:=h q.length (by rw [← hq]; simp)
      rw [hx]at hs
      rw [yx1]
      cases hp:p x
      · rw [hp]at hs
        have:=ih (q++ [x]) fuel (by rw [← hq]; simp) (by simp at hf; omega)
        simp only [List.length_append,List.length_cons,List.length_nil]at this
        simp only [zr,hs,cond_false]
        rw [show q.length+1=q.length+(0+1) by omega,this]
        cases hl:leb 0 (yaJ p t)
        · rfl
        · have:=zjQ.1 hl
          rw [cond_true,cond_true,zk0 (show 0≤yaJ p t+1 by omega),cond_true]
          congr 2; omega
      · rw [hp]at hs
        simp only [zr,hs,cond_true]
        rw [zk0 (Int.le_refl 0),cond_true,Int.add_zero]
  have:=this l [] fuel rfl hf
  simpa using this
theorem ykz {α β:Type} (f:α→β): ∀ (l:List α) (s:List β),l.foldl (fun s i=>s++ [f i]) s=s++l.map f
  | [],s=>by simp
  | x::l,s=>by rw [List.foldl_cons,ykz f l]; simp
theorem yXr {α:Type} (l:List α):l.foldl (fun s i=>s++ [i]) []=l:=by
  have:=ykz id l []
  simpa using this
theorem yZo {α:Type} (l:List α) (d:α) {i:Nat} (h:i < l.length):l.take i++ [nth l i d]=l.take (i+1):=by rw [zjW,zcq h,List.take_append_getElem h]
def ybA (e:dW) (s:Bool×List dW) (x:dW):Bool×List dW:=(s.1||leb e.1 x.1,(bif !s.1&&leb e.1 x.1 then s.2++ [e] else s.2)++(bif x.1 !=e.1 then [x] else []))
def yIx (l:List dW) (e:dW):List dW:=bif (l.foldl (ybA e) (false,[])).1 then (l.foldl (ybA e) (false,[])).2 else (l.foldl (ybA e) (false,[])).2++ [e]
def yz5 (a:dA) (l:List dW):dA:=(a.1,a.2.1,a.2.2.1,a.2.2.2.1,a.2.2.2.2.1,a.2.2.2.2.2.1,a.2.2.2.2.2.2.1,a.2.2.2.2.2.2.2.1,l,a.2.2.2.2.2.2.2.2.2)
def yEP (m:dM):Nat:=(m.1.map (fun x:List Int=>x.length)).sum+(m.2.1.map (fun x:dW=>1+x.2.length)).sum+1+m.2.2.2.length
def yWQ (l:List dM):Nat:=(l.map yEP).sum
def yZ8 (l:List dW):Nat:=(l.map (fun x:dW=>1+x.2.length)).sum
def ywy (a:dA):Nat:=yWQ a.2.2.1+yZ8 a.2.2.2.2.2.2.2.2.1
abbrev noMem:dM:=([],[],false,[])
def isW (x:Int):Bool:=leb 0 x&&leb x 65535
def yV (s:List Int):Bool:=leb (s.length:Int) 12&&s.all isW
theorem yu1 {x:Int}:isW x=true↔0≤x∧x≤65535:=by simp [isW,zjQ]
theorem yoc {s:List Int}:yV s=true↔s.length≤12∧ ∀ x∈s,0≤x∧x≤65535:=by
  simp only [yV,Bool.and_eq_true,zjQ,List.all_eq_true,yu1]
  constructor
  · rintro ⟨h1,h2⟩; exact ⟨by omega,h2⟩
  · rintro ⟨h1,h2⟩; exact ⟨by omega,h2⟩
theorem yYv: ∀ {l:List Int},l.Pairwise (· < ·)↔ ∀ i,i+1 < l.length→l.getD i 0 < l.getD (i+1) 0
  | []=>by simp
  | [x]=>by simp
  | x::y::l=>by
    have ih:=yYv (l:=y::l)
    constructor
    · intro h i hi
      cases h with
      | cons h1 h2 =>
        cases i with
        | zero=>exact h1 y List.mem_cons_self
        | succ i=>exact ih.1 h2 i (by simpa using hi)
    · intro h
      have h2:(y::l).Pairwise (· < ·):=ih.2 fun i hi=>h (i+1) (by simpa using hi)
      refine .cons (fun z hz=> ?_) h2
      have h3:x < y:=h 0 (by simp)
      rcases List.mem_cons.1 hz with rfl | hz
      · exact h3
      · cases h2 with
        | cons h4 _=>exact Int.lt_trans h3 (h4 z hz)
def yoP (n:Nat) (l:List Int):Bool:=l.all (fun x=>inb x n)&&decide (l.Pairwise (· < ·))
def ysd (n:Nat) (w:dW):Bool:=inb w.1 n&&yV w.2
def ym (m:dM):Bool:=m.1.all yV&&m.2.1.all (ysd m.1.length)&&yoP m.1.length m.2.2.2&&leb 1 (m.1.length:Int)&&leb (m.1.length:Int) 20&&leb (m.2.1.length:Int) 60
def yBm (n:Nat) (l:List Int) (i:Nat):Bool:= !(inb (l.getD i 0) n)||(decide (0 < i)&&leb (l.getD i 0) (l.getD (i - 1) 0))
theorem yUN (n:Nat) (l:List Int):(List.range l.length).any (yBm n l)= !(yoP n l):=by
  rw [Bool.eq_iff_iff,List.any_eq_true,Bool.not_eq_true',yoP,Bool.and_eq_false_iff,decide_eq_false_iff_not,yYv,List.all_eq_false]
  simp only [List.mem_range,yBm,Bool.or_eq_true,Bool.not_eq_true',Bool.and_eq_true,decide_eq_true_eq,zjQ]
  constructor
  · rintro ⟨i,hi,h | ⟨h1,h2⟩⟩
    · exact .inl ⟨l[i],List.getElem_mem hi,by rw [zcq hi]at h; simp [h]⟩
    · refine .inr fun h3=> ?_
      have:=h3 (i - 1) (by omega)
      rw [show i - 1+1=i by omega]at this
      omega
  · rintro (⟨x,hx,h⟩ | h)
    · obtain ⟨i,hi,rfl⟩:=List.getElem_of_mem hx
      exact ⟨i,hi,.inl (by rw [zcq hi]; simpa using h)⟩
    · refine Classical.byContradiction fun hc=>h fun i hi=> ?_
      refine Classical.byContradiction fun h4=>hc ⟨i+1,hi,.inr ⟨by omega,?_⟩⟩
      rw [Nat.add_sub_cancel]; omega
def ygw (n:Int) (c:List dW) (s:List Int):List Int:=c.foldl (fun s w=>bif w.1==n then w.2 else s) s
def yx7 (m:dM) (n:Int):Bool:=ym m&&(!m.2.2.1&&(inb n m.1.length&& !(m.2.2.2.any (· ==n))))
def ygZ (m:dM) (n:Int):List Int×Bool:=bif yx7 m n then (ygw n m.2.1 (nth m.1 n []),true) else ([],false)
theorem yEY {P:List Int→Prop} {n:Int}: ∀ {c:List dW} {s:List Int},P s→(∀ w∈c,P w.2)→P (ygw n c s)
  | [],_,h,_=>h
  | w::c,s,h,hc=>yEY (c:=c) (zkM (hc w List.mem_cons_self) h) (fun x hx=>hc x (List.mem_cons_of_mem _ hx))
theorem yu3 {α:Type} {P:α→Prop} {l:List α} {i:Int} {d:α} (h:inb i l.length=true) (hl: ∀ x∈l,P x):P (nth l i d):=by
  obtain ⟨h1,h2⟩:=zjP.1 h
  unfold nth
  rw [zcq (show i.toNat < l.length by omega)]
  exact hl _ (List.getElem_mem _)
theorem yYz {α:Type} {p:α→Bool} {l:List α} (h:leb 0 (yaJ p l)=false):yaJ p l= -1:=by
  unfold yaJ at h ⊢
  cases ha:l.any p
  · rfl
  · rw [ha,cond_true,zk0 (show (0:Int)≤((l.takeWhile (fun x=> !p x)).length:Int) by omega)] at h; cases h
theorem yZe {α:Type} {p:α→Bool}: ∀ {l:List α},leb 0 (yaJ p l)=true→(l.take ((yaJ p l).toNat+1)).filter (fun x=> !p x)=l.take (yaJ p l).toNat
  | [],h=>by rw [yU2]at h; cases h
  | x::l,h=>by
    rw [yx1]at h ⊢
    cases hx:p x
    · rw [hx]at h
      cases hl:leb 0 (yaJ p l)
      · rw [hl]at h; cases h
      · have h4:=zjQ.1 hl
        simp only [cond_false,cond_true]
        rw [show (yaJ p l+1).toNat=(yaJ p l).toNat+1 by omega,List.take_succ_cons,List.take_succ_cons,List.filter_cons,hx,yZe hl]; rfl
    · simp only [cond_true]
      show List.filter (fun x=> !p x) [x]= []
      rw [List.filter_cons,hx]; rfl
theorem y1p {α:Type} {p:α→Bool} {l:List α} (h:leb 0 (yaJ p l)=false):l.filter (fun x=> !p x)=l:=by
  rw [List.filter_eq_self]
  intro x hx
  unfold yaJ at h
  cases ha:l.any p
  · have:=List.any_eq_false.1 ha x hx
    simpa using this
  · rw [ha,cond_true,zk0 (show (0:Int)≤((l.takeWhile (fun x=> !p x)).length:Int) by omega)] at h; cases h
def yeF (a:dA):dA:=(a.1,a.2.1,a.2.2.1,a.2.2.2.1,a.2.2.2.2.1,IntKind.i64.wrap (a.2.2.2.2.2.1+1),a.2.2.2.2.2.2)
def dataAt (s:Int):Int:=bif leb 0 s&&leb s 1099511627776 then s+6 else -1
def yby (a:dA) (m s:Int):Bool:=inb m a.2.2.1.length&&(!(nth a.2.2.1 m noMem).2.2.1&&(m !=a.2.2.2.1||ltb s a.2.2.2.2.1))
def yci (a:dA) (m s:Int):List Int×Bool:=ygZ (nth a.2.2.1 m noMem) (dataAt s)
def yl (a:dA) (m s:Int):Bool:=yby a m s&&((yci a m s).2&&((yci a m s).1.length:Int)==1)
def ygx (a:dA) (m s:Int):Int:=bif yl a m s then nth (yci a m s).1 0 0 else 0
def xw (a b:Int):Int:=IntKind.i64.wrap ((BitVec.ofInt IntKind.i64.bits a ^^^ BitVec.ofInt IntKind.i64.bits b).toNat:Int)
def xorOf (l:List Int):Int:=l.foldl xw 0
def yrq (a:dA) (s:Int):Bool:=(List.range a.2.2.1.length).all (fun (i:Nat)=>yl a i s)
def yal (a:dA) (s:Int):Int×Bool:=bif yrq a s then (xorOf ((List.range a.2.2.1.length).map (fun (i:Nat)=>ygx a i s)),true) else (0,false)
def yIM (a:dA):Bool:=(List.range (min a.2.1.2.toNat 20)).all (fun (s:Nat)=> !((yal a s).2&&(yal a s).1 !=0))
def bv (x:Int):BitVec 64:=BitVec.ofInt 64 x
theorem ySa (a b:Int):xw a b=(bv a ^^^ bv b).toInt:=by
  show IntKind.i64.wrap ((bv a ^^^ bv b).toNat:Int)=_
  rw [IntKind.wrap_i64,BitVec.toInt_eq_toNat_cond]
  have:=(bv a ^^^ bv b).isLt
  split<;>omega
theorem yrs (v:BitVec 64):bv v.toInt=v:=by unfold bv; simp
theorem y1C (a b:Int):bv (xw a b)=bv a ^^^ bv b:=by rw [ySa,yrs]
theorem yXY {x:Int} (h: -9223372036854775808≤x) (h2:x≤9223372036854775807):(bv x).toInt=x:=by
  unfold bv
  rw [BitVec.toInt_ofInt,Int.bmod_def]
  simp only [Nat.reducePow]at *
  omega
def yde (l:List Int):BitVec 64:=l.foldl (fun v x=>v ^^^ bv x) 0#64
theorem ykW (l:List Int):xorOf l=(yde l).toInt:=by
  have: ∀ (l:List Int) (v:BitVec 64),l.foldl xw v.toInt=(l.foldl (fun v x=>v ^^^ bv x) v).toInt:=by
    intro l
    induction l with
    | nil=>intro _; rfl
    | cons x l ih =>
      intro v
      rw [List.foldl_cons,List.foldl_cons,ySa,yrs,ih]
  have h:=this l 0#64
  rwa [show (0#64:BitVec 64).toInt=0 from by decide]at h
theorem yZy (l:List Int) (x:Int):yde (l++ [x])=yde l ^^^ bv x:=by unfold yde; rw [List.foldl_append]; rfl
theorem yZ7 {i:Int} {n:Nat} (h: ¬ (0≤i∧i < (n:Int))):inb i n=false:=by
  cases e:inb i n
  · rfl
  · exact absurd (zjP.1 e) h
def ynW (l:List Int) (k:Int):Int:=bif inb k l.length then xw (xorOf l) (nth l k 0) else xorOf l
theorem yVk (u v:BitVec 64):u ^^^ v ^^^ v=u:=by rw [BitVec.xor_assoc,BitVec.xor_self,BitVec.xor_zero]
theorem yZi (l:List Int) (k:Int):(List.range l.length).foldl (fun n (i:Nat)=>bif (i:Int) !=k then xw n (nth l i 0) else n) 0=ynW l k:=by
  have: ∀ n,n≤l.length→(List.range n).foldl (fun n (i:Nat)=>bif (i:Int) !=k then xw n (nth l i 0) else n) 0=(bif inb k n then yde (l.take n) ^^^ bv (nth l k 0) else yde (l.take n)).toInt:=by
    intro n
    induction n with
    | zero =>
      intro _
      rw [yZ7 (show ¬ (0≤k∧k < ((0:Nat):Int)) by omega)]
      rfl
    | succ n ih =>
      intro hn
      rw [List.range_succ,List.foldl_append,List.foldl_cons,List.foldl_nil,ih (by omega),← yZo l 0 (show n < l.length by omega),yZy]
      by_cases hk:(n:Int)=k
      · subst hk
        rw [show ((n:Int) !=n)=false by simp,cond_false,yZ7 (show ¬ (0≤(n:Int)∧(n:Int) < (n:Int)) by omega),show inb (n:Int) (n+1)=true from zkO (Nat.lt_succ_self n),cond_false,cond_true,yVk]
      · rw [show ((n:Int) !=k)=true from bne_iff_ne.2 hk,cond_true,show inb k (n+1)=inb k n by rw [Bool.eq_iff_iff,zjP,zjP]; omega,ySa,yrs]
        cases inb k n
        · rfl
        · rw [cond_true,cond_true,BitVec.xor_assoc,BitVec.xor_comm (bv (nth l k 0)),← BitVec.xor_assoc]
  rw [this l.length (Nat.le_refl _),List.take_length]
  unfold ynW
  rw [ySa,ykW,yrs]
  cases inb k l.length<;>rfl
theorem yZh {l:List Int} {k:Int} (h:inb k l.length=true) (h0:nth l k 0=0):ynW l k=xorOf l:=by
  unfold ynW
  rw [h,h0,cond_true,ySa,ykW,yrs,show bv 0=0#64 by decide,BitVec.xor_zero]
theorem yHC {α β:Type} (f:α→List β): ∀ (l:List α) (s:List β),l.foldl (fun s i=>s++f i) s=s++l.flatMap f
  | [],s=>by simp
  | x::l,s=>by rw [List.foldl_cons,yHC f l]; simp
abbrev yoV:dA:=(0,(0,0),[],0,0,0,0,0,[],0,false,false)
def yWN (k:Int) (i:Nat):Bool:=IntKind.i64.wrap ((BitVec.ofInt IntKind.i64.bits (k.fdiv (2 ^ (min (i:Int).toNat IntKind.i64.bits))) &&& BitVec.ofInt IntKind.i64.bits 1).toNat:Int)==1
def yQb (k:Int):Int:=bif leb 0 k&&leb k 1048575 then k else 0
def yb2 (b:Nat→Bool) (c:List dW) (l:List (List Int)) (i:Nat):List (List Int):=bif b i then l.set (nth c i (0,[])).1.toNat (nth c i (0,[])).2 else l
def yfC (b:Nat→Bool) (c:List dW) (l:List (List Int)):List (List Int):=(List.range c.length).foldl (yb2 b c) l
def yfB (m:dM) (k:Int):dM:=bif ym m then (yfC (fun i=>decide (i < 20)&&yWN (yQb k) i) m.2.1 m.1,[],m.2.2.1,m.2.2.2) else m
def yXy (ks:List Int) (i:Nat):Int:=bif decide (i < ks.length) then nth ks i 0 else 0
def y0e (l:List dM) (ks:List Int):List dM:=(List.range l.length).map (fun (i:Nat)=>yfB (nth l i noMem) (yXy ks i))
theorem yW {m:dM} (h:ym m=true):m.1.all yV=true∧m.2.1.all (ysd m.1.length)=true∧yoP m.1.length m.2.2.2=true∧1≤m.1.length∧m.1.length≤20∧m.2.1.length≤60:=by
  simp only [ym,Bool.and_eq_true,zjQ]at h
  exact ⟨h.1.1.1.1.1,h.1.1.1.1.2,h.1.1.1.2,by omega,by omega,by omega⟩
theorem yZS {m:dM} (h:ym m=true) {i:Nat} (hi:i < m.2.1.length):inb (nth m.2.1 i (0,[])).1 m.1.length=true∧yV (nth m.2.1 i (0,[])).2=true:=by
  have h1:=List.all_eq_true.1 (yW h).2.1 m.2.1[i] (List.getElem_mem hi)
  rw [zjW,zcq hi]
  exact Bool.and_eq_true_iff.1 h1
theorem yEN {b:Nat→Bool} {c:List dW} {l:List (List Int)} {i:Nat}:(yb2 b c l i).length=l.length:=by
  unfold yb2; cases b i
  · rfl
  · exact List.length_set
theorem yPk {α β:Type} (P:β→Prop) (f:β→α→β) (h: ∀ s x,P s→P (f s x)): ∀ (l:List α) (s:β),P s→P (l.foldl f s)
  | [],_,hs=>hs
  | x::l,s,hs=>yPk P f h l (f s x) (h s x hs)
theorem ylZ {b:Nat→Bool} {c:List dW} {l:List (List Int)}:(yfC b c l).length=l.length :=
  yPk (fun x=>x.length=l.length) _ (fun s x hs=>by rw [yEN]; exact hs) _ l rfl
theorem y0W (b:Nat→Bool) (c:List dW) (l:List (List Int)):yfC (fun i=>decide (i < 20)&&b i) c l=(List.range (min c.length 20)).foldl (yb2 b c) l:=by
  have h1: ∀ n,n≤20→ ∀ l,(List.range n).foldl (yb2 (fun i=>decide (i < 20)&&b i) c) l=(List.range n).foldl (yb2 b c) l:=by
    intro n
    induction n with
    | zero=>intro _ _; rfl
    | succ n ih =>
      intro hn l
      rw [List.range_succ,List.foldl_append,List.foldl_append,ih (by omega)]
      simp only [List.foldl_cons,List.foldl_nil,yb2,show decide (n < 20)=true from decide_eq_true (by omega),Bool.true_and]
  have h2: ∀ n,20≤n→ ∀ l,(List.range n).foldl (yb2 (fun i=>decide (i < 20)&&b i) c) l=(List.range 20).foldl (yb2 b c) l:=by
    intro n
    induction n with
    | zero=>intro h; omega
    | succ n ih =>
      intro hn l
      by_cases h:20≤n
      · rw [List.range_succ,List.foldl_append,ih h]
        simp only [List.foldl_cons,List.foldl_nil,yb2,show decide (n < 20)=false from decide_eq_false (by omega),Bool.false_and,cond_false]
      · rw [h1 (n+1) (by omega),show n+1=20 by omega]
  unfold yfC
  by_cases h:c.length≤20
  · rw [h1 _ h,Nat.min_eq_left h]
  · rw [h2 _ (by omega),Nat.min_eq_right (by omega)]
theorem yR5 {l:List (List Int)} {b:Nat} (h:l.length≤20) (hs: ∀ x∈l,x.length≤b):(l.map (fun x:List Int=>x.length)).sum≤20 * b:=by
  have:=zi5 (f:=fun x:List Int=>x.length) hs
  exact Nat.le_trans this (Nat.mul_le_mul_right _ h)
theorem yKT {P:List Int→Prop} {b:Nat→Bool} {c:List dW} {l:List (List Int)} (hl: ∀ x∈l,P x) (hc: ∀ w∈c,P w.2): ∀ x∈yfC b c l,P x:=by
  have: ∀ (n:Nat),n≤c.length→ ∀ x∈(List.range n).foldl (yb2 b c) l,P x:=by
    intro n
    induction n with
    | zero=>intro _; exact hl
    | succ n ih =>
      intro hn x hx
      rw [List.range_succ,List.foldl_append,List.foldl_cons,List.foldl_nil,yb2]at hx
      cases hb:b n
      · rw [hb]at hx; exact ih (by omega) x hx
      · rw [hb,cond_true]at hx
        rcases List.mem_or_eq_of_mem_set hx with h | h
        · exact ih (by omega) x h
        · rw [h,zjW,zcq (show n < c.length by omega)]
          exact hc _ (List.getElem_mem _)
  exact this _ (Nat.le_refl _)
theorem yYQ (m:dM) (k:Int):yEP (yfB m k)≤yEP m+240:=by
  unfold yfB
  cases hm:ym m
  · exact Nat.le_add_right _ _
  · obtain ⟨h1,h2,_,_,h3,_⟩:=yW hm
    have hs: ∀ x∈yfC (fun i=>decide (i < 20)&&yWN (yQb k) i) m.2.1 m.1,x.length≤12 :=
      yKT (P:=fun x=>x.length≤12) (fun x hx=>(yoc.1 (List.all_eq_true.1 h1 x hx)).1) (fun w hw=>(yoc.1 (Bool.and_eq_true_iff.1 (List.all_eq_true.1 h2 w hw)).2).1)
    have:=yR5 (b:=12) (by rw [ylZ]; exact h3) hs
    unfold yEP
    simp only [cond_true,List.map_nil,List.sum_nil]
    omega
theorem y0z (l:List dM) (ks:List Int):yWQ (y0e l ks)≤yWQ l+240 * l.length:=by
  have: ∀ n,n≤l.length→(((List.range n).map (fun (i:Nat)=>yfB (nth l i noMem) (yXy ks i))).map yEP).sum≤((l.take n).map yEP).sum+240 * n:=by
    intro n
    induction n with
    | zero=>intro _; simp
    | succ n ih =>
      intro hn
      rw [List.range_succ,List.map_append,List.map_append,List.sum_append,← List.take_append_getElem (show n < l.length by omega),List.map_append,List.sum_append]
      have:=ih (by omega)
      have h2:=yYQ (nth l n noMem) (yXy ks n)
      rw [zjW,zcq (show n < l.length by omega)] at h2
      simp only [List.map_cons,List.map_nil,List.sum_cons,List.sum_nil]
      rw [zjW l n,zcq (show n < l.length by omega)]
      omega
  have h:=this l.length (Nat.le_refl _)
  rw [List.take_length]at h
  exact h
def ybj (m:dM) (n:Int) (s:List Int):Bool:=ym m&&(!m.2.2.1&&(inb n m.1.length&&(yV s&&ltb (m.2.1.length:Int) 60)))
def yN3 (l:List Int) (n:Int):List Int:=l.filter (· !=n)
def yF (m:dM) (n:Int) (s:List Int):dM×Bool:=bif ybj m n s then ((m.1,m.2.1++ [(n,s)],m.2.2.1,yN3 m.2.2.2 n),true) else (m,false)
def yr (m:dM):dM:=bif ym m&& !m.2.2.1 then (yfC (fun _=>true) m.2.1 m.1,[],m.2.2.1,m.2.2.2) else m
def yjQ (m:dM):dM:=(m.1,[],true,m.2.2.2)
end
section
def yKL:Code:=(Tryz.f135.body).getD .skip
def yKN:Env:=zki TT [] []
theorem yS8:FrOk Tryz.prog ⟨yKN,15,fun _=>none⟩ yKL:=zkp yc yd trivial
def yVl:Nat→Option Seg:=fun _=>none
abbrev yp2:List Par:= [.rd tI,.rd tI,.rd tI]
abbrev yvw:List OT:= [⟨false,tB,.fz⟩]
def ywG (a0:Int) (a1:Int) (a2:Int):Option (ResD yvw×MutD yp2) :=
  bif (leb a1 a0) then
    some (((leb a0 a2),()),())
  else
    some ((false,()),())
theorem yYc (x:InD yp2):zjH ⟨yKN,15,yVl⟩ Tryz.f135.results.toList yKL yp2 yvw x=ywG x.1 x.2.1 x.2.2.1:=by kernel_rfl
theorem yWs:ConOk Tryz.prog 135 ⟨yp2,yvw,fun x=>ywG x.1 x.2.1 x.2.2.1⟩:=zkh (yS8) Tryz.func135 (by kernel_rfl) (by kernel_rfl) Tryz.ntmps135.symm (by decide) (fun x r h=>(yYc x).trans h)
def ya (a0:Int) (a1:Int) (a2:Int):Bool :=
  bif (leb a1 a0) then
    (leb a0 a2)
  else
    false
def yq:Con:=⟨yp2,yvw,fun x=>(fun n=>some ((n,()),())) (ya x.1 x.2.1 x.2.2.1)⟩
theorem yXJ (a0:Int) (a1:Int) (a2:Int):ywG a0 a1 a2=(fun n=>some ((n,()),())) (ya a0 a1 a2):=zkS (p:=fun (n:Bool)=>((n,()),())) (zkx (p:=fun (n:Bool)=>((n,()),())) rfl rfl)
theorem yu:ConOk Tryz.prog 135 yq:=(yWs).mono (fun x r _ h=>(yXJ x.1 x.2.1 x.2.2.1).trans h)
theorem yzC {a b c:Int}:ya a b c=true↔b≤a∧a≤c:=by
  unfold ya
  cases h:leb b a
  · have:=mt zk0 (by rw [h]; simp: ¬ leb b a=true)
    simp [this]
  · simp [zjQ,zjQ.1 h]
theorem y1q {a b c:Int} (h:b≤a) (h2:a≤c):ya a b c=true:=yzC.2 ⟨h,h2⟩
theorem y1E {a b c:Int} (h: ¬ (b≤a∧a≤c)):ya a b c=false:=by
  cases e:ya a b c
  · rfl
  · exact absurd (yzC.1 e) h
theorem ybC (x a b:Int):ya x a b=(leb a x&&leb x b):=by
  unfold ya; cases leb a x<;>rfl
theorem yp9 {x:Int} {n:Nat} (h:n≤1152921504606846976):ya x 0 (IntKind.i64.wrap ((n:Int) - 1))=inb x n:=by
  rw [wr (by omega) (by omega),Bool.eq_iff_iff,yzC,zjP]; omega
end
section
def yGV:Code:=(Tryz.f134.body).getD .skip
def yHc:Env:=zki TT [(135,yq)] []
theorem yPB:FrOk Tryz.prog ⟨yHc,11,fun _=>none⟩ yGV:=zkp yc yd ⟨yu,trivial⟩
def ySf:Nat→Option Seg:=fun _=>none
abbrev ynE:List Par:= [.rd tG]
abbrev ytb:List OT:= [⟨false,tB,.fz⟩]
def yvj (a0:dG):Option (ResD ytb×MutD ynE) :=
  let r1:=ya a0.1 3 5
  bif r1 then
    let r2:=ya a0.2 1 8
    some ((r2,()),())
  else
    some ((false,()),())
theorem yW6 (x:InD ynE):zjH ⟨yHc,11,ySf⟩ Tryz.f134.results.toList yGV ynE ytb x=yvj x.1:=by kernel_rfl
theorem yTV:ConOk Tryz.prog 134 ⟨ynE,ytb,fun x=>yvj x.1⟩:=zkh (yPB) Tryz.func134 (by kernel_rfl) (by kernel_rfl) Tryz.ntmps134.symm (by decide) (fun x r h=>(yW6 x).trans h)
def ye (a0:dG):Bool :=
  let r1:=ya a0.1 3 5
  bif r1 then
    let r2:=ya a0.2 1 8
    r2
  else
    false
def yfx:Con:=⟨ynE,ytb,fun x=>(fun n=>some ((n,()),())) (ye x.1)⟩
theorem yWb (a0:dG):yvj a0=(fun n=>some ((n,()),())) (ye a0):=zkS (p:=fun (n:Bool)=>((n,()),())) (zkx (p:=fun (n:Bool)=>((n,()),())) rfl rfl)
theorem ylM:ConOk Tryz.prog 134 yfx:=(yTV).mono (fun x r _ h=>(yWb x.1).trans h)
theorem yg {a:Int×Int}:ye a=true↔(3≤a.1∧a.1≤5)∧1≤a.2∧a.2≤8:=by
  unfold ye
  cases h:ya a.1 3 5
  · have: ¬ (3≤a.1∧a.1≤5):=fun e=>by rw [yzC.2 e]at h; simp at h
    simp [this]
  · simp only [cond_true,yzC]
    exact ⟨fun e=>⟨yzC.1 h,e⟩,fun e=>e.2⟩
def ygn (a:dA) (i:Nat):Bool:= !(ym (nth a.2.2.1 i noMem))||((((nth a.2.2.1 i noMem).1.length:Int) !=6+a.2.1.2)||((nth a.2.2.1 i noMem).2.2.1&&(((i:Int) !=a.2.2.2.1)&& !a.2.2.2.2.2.2.2.2.2.2.2)))
def yly (a:dA):Bool:= !((List.range a.2.2.1.length).any (ygn a))&&(a.2.2.1.length:Int)==a.2.1.1
def ygV (g:dG) (l:List dW) (i:Nat):Bool:= !(leb 0 (nth l i (0,[])).1&&leb (nth l i (0,[])).1 (g.2 - 1))||(((nth l i (0,[])).2.length:Int) !=g.1 - 1||(!((nth l i (0,[])).2.all isW)||(decide (0 < i)&&leb (nth l i (0,[])).1 (nth l ((i - 1:Nat):Int) (0,[])).1)))
def yaz (g:dG) (l:List dW):Bool:= !((List.range l.length).any (ygV g l))
def yo (a:dA):Bool :=
  ye a.2.1&&((leb 1 a.1&&leb a.1 60000)&&(yly a&&(yaz a.2.1 a.2.2.2.2.2.2.2.2.1&&((leb (-1) a.2.2.2.1&&leb a.2.2.2.1 (a.2.1.1 - 1))&&((leb 0 a.2.2.2.2.1&&leb a.2.2.2.2.1 a.2.1.2)&&(!(a.2.2.2.1== -1&&a.2.2.2.2.1 !=0) &&
  ((leb 0 a.2.2.2.2.2.2.1&&leb a.2.2.2.2.2.2.1 60000)&&((leb a.2.2.2.2.2.2.1 a.2.2.2.2.2.1&&leb a.2.2.2.2.2.1 60000)&&(leb a.2.2.2.2.2.1 (a.2.2.2.2.2.2.1+4)&&((leb 0 a.2.2.2.2.2.2.2.1&&leb a.2.2.2.2.2.2.2.1 60000)&&(leb (-1) a.2.2.2.2.2.2.2.2.2.1&&leb a.2.2.2.2.2.2.2.2.2.1 1000)))))))))))
theorem yam {a:dA} (h:yo a=true):ye a.2.1=true:=(Bool.and_eq_true_iff.1 h).1
theorem y1D {a:Int×Int} (h: ¬ ye a=true):ye a=false:=by cases e:ye a<;>simp_all
theorem yOQ {a:dA} (h:yo a=true):yly a=true:=by simp only [yo,Bool.and_eq_true]at h; exact h.2.2.1
theorem yvI {a:dA} (h:yo a=true):(a.2.2.1.length:Int)=a.2.1.1:=by have:=yOQ h; simp only [yly,Bool.and_eq_true,beq_iff_eq]at this; exact this.2
theorem yU5 {a:dA} (h:yly a=true) {i:Nat} (hi:i < a.2.2.1.length):ym (nth a.2.2.1 i noMem)=true∧((nth a.2.2.1 i noMem).1.length:Int)=6+a.2.1.2∧((nth a.2.2.1 i noMem).2.2.1=true→(i:Int)=a.2.2.2.1∨a.2.2.2.2.2.2.2.2.2.2.2=true):=by
  simp only [yly,Bool.and_eq_true,Bool.not_eq_true',List.any_eq_false,List.mem_range]at h
  have:=h.1 i hi
  simp only [ygn,Bool.not_eq_true,Bool.or_eq_false_iff,Bool.not_eq_false',bne_eq_false_iff_eq,Bool.and_eq_false_iff]at this
  refine ⟨this.1,this.2.1,fun hf=> ?_⟩
  rcases this.2.2 with h1 | h1 | h1
  · rw [hf]at h1; cases h1
  · exact .inl h1
  · exact .inr h1
theorem yDN: ∀ {l:List Int} {lo n:Int},l.Pairwise (· < ·)→(∀ x∈l,lo≤x∧x < n)→lo≤n→(l.length:Int)≤n - lo
  | [],lo,n,_,_,h=>by simp; omega
  | x::l,lo,n,hp,hx,h=>by
    cases hp with
    | cons h1 h2 =>
      have h3:=hx x List.mem_cons_self
      have:=yDN (l:=l) (lo:=x+1) (n:=n) h2 (fun y hy=>⟨h1 y hy,(hx y (List.mem_cons_of_mem _ hy)).2⟩) (by omega)
      rw [List.length_cons]; omega
theorem ykf {n:Nat} {l:List Int}:yoP n l=true↔(∀ x∈l,0≤x∧x < n)∧l.Pairwise (· < ·):=by
  simp only [yoP,Bool.and_eq_true,List.all_eq_true,zjP,decide_eq_true_eq]
theorem yrA {m:dM} (h1:m.1.all yV=true) (h2:m.2.1.all (ysd m.1.length)=true) (h3:yoP m.1.length m.2.2.2=true) (h4:1≤m.1.length) (h5:m.1.length≤20) (h6:m.2.1.length≤60):ym m=true:=by
  simp only [ym,h1,h2,h3,Bool.true_and,Bool.and_eq_true,zjQ]
  omega
theorem yYk {m:dM} (h:ym m=true):yEP m≤1041:=by
  obtain ⟨h1,h2,h3,h4,h5,h6⟩:=yW h
  have a1:=yR5 (b:=12) h5 (fun x hx=>(yoc.1 (List.all_eq_true.1 h1 x hx)).1)
  have a2:=zi5 (f:=fun x:dW=>1+x.2.length) (c:=13) (l:=m.2.1) (fun w hw=>by have:=(yoc.1 (Bool.and_eq_true_iff.1 (List.all_eq_true.1 h2 w hw)).2).1; omega)
  have a3:=Nat.mul_le_mul_right 13 h6
  obtain ⟨b1,b2⟩:=ykf.1 h3
  have a4:=yDN (lo:=0) (n:=m.1.length) b2 b1 (by omega)
  unfold yEP
  omega
theorem yQc {m:dM} (b:Nat→Bool) (h:ym m=true):(yfC b m.2.1 m.1).all yV=true:=by
  obtain ⟨h1,h2,_⟩:=yW h
  rw [List.all_eq_true]
  exact yKT (P:=fun x=>yV x=true) (fun x hx=>List.all_eq_true.1 h1 x hx) (fun w hw=>(Bool.and_eq_true_iff.1 (List.all_eq_true.1 h2 w hw)).2)
theorem yFa {m:dM} (n:Int) (s:List Int) (h:ym m=true):ym (yF m n s).1=true:=by
  unfold yF
  cases hc:ybj m n s
  · exact h
  · simp only [ybj,Bool.and_eq_true,Bool.not_eq_true',zjT]at hc
    obtain ⟨h1,h2,h3,h4,h5,h6⟩:=yW h
    refine yrA h1 ?_ ?_ h4 h5 (by show (m.2.1++ [(n,s)]).length≤60; rw [List.length_append]; simp only [List.length_cons,List.length_nil]; omega)
    · show (m.2.1++ [(n,s)]).all (ysd m.1.length)=true
      rw [List.all_append,h2]
      simp [ysd,hc.2.2.1,hc.2.2.2.1]
    · show yoP m.1.length (yN3 m.2.2.2 n)=true
      obtain ⟨b1,b2⟩:=ykf.1 h3
      exact ykf.2 ⟨fun x hx=>b1 x (List.mem_filter.1 hx).1,b2.filter _⟩
theorem yCB (m:dM) (n:Int) (s:List Int):(yF m n s).1.1=m.1∧(yF m n s).1.2.2.1=m.2.2.1:=by
  unfold yF
  cases ybj m n s<;>exact ⟨rfl,rfl⟩
theorem yLv {m:dM} (h:ym m=true):ym (yr m)=true:=by
  unfold yr
  cases hc:(ym m&& !m.2.2.1)
  · exact h
  · obtain ⟨h1,h2,h3,h4,h5,h6⟩:=yW h
    refine yrA (yQc _ h) rfl ?_ ?_ ?_ (Nat.zero_le _)
    · show yoP (yfC _ m.2.1 m.1).length m.2.2.2=true; rw [ylZ]; exact h3
    · show 1≤(yfC _ m.2.1 m.1).length; rw [ylZ]; exact h4
    · show (yfC _ m.2.1 m.1).length≤20; rw [ylZ]; exact h5
theorem yB7 (m:dM):(yr m).1.length=m.1.length∧(yr m).2.2.1=m.2.2.1:=by
  unfold yr
  cases (ym m&& !m.2.2.1)
  · exact ⟨rfl,rfl⟩
  · exact ⟨ylZ,rfl⟩
theorem yYy {m:dM} (h:ym m=true):ym (yjQ m)=true:=by
  obtain ⟨h1,h2,h3,h4,h5,h6⟩:=yW h
  exact yrA h1 rfl h3 h4 h5 (Nat.zero_le _)
def yan (l:List dM):Prop:= ∀ m∈l,ym m=true
theorem yE3 {l:List dM} {i:Nat} {x:dM} (h:yan l) (hx:ym x=true):yan (l.set i x):=fun m hm=>by
  rcases List.mem_or_eq_of_mem_set hm with h1 | rfl
  · exact h m h1
  · exact hx
theorem yVa {l:List dM} {m:Int} (h:yan l) (hm:inb m l.length=true):ym (nth l m noMem)=true:=yu3 (P:=fun x=>ym x=true) hm h
theorem yIt {l:List dM} (h:yan l):yWQ l≤l.length * 1041:=zi5 (f:=yEP) (fun x hx=>yYk (h x hx))
theorem yEB {a:dA} (h:yo a=true):yan a.2.2.1:=fun m hm=>by
  obtain ⟨i,hi,rfl⟩:=List.getElem_of_mem hm
  have:=(yU5 (yOQ h) hi).1
  rwa [zjW,zcq hi]at this
def yaS (p:Nat→Bool) (n:Nat):Nat:=((List.range n).filter (fun i=> !p i)).length
theorem yEL (p:Nat→Bool) (n:Nat):yaS p n≤n:=by
  have:=List.length_filter_le (fun i=> !p i) (List.range n)
  rwa [List.length_range]at this
theorem ydP (p:Nat→Bool) (n:Nat):yaS p (n+1)=bif p n then yaS p n else yaS p n+1:=by
  unfold yaS
  rw [List.range_succ,List.filter_append,List.length_append,List.filter_cons]
  cases p n<;>simp
def yQe (a:dA) (s:Int):Int:=bif yo a&&(leb 0 s&&leb s (a.2.1.2 - 1)) then (yaS (fun (i:Nat)=>yl a i s) a.2.1.1.toNat:Nat) else a.2.1.1
def ySx (a:dA):Int:=bif yo a then (yaS (fun (s:Nat)=>(yal a s).2) a.2.1.2.toNat:Nat) else 0
theorem yYC {α:Type} (A:List α) (y:α) (t:List α) (d:α):(A++y::t).getD A.length d=y:=by
  rw [List.getD_eq_getElem?_getD,List.getElem?_append_right (Nat.le_refl _),Nat.sub_self]; rfl
theorem yYH {α:Type} (A:List α) (y z:α) (t:List α):(A++y::t).set A.length z=A++z::t:=by
  rw [List.set_append_right _ _ (Nat.le_refl _),Nat.sub_self]; rfl
def yEg (l:List Int) (n:Int):List Int:=l.filter (fun x=>ltb x n)++n::l.filter (fun x=>ltb n x)
def spoil (m:dM) (n:Int):dM:=bif ym m&&(inb n m.1.length&& !(m.2.2.2.any (· ==n))) then (m.1,m.2.1,m.2.2.1,yEg m.2.2.2 n) else m
theorem yXU {l:List Int} {n:Int} (h:l.Pairwise (· < ·)) (hn:n∉l):l=l.filter (fun x=>ltb x n)++l.filter (fun x=>ltb n x):=by
  induction l with
  | nil=>rfl
  | cons x t ih =>
    obtain ⟨hx,ht⟩:=List.pairwise_cons.1 h
    simp only [List.mem_cons,not_or]at hn
    rw [List.filter_cons,List.filter_cons]
    by_cases hlt:x < n
    · rw [zjI hlt,zkm (show x≤n by omega)]
      simp only [if_true,Bool.false_eq_true,if_false,List.cons_append]
      rw [← ih ht hn.2]
    · have h3:t.filter (fun x=>ltb x n)= []:=List.filter_eq_nil_iff.2 (fun y hy=>by rw [zkm (by have:=hx y hy; omega)]; simp)
      have h4:t.filter (fun x=>ltb n x)=t:=List.filter_eq_self.2 (fun y hy=>zjI (by have:=hx y hy; omega))
      rw [zkm (show n≤x by omega),zjI (show n < x by omega),h3,h4]; rfl
theorem yN4 {m:dM} (n:Int) (h:ym m=true):ym (spoil m n)=true:=by
  unfold spoil
  cases hc:(ym m&&(inb n m.1.length&& !(m.2.2.2.any (· ==n))))
  · exact h
  · simp only [Bool.and_eq_true]at hc
    have hi:=zjP.1 hc.2.1
    obtain ⟨h1,h2,h3,h4,h5,h6⟩:=yW h
    rw [ykf]at h3
    refine yrA h1 h2 ?_ h4 h5 h6
    show yoP m.1.length (yEg m.2.2.2 n)=true
    rw [ykf]
    unfold yEg
    refine ⟨fun x hx=> ?_,?_⟩
    · rcases List.mem_append.1 hx with g | g
      · exact h3.1 x (List.mem_filter.1 g).1
      · rcases List.mem_cons.1 g with rfl | g
        · exact hi
        · exact h3.1 x (List.mem_filter.1 g).1
    · rw [List.pairwise_append,List.pairwise_cons]
      refine ⟨h3.2.filter _,⟨fun y hy=>zjT.1 (List.mem_filter.1 hy).2,h3.2.filter _⟩,fun x hx y hy=> ?_⟩
      have g1:=zjT.1 (List.mem_filter.1 hx).2
      rcases List.mem_cons.1 hy with rfl | hy
      · exact g1
      · exact Int.lt_trans g1 (zjT.1 (List.mem_filter.1 hy).2)
theorem yCy (m:dM) (n:Int):(spoil m n).1=m.1∧(spoil m n).2.2.1=m.2.2.1:=by
  unfold spoil
  cases (ym m&&(inb n m.1.length&& !(m.2.2.2.any (· ==n))))<;>exact ⟨rfl,rfl⟩
def yO (g:dG) (s:Int):Bool:=ye g&&(leb 0 s&&leb s (g.2 - 1))
def yj (g:dG) (s:Int):Int:=bif yO g s then g.1 - 1 - s.tmod g.1 else -1
def yb1 (g:dG) (s i:Int):Int:=bif yO g s&&(leb 0 i&&leb i (g.1 - 2)) then (yj g s+1+i).tmod g.1 else -1
theorem yao {g:dG} {s:Int}:yO g s=true↔ye g=true∧0≤s∧s≤g.2 - 1:=by simp [yO,zjQ]
theorem ykh {g:dG} {s:Int} (h:yO g s=true):0≤yj g s∧yj g s≤g.1 - 1:=by
  have h1:=yao.1 h
  have h2:=yg.1 h1.1
  unfold yj
  rw [h,cond_true,Int.tmod_eq_emod_of_nonneg h1.2.1]
  have:=Int.emod_nonneg s (show g.1≠0 by omega)
  have:=Int.emod_lt_of_pos s (show 0 < g.1 by omega)
  omega
theorem yYx {g:dG} {s i:Int} (h:yO g s=true) (h1:0≤i) (h2:i≤g.1 - 2):0≤yb1 g s i∧yb1 g s i≤g.1 - 1:=by
  have h3:=yg.1 (yao.1 h).1
  have h4:=ykh h
  unfold yb1
  rw [h,zk0 h1,zk0 h2,Bool.and_self,Bool.and_self,cond_true,Int.tmod_eq_emod_of_nonneg (by omega)]
  have:=Int.emod_nonneg (yj g s+1+i) (show g.1≠0 by omega)
  have:=Int.emod_lt_of_pos (yj g s+1+i) (show 0 < g.1 by omega)
  omega
def yp (p:Nat→Bool):Nat→Int
  | 0=> -1
  | n+1=>bif p n then yp p n else n
def ydQ (p:Nat→Bool) (n:Nat):Bool:=(List.range n).any (fun i=> !p i&&leb 0 (yp p i))
theorem yH8 (p:Nat→Bool): ∀ n,yp p n= -1∨(0≤yp p n∧yp p n < n∧p (yp p n).toNat=false)
  | 0=> .inl rfl
  | n+1=>by
    unfold yp
    cases h:p n
    · exact .inr ⟨by show (0:Int)≤n; omega,by show (n:Int) < _; omega,h⟩
    · rcases yH8 p n with h1 | h1
      · exact .inl h1
      · exact .inr ⟨h1.1,by show yp p n < _; omega,h1.2.2⟩
def yE (a:dA) (s:Int) (n:Nat):List Int:=(List.range n).map (fun (i:Nat)=>ygx a i s)
theorem yeg (a:dA) (s:Int) (n:Nat):(yE a s n).length=n:=by unfold yE; rw [List.length_map,List.length_range]
theorem yGp (a:dA) (s:Int) (n:Nat):yE a s n++ [ygx a n s]=yE a s (n+1):=by unfold yE; rw [List.range_succ,List.map_append]; rfl
theorem yYt (a:dA) (s:Int) {i n:Nat} (h:i < n):nth (yE a s n) i 0=ygx a i s:=by
  unfold yE
  rw [zjW,zcq (by rw [List.length_map,List.length_range]; exact h)]; simp
def yy (a:dA) (s:Int):List Int×Bool :=
  bif ydQ (fun (i:Nat)=>yl a i s) a.2.1.1.toNat then ([],false)
  else bif leb 0 (yp (fun (i:Nat)=>yl a i s) a.2.1.1.toNat) then ((yE a s a.2.1.1.toNat).set (yp (fun (i:Nat)=>yl a i s) a.2.1.1.toNat).toNat (xorOf (yE a s a.2.1.1.toNat)),true)
  else (yE a s a.2.1.1.toNat,true)
theorem yIH {a:dA} {s:Int} (h:(yy a s).2=true):(yy a s).1.length=a.2.1.1.toNat:=by
  unfold yy at h ⊢
  cases h1:ydQ (fun (i:Nat)=>yl a i s) a.2.1.1.toNat
  · cases leb 0 (yp (fun (i:Nat)=>yl a i s) a.2.1.1.toNat)
    · exact yeg _ _ _
    · simp only [cond_false,cond_true,List.length_set]; exact yeg _ _ _
  · rw [h1]at h; cases h
theorem yU8 (a:dA) (s:Int) (n:Nat) (h:leb 0 (yp (fun (i:Nat)=>yl a i s) n)=true):inb (yp (fun (i:Nat)=>yl a i s) n) (yE a s n).length=true∧ynW (yE a s n) (yp (fun (i:Nat)=>yl a i s) n)=xorOf (yE a s n):=by
  rcases yH8 (fun (i:Nat)=>yl a i s) n with h1 | h1
  · rw [h1]at h; cases h
  · have h2:inb (yp (fun (i:Nat)=>yl a i s) n) (yE a s n).length=true:=by rw [yeg,zjP]; exact ⟨h1.1,h1.2.1⟩
    refine ⟨h2,yZh h2 ?_⟩
    have h3:=yYt a s (show (yp (fun (i:Nat)=>yl a i s) n).toNat < n by omega)
    rw [show (((yp (fun (i:Nat)=>yl a i s) n).toNat:Nat):Int)=yp (fun (i:Nat)=>yl a i s) n by omega]at h3
    rw [h3]
    unfold ygx
    have h4:yl a (yp (fun (i:Nat)=>yl a i s) n) s=false:=by
      have:=h1.2.2
      have this:yl a ((yp (fun (i:Nat)=>yl a i s) n).toNat:Nat) s=false:=h1.2.2
      rwa [show (((yp (fun (i:Nat)=>yl a i s) n).toNat:Nat):Int)=yp (fun (i:Nat)=>yl a i s) n by omega]at this
    rw [h4]; rfl
def yqZ (a:dA) (s:Int):List Int×Bool:=bif (yy a s).2 then ((List.range (a.2.1.1 - 1).toNat).map (fun (i:Nat)=>nth (yy a s).1 (yb1 a.2.1 s i) 0),true) else ([],false)
def yY (a:dA) (s:Int):List Int×Bool:=bif yo a&&(!a.2.2.2.2.2.2.2.2.2.2.2&&yO a.2.1 s) then yqZ a s else ([],false)
theorem yY4 (a:dA) (s:Int):(yqZ a s).1.length≤(a.2.1.1 - 1).toNat:=by
  unfold yqZ
  cases (yy a s).2
  · exact Nat.zero_le _
  · simp
def yIL (a:dA):List Int:=bif yo a&&(List.range a.2.1.2.toNat).all (fun (s:Nat)=>(yY a s).2) then (List.range a.2.1.2.toNat).flatMap (fun (s:Nat)=>(yY a s).1) else []
theorem yQf (p:Nat→Bool): ∀ n,leb 0 (yp p n)=decide (1≤yaS p n)∧ydQ p n=decide (2≤yaS p n)
  | 0=>⟨rfl,rfl⟩
  | n+1=>by
    obtain ⟨h1,h2⟩:=yQf p n
    have e:ydQ p (n+1)=(ydQ p n||(!p n&&leb 0 (yp p n))):=by
      unfold ydQ
      rw [List.range_succ,List.any_append]; simp
    have e2:yp p (n+1)=bif p n then yp p n else n:=rfl
    rw [e,e2,ydP,h2,h1]
    cases hp:p n
    · simp only [cond_false,Bool.not_false,Bool.true_and]
      refine ⟨by rw [zk0 (show (0:Int)≤n by omega)]; simp,?_⟩
      rw [Bool.eq_iff_iff,Bool.or_eq_true,decide_eq_true_eq,decide_eq_true_eq,decide_eq_true_eq]; omega
    · simp [h1]
def ynU (m:dM) (n:Int):List Int:=ygw n m.2.1 (nth m.1 n [])
def yrr (m:dM) (n:Int):Bool:=m.2.2.2.any (· ==n)
def yLc (m:dM) (n:Int) (v:List Int):Prop:=v=nth m.1 n []∨ ∃ w∈m.2.1,w.1=n∧w.2=v
theorem yQv (n:Int): ∀ (c:List dW) (s:List Int),ygw n c s=s∨ ∃ w∈c,w.1=n∧w.2=ygw n c s
  | [],s=> .inl rfl
  | w::c,s=>by
    show ygw n c (bif w.1==n then w.2 else s)=s∨ ∃ x∈w::c,x.1=n∧x.2=ygw n c (bif w.1==n then w.2 else s)
    rcases yQv n c (bif w.1==n then w.2 else s) with h | ⟨x,hx,h1,h2⟩
    · rw [h]
      cases hw:(w.1==n)
      · exact .inl rfl
      · exact .inr ⟨w,List.mem_cons_self,beq_iff_eq.1 hw,rfl⟩
    · exact .inr ⟨x,List.mem_cons_of_mem _ hx,h1,h2⟩
theorem yZB (m:dM) (n:Int):yLc m n (ynU m n):=yQv n m.2.1 _
theorem yKV (n:Int) (c:List dW) (w:dW) (s:List Int):ygw n (c++ [w]) s=bif w.1==n then w.2 else ygw n c s:=by
  unfold ygw; rw [List.foldl_append]; rfl
theorem yZU {m:dM} {n:Int} (h:ym m=true) (h1:m.2.2.1=false) (h2:inb n m.1.length=true):ygZ m n=bif yrr m n then ([],false) else (ynU m n,true):=by
  unfold ygZ yx7
  rw [h,h1,h2]
  show (bif !(yrr m n) then (ynU m n,true) else ([],false))=_
  cases yrr m n<;>rfl
theorem yKP {m:dM} {n:Int} {s:List Int} (h:ym m=true) (h1:m.2.2.1=false) (h2:inb n m.1.length=true) (h3:yV s=true) (h4:m.2.1.length < 60):ybj m n s=true:=by
  unfold ybj
  rw [h,h1,h2,h3,zjI (by omega)]; rfl
theorem yE9 {m:dM} {n:Int} {s:List Int} (h:ybj m n s=true):(yF m n s).1=(m.1,m.2.1++ [(n,s)],m.2.2.1,yN3 m.2.2.2 n):=by unfold yF; rw [h]; rfl
theorem yBZ {m:dM} {n:Int} {s:List Int} (h:ybj m n s=true) (k:Int):ynU (yF m n s).1 k=bif n==k then s else ynU m k:=by
  rw [yE9 h]; exact yKV _ _ _ _
theorem yZz (l:List Int) (n k:Int):(yN3 l n).any (· ==k)=(l.any (· ==k)&&k !=n):=by
  rw [Bool.eq_iff_iff]
  simp only [yN3,List.any_eq_true,List.mem_filter,Bool.and_eq_true,beq_iff_eq,bne_iff_ne]
  constructor
  · rintro ⟨x,⟨h1,h2⟩,rfl⟩; exact ⟨⟨x,h1,rfl⟩,h2⟩
  · rintro ⟨⟨x,h1,rfl⟩,h2⟩; exact ⟨x,⟨h1,h2⟩,rfl⟩
theorem yHt {m:dM} {n:Int} {s:List Int} (h:ybj m n s=true) (k:Int):yrr (yF m n s).1 k=(yrr m k&&k !=n):=by
  rw [yE9 h]; exact yZz _ _ _
theorem y02 {m:dM} {n:Int} {s:List Int} {k:Int} {v:List Int} (h:yLc (yF m n s).1 k v):yLc m k v∨(k=n∧v=s):=by
  cases hc:ybj m n s
  · unfold yF at h; rw [hc]at h; exact .inl h
  · rw [yE9 hc]at h
    rcases h with h | ⟨w,hw,h1,h2⟩
    · exact .inl (.inl h)
    · rcases List.mem_append.1 hw with hw | hw
      · exact .inl (.inr ⟨w,hw,h1,h2⟩)
      · rw [List.mem_singleton.1 hw]at h1 h2; exact .inr ⟨h1.symm,h2.symm⟩
theorem yzN {α:Type} {l:List α} {i k:Int} {x d:α} (hi:inb i l.length=true) (hk:0≤k):nth (l.set i.toNat x) k d=bif i==k then x else nth l k d:=by
  have h1:=zjP.1 hi
  unfold nth
  rw [List.getD_eq_getElem?_getD,List.getD_eq_getElem?_getD,List.getElem?_set]
  by_cases h:i=k
  · subst h; simp [show i.toNat < l.length by omega]
  · rw [if_neg (by omega),show (i==k)=false from beq_eq_false_iff_ne.2 h]; rfl
theorem yYA (b:Nat→Bool) {c:List dW} {l:List (List Int)} {k:Int} (hk:0≤k) (hc: ∀ w∈c,inb w.1 l.length=true) :
    ∀ n,n≤c.length→((List.range n).foldl (yb2 b c) l).length=l.length∧(nth ((List.range n).foldl (yb2 b c) l) k []=nth l k []∨ ∃ w∈c,w.1=k∧w.2=nth ((List.range n).foldl (yb2 b c) l) k []) ∧
      ((∀ i,b i=true)→nth ((List.range n).foldl (yb2 b c) l) k []=ygw k (c.take n) (nth l k [])):=by
  intro n
  induction n with
  | zero=>intro _; exact ⟨rfl,.inl rfl,fun _=>rfl⟩
  | succ n ih =>
    intro hn
    obtain ⟨h1,h2,h3⟩:=ih (by omega)
    rw [List.range_succ,List.foldl_append,List.foldl_cons,List.foldl_nil]
    have hnc:n < c.length:=by omega
    generalize (List.range n).foldl (yb2 b c) l=L at h1 h2 h3 ⊢
    refine ⟨yEN.trans h1,?_⟩
    unfold yb2
    rw [zjW,zcq hnc]
    have hw:inb c[n].1 L.length=true:=by rw [h1]; exact hc _ (List.getElem_mem hnc)
    cases hb:b n
    · refine ⟨h2,fun h=> ?_⟩
      rw [h n]at hb; cases hb
    · simp only [cond_true,yzN hw hk]
      constructor
      · cases he:(c[n].1==k)
        · exact h2
        · exact .inr ⟨c[n],List.getElem_mem hnc,beq_iff_eq.1 he,rfl⟩
      · intro h
        rw [h3 h,List.take_add_one,List.getElem?_eq_getElem hnc]
        exact (yKV k _ _ _).symm
theorem yXD {m:dM} (h:ym m=true): ∀ w∈m.2.1,inb w.1 m.1.length=true:=fun w hw=>by
  have:=List.all_eq_true.1 (yW h).2.1 w hw
  simp only [ysd,Bool.and_eq_true]at this; exact this.1
theorem yZb {m:dM} {k:Int} (h:ym m=true) (h1:m.2.2.1=false) (hk:0≤k):nth (yr m).1 k []=ynU m k:=by
  have:=(yYA (fun _=>true) hk (yXD h) m.2.1.length (Nat.le_refl _)).2.2 (fun _=>rfl)
  rw [List.take_length]at this
  unfold yr
  rw [h,h1]; exact this
theorem yEH {m:dM} (h:ym m=true) (h1:m.2.2.1=false):(yr m).2.1= []∧(yr m).2.2=m.2.2:=by
  unfold yr
  rw [h,h1]
  refine ⟨rfl,?_⟩
  show (false,m.2.2.2)=m.2.2
  rw [← h1]
theorem yYS {m:dM} {k:Int} {v:List Int} (h:ym m=true) (h1:m.2.2.1=false) (hk:0≤k) (hv:yLc (yr m) k v):v=ynU m k:=by
  rcases hv with hv | ⟨w,hw,_⟩
  · rw [hv,yZb h h1 hk]
  · rw [(yEH h h1).1]at hw; cases hw
theorem yZa {m:dM} {k:Int} (h:ym m=true) (h1:m.2.2.1=false) (hk:0≤k):ynU (yr m) k=ynU m k:=yYS h h1 hk (yZB _ _)
theorem yY9 (m:dM) (k:Int):yrr (yr m) k=yrr m k:=by
  unfold yr
  cases (ym m&& !m.2.2.1)<;>rfl
theorem yZI {m:dM} (h:ym m=true) (ks:Int) {k:Int} (hk:0≤k):yLc m k (nth (yfB m ks).1 k []):=by
  have:=(yYA (fun i=>decide (i < 20)&&yWN (yQb ks) i) hk (yXD h) m.2.1.length (Nat.le_refl _)).2.1
  unfold yfB
  rw [h]
  rcases this with h1 | ⟨w,hw,h1,h2⟩
  · exact .inl h1
  · exact .inr ⟨w,hw,h1,h2⟩
theorem yU0 {m:dM} (h:ym m=true) (ks:Int):(yfB m ks).2.1= []∧(yfB m ks).2.2=m.2.2∧(yfB m ks).1.length=m.1.length:=by
  unfold yfB
  rw [h]
  exact ⟨rfl,rfl,ylZ⟩
theorem y1z {m:dM} (h:ym m=true) (ks:Int):ym (yfB m ks)=true:=by
  obtain ⟨h1,h2,h3,h4,h5,h6⟩:=yW h
  obtain ⟨e1,e2,e3⟩:=yU0 h ks
  refine yrA ?_ (by rw [e1]; rfl) (by rw [e2,e3]; exact h3) (by omega) (by omega) (by rw [e1]; exact Nat.zero_le _)
  have:=yQc (fun i=>decide (i < 20)&&yWN (yQb ks) i) h
  unfold yfB
  rw [h]; exact this
theorem y1f {m:dM} (h:ym m=true) {ks k:Int} {v:List Int} (hk:0≤k) (hv:yLc (yfB m ks) k v):yLc m k v:=by
  rcases hv with rfl | ⟨w,hw,_⟩
  · exact yZI h ks hk
  · rw [(yU0 h ks).1]at hw; cases hw
theorem y0A {x:Int} (h:isW x=true):(bv x).toNat < 2 ^ 16:=by
  have:=yu1.1 h
  unfold bv
  rw [BitVec.toNat_ofInt]
  omega
theorem y0C {v:BitVec 64} (h:v.toNat < 2 ^ 16):isW v.toInt=true:=by
  rw [BitVec.toInt_eq_toNat_of_lt (by omega)]
  exact yu1.2 (by omega)
theorem y0x: ∀ (l:List Int),l.all isW=true→(yde l).toNat < 2 ^ 16:=by
  intro l h
  have: ∀ (l:List Int) (v:BitVec 64),v.toNat < 2 ^ 16→l.all isW=true→(l.foldl (fun v x=>v ^^^ bv x) v).toNat < 2 ^ 16:=by
    intro l
    induction l with
    | nil=>intro v hv _; exact hv
    | cons x t ih =>
      intro v hv h
      simp only [List.all_cons,Bool.and_eq_true]at h
      refine ih _ ?_ h.2
      rw [BitVec.toNat_xor]
      exact Nat.xor_lt_two_pow hv (y0A h.1)
  exact this l 0#64 (by decide) h
theorem yVi {l:List Int} (h:l.all isW=true):isW (xorOf l)=true:=by
  rw [ykW]; exact y0C (y0x l h)
theorem yDM {l:List Int}:l.all isW=true↔ ∀ x∈l,isW x=true:=by simp
theorem yIQ {l:List Int} {i:Int} (h:l.all isW=true):isW (nth l i 0)=true:=by
  unfold nth
  rw [List.getD_eq_getElem?_getD]
  cases e:l[i.toNat]? with
  | none=>rfl
  | some x=>exact yDM.1 h x (List.mem_of_getElem? e)
theorem yUI {l:List Int} {i:Nat} {x:Int} (h:l.all isW=true) (hx:isW x=true):(l.set i x).all isW=true:=by
  rw [yDM]at h ⊢
  intro y hy
  rcases List.mem_or_eq_of_mem_set hy with h1 | rfl
  · exact h y h1
  · exact hx
theorem yYY {m:dM} {n:Int} (h:(ygZ m n).2=true):yV (ygZ m n).1=true:=by
  unfold ygZ at h ⊢
  cases hc:yx7 m n
  · rw [hc]at h; cases h
  · simp only [yx7,Bool.and_eq_true]at hc
    obtain ⟨h1,h2,h3,_,_,_⟩:=yW hc.1
    refine yEY (P:=fun s=>yV s=true) ?_ fun w hw=> ?_
    · exact yu3 (P:=fun s=>yV s=true) hc.2.2.1 (fun x hx=>List.all_eq_true.1 h1 x hx)
    · have:=List.all_eq_true.1 h2 w hw
      simp only [ysd,Bool.and_eq_true]at this
      exact this.2
theorem yZ5 (a:dA) (m s:Int):isW (ygx a m s)=true:=by
  unfold ygx
  cases h:yl a m s
  · rfl
  · simp only [yl,Bool.and_eq_true]at h
    have:=yYY (m:=nth a.2.2.1 m noMem) (n:=dataAt s) h.2.1
    simp only [yV,Bool.and_eq_true]at this
    exact yIQ this.2
theorem yAp (a:dA) (s:Int) (n:Nat):(yE a s n).all isW=true:=by
  rw [yDM]
  unfold yE
  intro x hx
  obtain ⟨i,_,rfl⟩:=List.mem_map.1 hx
  exact yZ5 a i s
theorem yZw (a:dA) (s:Int):(yy a s).1.all isW=true:=by
  unfold yy
  cases ydQ (fun (i:Nat)=>yl a i s) a.2.1.1.toNat
  · cases leb 0 (yp (fun (i:Nat)=>yl a i s) a.2.1.1.toNat)
    · exact yAp _ _ _
    · exact yUI (yAp _ _ _) (yVi (yAp _ _ _))
  · rfl
theorem yUS (a:dA) (s:Int):(yqZ a s).1.all isW=true:=by
  unfold yqZ
  cases (yy a s).2
  · rfl
  · rw [yDM]
    intro x hx
    obtain ⟨i,_,rfl⟩:=List.mem_map.1 hx
    exact yIQ (yZw a s)
end
section
def yFx:Code:=(Tryz.f139.body).getD .skip
def yF8:Env:=zki TT [] []
theorem yMc:FrOk Tryz.prog ⟨yF8,6,fun _=>none⟩ yFx:=zkp yc yd trivial
def yOt:Nat→Option Seg:=fun _=>none
abbrev ylo:List Par:= [.rd tG]
abbrev yqT:List OT:= [⟨false,tI,.fz⟩]
def yua (a0:dG):Option (ResD yqT×MutD ylo) :=
  some (((IntKind.i64.wrap (6+a0.2)),()),())
theorem yVS (x:InD ylo):zjH ⟨yF8,6,yOt⟩ Tryz.f139.results.toList yFx ylo yqT x=yua x.1:=by kernel_rfl
theorem yRm:ConOk Tryz.prog 139 ⟨ylo,yqT,fun x=>yua x.1⟩:=zkh (yMc) Tryz.func139 (by kernel_rfl) (by kernel_rfl) Tryz.ntmps139.symm (by decide) (fun x r h=>(yVS x).trans h)
def ybD (a0:dG):Int :=
  (IntKind.i64.wrap (6+a0.2))
def ymT:Con:=⟨ylo,yqT,fun x=>(fun n=>some ((n,()),())) (ybD x.1)⟩
theorem yTF (a0:dG):yua a0=(fun n=>some ((n,()),())) (ybD a0):=zkS (p:=fun (n:Int)=>((n,()),())) rfl
theorem yu7:ConOk Tryz.prog 139 ymT:=(yRm).mono (fun x r _ h=>(yTF x.1).trans h)
end
section
def yFw:Code:=(Tryz.f181.body).getD .skip
def yF7:Env:=zki TT [(135,yq)] []
theorem yL0:FrOk Tryz.prog ⟨yF7,5,fun _=>none⟩ yFw:=zkp yc yd ⟨yu,trivial⟩
def yOs:Nat→Option Seg:=fun _=>none
abbrev yll:List Par:= [.rd tI]
abbrev yqP:List OT:= [⟨false,tB,.fz⟩]
def yt9 (a0:Int):Option (ResD yqP×MutD yll) :=
  let r1:=ya a0 0 65535
  some ((r1,()),())
theorem yVM (x:InD yll):zjH ⟨yF7,5,yOs⟩ Tryz.f181.results.toList yFw yll yqP x=yt9 x.1:=by kernel_rfl
theorem yRg:ConOk Tryz.prog 181 ⟨yll,yqP,fun x=>yt9 x.1⟩:=zkh (yL0) Tryz.func181 (by kernel_rfl) (by kernel_rfl) Tryz.ntmps181.symm (by decide) (fun x r h=>(yVM x).trans h)
def yad (a0:Int):Bool :=
  let r1:=ya a0 0 65535
  r1
def yBS:Con:=⟨yll,yqP,fun x=>(fun n=>some ((n,()),())) (yad x.1)⟩
theorem yTB (a0:Int):yt9 a0=(fun n=>some ((n,()),())) (yad a0):=zkS (p:=fun (n:Bool)=>((n,()),())) rfl
theorem yUt:ConOk Tryz.prog 181 yBS:=(yRg).mono (fun x r _ h=>(yTB x.1).trans h)
end
section
def yi0:Code:=(Tryz.f225.body).getD .skip
def yot:Env:=zki TT [(181,yBS)] []
theorem yJH:FrOk Tryz.prog ⟨yot,16,fun _=>none⟩ yi0:=zkp yc yd ⟨yUt,trivial⟩
def yyn:Nat→Option Seg:=fun _=>none
def ycN:Shape:=⟨[(0,false,[.br tI]),(3,false,[.int .i64])],[],[]⟩
def yit:Shape:=⟨[(0,false,[.br tI]),(3,false,[.ci .i64 0])],[],[]⟩
def yir:Shape:=⟨[],[],[]⟩
def yiz:Shape:=⟨[(2,false,[.bool])],[],[]⟩
def yoj (v0:List Int) (v1:Int):Option ((ycN).X ⊕ ((yir).X ⊕ (yiz).X)) :=
  bif (ltb v1 (v0.length:Int)) then
    bif (inb v1 v0.length) then
      let r2:=yad (nth v0 v1 0)
      bif (!r2) then
        some (.inr (.inr (((false,()),()),(),())))
      else
        some (.inl (((v0,()),((IntKind.i64.wrap (v1+1)),()),()),(),()))
    else none
  else
    some (.inr (.inl ((),(),())))
def ybt (x:(ycN).X):=yoj x.1.1.1 x.1.2.1.1
def yvZ (x:(yit).X):(ycN).X:=(((x.1.1.1,()),(0,()),()),(),())
def yw4:Code:=(zdI yi0 64 52).getD .skip
theorem yJf:zdI yi0 64 13=some (.block 0 (.loop yw4)):=by kernel_rfl
theorem yKI (x:(ycN).X):zg7 ⟨yot,16,yyn⟩ 0 yw4 52 ycN yir yiz x=ybt x:=by kernel_rfl
def ywc (x:(yit).X):Nat:=(fun (u0:List Int)=>18446744073709551616) x.1.1.1
def ypn (x:(yit).X):Option ((yir).X ⊕ (yiz).X):=zr ybt (ywc x) (yvZ x)
def ywt:Seg:=⟨yit,yir,yiz,ypn⟩
def yyo:Nat→Option Seg:=fun q=>bif Nat.beq q 13 then some ywt else yyn q
theorem yJI:FrOk Tryz.prog ⟨yot,16,yyo⟩ yi0:=(yJH).loop (sg:=ywt) ycN yvZ (by decide) yJf ybt ywc (by decide) (fun _=>rfl) (fun x r _ h=>h) yKI
abbrev yfv:List Par:= [.rd tL]
abbrev yoL:List OT:= [⟨false,tB,.fz⟩]
def ykO (a0:List Int):Option (ResD yoL×MutD yfv) :=
  zjw (ypn (((a0,()),((),()),()),(),())) (fun y2 =>
    some ((true,()),())) (fun y2 =>
    some ((y2.1.1.1,()),()))
theorem ySU (x:InD yfv):zjH ⟨yot,16,yyo⟩ Tryz.f225.results.toList yi0 yfv yoL x=ykO x.1:=by kernel_rfl
theorem yNz:ConOk Tryz.prog 225 ⟨yfv,yoL,fun x=>ykO x.1⟩:=zkh (yJI) Tryz.func225 (by kernel_rfl) (by kernel_rfl) Tryz.ntmps225.symm (by decide) (fun x r h=>(ySU x).trans h)
def yL (a0:List Int):Bool:=a0.all yad
theorem yQL (a0:List Int) (hk:zi9 yfv (a0,())):ykO a0=(fun n=>some ((n,()),())) (yL a0):=by
  have hb:a0.length * 8≤2 ^ 47:=hk.1.1
  have hl:ypn (((a0,()),((),()),()),(),())=some (bif a0.all yad then .inl ((),(),()) else .inr (((false,()),()),(),())) :=
    zjS (step:=ybt) a0 0 (fun i=>(((a0,()),((i:Int),()),()),(),())) yad _ _ (fun i hi=>by
      simp only [ybt,yoj,zkO hi,zjW,zjI (show (i:Int) < a0.length by omega),cond_true,wr (show -9223372036854775808≤(i:Int)+1 by omega) (by omega),Int.natCast_add,Int.natCast_one]
      cases yad (a0.getD i 0)<;>rfl) (by simp only [ybt,yoj,zkm (Int.le_refl _),cond_false]) _ (by show _ < 18446744073709551616; omega)
  unfold ykO yL
  rw [hl]
  cases a0.all yad<;>rfl
def ygm:Con:=⟨yfv,yoL,fun x=>(fun n=>some ((n,()),())) (yL x.1)⟩
theorem ymY:ConOk Tryz.prog 225 ygm:=(yNz).mono (fun x r hk h=>(yQL x.1 hk).trans h)
end
end
end Go.Tf
