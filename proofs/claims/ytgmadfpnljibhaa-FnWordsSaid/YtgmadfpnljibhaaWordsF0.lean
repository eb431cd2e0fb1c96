/- Functions of the program, and what they come to. -/
import Derived.Test.YtgmadfpnljibhaaWordsTt
namespace Go.Tf
noncomputable section
open Go.Proofs
set_option synthInstance.maxHeartbeats 400000
set_option synthInstance.maxSize 10000
set_option linter.unusedVariables false
set_option linter.unusedSimpArgs false
set_option maxRecDepth 100000
section
def yEF:Code:=(Try.f6.body).getD .skip
def yE4:Env:=zki TT [] []
theorem yK0:FrOk Try.prog ⟨yE4,6,fun _=>none⟩ yEF:=zkp yc yd trivial
def yLG:Nat→Option Seg:=fun _=>none
abbrev yoo:List Par:= [.rd tYs]
abbrev yr3:List OT:= [⟨false,tB,.fz⟩]
def ytI (a0:List Int):Option (ResD yr3×MutD yoo) :=
  some (((ltb 1048576 (a0.length:Int)),()),())
theorem yNh (x:InD yoo):zjH ⟨yE4,6,yLG⟩ Try.f6.results.toList yEF yoo yr3 x=ytI x.1:=by kernel_rfl
theorem yMq:ConOk Try.prog 6 ⟨yoo,yr3,fun x=>ytI x.1⟩:=zkh (yK0) Try.func6 (by kernel_rfl) (by kernel_rfl) Try.ntmps6.symm (by decide) (fun x r h=>(yNh x).trans h)
def yr8 (a0:List Int):Bool :=
  (ltb 1048576 (a0.length:Int))
def yzm:Con:=⟨yoo,yr3,fun x=>(fun n=>some ((n,()),())) (yr8 x.1)⟩
theorem yMR (a0:List Int):ytI a0=(fun n=>some ((n,()),())) (yr8 a0):=zkS (p:=fun (n:Bool)=>((n,()),())) rfl
theorem yMS:ConOk Try.prog 6 yzm:=(yMq).mono (fun x r _ h=>(yMR x.1).trans h)
def yai {α:Type} (p:α→Bool) (l:List α):Int:=bif l.any p then ((l.takeWhile (fun x=> !p x)).length:Int) else -1
theorem yJ6 {α:Type} (p:α→Bool):yai p []= -1:=rfl
theorem yr6 {α:Type} (p:α→Bool) (x:α) (l:List α):yai p (x::l)=bif p x then 0 else bif leb 0 (yai p l) then yai p l+1 else -1:=by
  unfold yai
  rw [List.any_cons,List.takeWhile_cons]
  cases p x
  · cases l.any p
    · rfl
    · simp only [Bool.false_or,Bool.not_false,if_true,cond_true,cond_false,List.length_cons]
      rw [zk0 (show (0:Int)≤((l.takeWhile (fun x=> !p x)).length:Int) by omega),cond_true]; omega
  · simp
theorem ypI {α:Type} {p:α→Bool} {d:α}: ∀ {l:List α},leb 0 (yai p l)=true→inb (yai p l) l.length=true∧p (nth l (yai p l) d)=true
  | [],h=>by rw [yJ6]at h; cases h
  | x::l,h=>by
    rw [yr6]at h ⊢
    cases hx:p x
    · rw [hx]at h
      cases hl:leb 0 (yai p l)
      · rw [hl]at h; cases h
      · obtain ⟨h1,h2⟩:=ypI (d:=d) hl
        have h3:=zjP.1 h1
        have h4:=zjQ.1 hl
        simp only [cond_false,cond_true,List.length_cons]
        refine ⟨zjP.2 (by omega),?_⟩
        unfold nth at h2 ⊢
        rw [show (yai p l+1).toNat=(yai p l).toNat+1 by omega,List.getD_cons_succ]
        exact h2
    · simp only [cond_true,List.length_cons]
      refine ⟨zjP.2 (by omega),?_⟩
      exact hx
theorem yNL {A B α:Type} {step:A→Option (A ⊕ B)} (l:List α) (d:α) (f:Nat→A) (p:α→Bool) (b:Int→B) (c:B)
    (h: ∀ i,i < l.length→step (f i)=some (bif p (l.getD i d) then .inr (b i) else .inl (f (i+1)))) (e:step (f l.length)=some (.inr c)) (fuel:Nat) (hf:l.length < fuel) :
    zr step fuel (f 0)=some (bif leb 0 (yai p l) then b (yai p l) else c):=by
  have: ∀ (t q:List α) (fuel:Nat),q++t=l→t.length < fuel→zr step fuel (f q.length)=some (bif leb 0 (yai p t) then b (q.length+yai p t) else c):=by
    intro t
    induction t with
    | nil =>
      intro q fuel hq hf
      obtain ⟨fuel,rfl⟩: ∃ m,fuel=m+1:=⟨fuel - 1,by omega⟩
      rw [List.append_nil]at hq
      subst hq
      simp only [zr,e]; rfl
    | cons x t ih =>
      intro q fuel hq hf
      obtain ⟨fuel,rfl⟩: ∃ m,fuel=m+1:=⟨fuel - 1,by omega⟩
      have hx:l.getD q.length d=x:=by
        subst hq
        rw [zcq (by simp)]; simp
      have hs:=h q.length (by rw [← hq]; simp)
      rw [hx]at hs
      rw [yr6]
      cases hp:p x
      · rw [hp]at hs
        have:=ih (q++ [x]) fuel (by rw [← hq]; simp) (by simp at hf; omega)
        simp only [List.length_append,List.length_cons,List.length_nil]at this
        simp only [zr,hs,cond_false]
        rw [show q.length+1=q.length+(0+1) by omega,this]
        cases hl:leb 0 (yai p t)
        · rfl
        · have:=zjQ.1 hl
          rw [cond_true,cond_true,zk0 (show 0≤yai p t+1 by omega),cond_true]
          congr 2; omega
      · rw [hp]at hs
        simp only [zr,hs,cond_true]
        rw [zk0 (Int.le_refl 0),cond_true,Int.add_zero]
  have:=this l [] fuel rfl hf
  simpa using this
theorem yr5 {α β:Type} (f:α→β): ∀ (l:List α) (s:List β),l.foldl (fun s i=>s++ [f i]) s=s++l.map f
  | [],s=>by simp
  | x::l,s=>by rw [List.foldl_cons,yr5 f l]; simp
theorem yL9 {α:Type} (l:List α):l.foldl (fun s i=>s++ [i]) []=l:=by
  have:=yr5 id l []
  simpa using this
theorem yNT {α:Type} (l:List α) (d:α) {i:Nat} (h:i < l.length):l.take i++ [nth l i d]=l.take (i+1):=by rw [zjW,zcq h,List.take_append_getElem h]
def yaX (e:dW) (s:Bool×List dW) (x:dW):Bool×List dW:=(s.1||leb e.1 x.1,(bif !s.1&&leb e.1 x.1 then s.2++ [e] else s.2)++(bif x.1 !=e.1 then [x] else []))
def yz9 (l:List dW) (e:dW):List dW:=bif (l.foldl (yaX e) (false,[])).1 then (l.foldl (yaX e) (false,[])).2 else (l.foldl (yaX e) (false,[])).2++ [e]
def ytJ (a:dA) (l:List dW):dA:=(a.1,a.2.1,a.2.2.1,a.2.2.2.1,a.2.2.2.2.1,a.2.2.2.2.2.1,a.2.2.2.2.2.2.1,a.2.2.2.2.2.2.2.1,l,a.2.2.2.2.2.2.2.2.2)
def yxo (m:dM):Nat:=(m.1.map (fun x:List Int=>x.length)).sum+(m.2.1.map (fun x:dW=>1+x.2.length)).sum+1+m.2.2.2.length
def yLF (l:List dM):Nat:=(l.map yxo).sum
def yOA (l:List dW):Nat:=(l.map (fun x:dW=>1+x.2.length)).sum
def yqS (a:dA):Nat:=yLF a.2.2.1+yOA a.2.2.2.2.2.2.2.2.1
abbrev noMem:dM:=([],[],false,[])
def isW (x:Int):Bool:=leb 0 x&&leb x 65535
def yI (s:List Int):Bool:=leb (s.length:Int) 12&&s.all isW
theorem ypJ {x:Int}:isW x=true↔0≤x∧x≤65535:=by simp [isW,zjQ]
theorem ykr {s:List Int}:yI s=true↔s.length≤12∧ ∀ x∈s,0≤x∧x≤65535:=by
  simp only [yI,Bool.and_eq_true,zjQ,List.all_eq_true,ypJ]
  constructor
  · rintro ⟨h1,h2⟩; exact ⟨by omega,h2⟩
  · rintro ⟨h1,h2⟩; exact ⟨by omega,h2⟩
theorem yM0: ∀ {l:List Int},l.Pairwise (· < ·)↔ ∀ i,i+1 < l.length→l.getD i 0 < l.getD (i+1) 0
  | []=>by simp
  | [x]=>by simp
  | x::y::l=>by
    have ih:=yM0 (l:=y::l)
    constructor
    · intro h i hi
      cases h with
      | cons h1 h2 =>
        cases i with
        | zero=>exact h1 y List.mem_cons_self
        | succ i=>exact ih.1 h2 i (by simpa using hi)
    · intro h
      have h2:(y::l).Pairwise (· < ·):=ih.2 fun i hi=>h (i+1) (by simpa using hi)
      refine .cons (fun z hz=> ?_) h2
      have h3:x < y:=h 0 (by simp)
      rcases List.mem_cons.1 hz with rfl | hz
      · exact h3
      · cases h2 with
        | cons h4 _=>exact Int.lt_trans h3 (h4 z hz)
def ykV (n:Nat) (l:List Int):Bool:=l.all (fun x=>inb x n)&&decide (l.Pairwise (· < ·))
def ynG (n:Nat) (w:dW):Bool:=inb w.1 n&&yI w.2
def ym (m:dM):Bool:=m.1.all yI&&m.2.1.all (ynG m.1.length)&&ykV m.1.length m.2.2.2&&leb 1 (m.1.length:Int)&&leb (m.1.length:Int) 20&&leb (m.2.1.length:Int) 60
def yuH (n:Nat) (l:List Int) (i:Nat):Bool:= !(inb (l.getD i 0) n)||(decide (0 < i)&&leb (l.getD i 0) (l.getD (i - 1) 0))
theorem yJV (n:Nat) (l:List Int):(List.range l.length).any (yuH n l)= !(ykV n l):=by
  rw [Bool.eq_iff_iff,List.any_eq_true,Bool.not_eq_true',ykV,Bool.and_eq_false_iff,decide_eq_false_iff_not,yM0,List.all_eq_false]
  simp only [List.mem_range,yuH,Bool.or_eq_true,Bool.not_eq_true',Bool.and_eq_true,decide_eq_true_eq,zjQ]
  constructor
  · rintro ⟨i,hi,h | ⟨h1,h2⟩⟩
    · exact .inl ⟨l[i],List.getElem_mem hi,by rw [zcq hi]at h; simp [h]⟩
    · refine .inr fun h3=> ?_
      have:=h3 (i - 1) (by omega)
      rw [show i - 1+1=i by omega]at this
      omega
  · rintro (⟨x,hx,h⟩ | h)
    · obtain ⟨i,hi,rfl⟩:=List.getElem_of_mem hx
      exact ⟨i,hi,.inl (by rw [zcq hi]; simpa using h)⟩
    · refine Classical.byContradiction fun hc=>h fun i hi=> ?_
      refine Classical.byContradiction fun h4=>hc ⟨i+1,hi,.inr ⟨by omega,?_⟩⟩
      rw [Nat.add_sub_cancel]; omega
def yeL (n:Int) (c:List dW) (s:List Int):List Int:=c.foldl (fun s w=>bif w.1==n then w.2 else s) s
def ysa (m:dM) (n:Int):Bool:=ym m&&(!m.2.2.1&&(inb n m.1.length&& !(m.2.2.2.any (· ==n))))
def ye8 (m:dM) (n:Int):List Int×Bool:=bif ysa m n then (yeL n m.2.1 (nth m.1 n []),true) else ([],false)
theorem yxy {P:List Int→Prop} {n:Int}: ∀ {c:List dW} {s:List Int},P s→(∀ w∈c,P w.2)→P (yeL n c s)
  | [],_,h,_=>h
  | w::c,s,h,hc=>yxy (c:=c) (zkM (hc w List.mem_cons_self) h) (fun x hx=>hc x (List.mem_cons_of_mem _ hx))
theorem ysb {α:Type} {P:α→Prop} {l:List α} {i:Int} {d:α} (h:inb i l.length=true) (hl: ∀ x∈l,P x):P (nth l i d):=by
  obtain ⟨h1,h2⟩:=zjP.1 h
  unfold nth
  rw [zcq (show i.toNat < l.length by omega)]
  exact hl _ (List.getElem_mem _)
theorem yOJ {α:Type} {p:α→Bool} {l:List α} (h:leb 0 (yai p l)=false):yai p l= -1:=by
  unfold yai at h ⊢
  cases ha:l.any p
  · rfl
  · rw [ha,cond_true,zk0 (show (0:Int)≤((l.takeWhile (fun x=> !p x)).length:Int) by omega)] at h; cases h
theorem yNI {α:Type} {p:α→Bool}: ∀ {l:List α},leb 0 (yai p l)=true→(l.take ((yai p l).toNat+1)).filter (fun x=> !p x)=l.take (yai p l).toNat
  | [],h=>by rw [yJ6]at h; cases h
  | x::l,h=>by
    rw [yr6]at h ⊢
    cases hx:p x
    · rw [hx]at h
      cases hl:leb 0 (yai p l)
      · rw [hl]at h; cases h
      · have h4:=zjQ.1 hl
        simp only [cond_false,cond_true]
        rw [show (yai p l+1).toNat=(yai p l).toNat+1 by omega,List.take_succ_cons,List.take_succ_cons,List.filter_cons,hx,yNI hl]; rfl
    · simp only [cond_true]
      show List.filter (fun x=> !p x) [x]= []
      rw [List.filter_cons,hx]; rfl
theorem yPU {α:Type} {p:α→Bool} {l:List α} (h:leb 0 (yai p l)=false):l.filter (fun x=> !p x)=l:=by
  rw [List.filter_eq_self]
  intro x hx
  unfold yai at h
  cases ha:l.any p
  · have:=List.any_eq_false.1 ha x hx
    simpa using this
  · rw [ha,cond_true,zk0 (show (0:Int)≤((l.takeWhile (fun x=> !p x)).length:Int) by omega)] at h; cases h
def ydg (a:dA):dA:=(a.1,a.2.1,a.2.2.1,a.2.2.2.1,a.2.2.2.2.1,IntKind.i64.wrap (a.2.2.2.2.2.1+1),a.2.2.2.2.2.2)
def dataAt (s:Int):Int:=bif leb 0 s&&leb s 1099511627776 then s+6 else -1
def yaV (a:dA) (m s:Int):Bool:=inb m a.2.2.1.length&&(!(nth a.2.2.1 m noMem).2.2.1&&(m !=a.2.2.2.1||ltb s a.2.2.2.2.1))
def ybA (a:dA) (m s:Int):List Int×Bool:=ye8 (nth a.2.2.1 m noMem) (dataAt s)
def yj (a:dA) (m s:Int):Bool:=yaV a m s&&((ybA a m s).2&&((ybA a m s).1.length:Int)==1)
def ykB (a:dA) (m s:Int):Int:=bif yj a m s then nth (ybA a m s).1 0 0 else 0
def xw (a b:Int):Int:=IntKind.i64.wrap ((BitVec.ofInt IntKind.i64.bits a ^^^ BitVec.ofInt IntKind.i64.bits b).toNat:Int)
def xorOf (l:List Int):Int:=l.foldl xw 0
def yN3 (a:dA) (s:Int):Bool:=(List.range a.2.2.1.length).all (fun (i:Nat)=>yj a i s)
def yNx (a:dA) (s:Int):Int×Bool:=bif yN3 a s then (xorOf ((List.range a.2.2.1.length).map (fun (i:Nat)=>ykB a i s)),true) else (0,false)
def yP8 (a:dA):Bool:=(List.range (min a.2.1.2.toNat 20)).all (fun (s:Nat)=> !((yNx a s).2&&(yNx a s).1 !=0))
def bv (x:Int):BitVec 64:=BitVec.ofInt 64 x
theorem yHR (a b:Int):xw a b=(bv a ^^^ bv b).toInt:=by
  show IntKind.i64.wrap ((bv a ^^^ bv b).toNat:Int)=_
  rw [IntKind.wrap_i64,BitVec.toInt_eq_toNat_cond]
  have:=(bv a ^^^ bv b).isLt
  split<;>omega
theorem ym6 (v:BitVec 64):bv v.toInt=v:=by unfold bv; simp
theorem yP7 (a b:Int):bv (xw a b)=bv a ^^^ bv b:=by rw [yHR,ym6]
theorem yMy {x:Int} (h: -9223372036854775808≤x) (h2:x≤9223372036854775807):(bv x).toInt=x:=by
  unfold bv
  rw [BitVec.toInt_ofInt,Int.bmod_def]
  simp only [Nat.reducePow]at *
  omega
def ycn (l:List Int):BitVec 64:=l.foldl (fun v x=>v ^^^ bv x) 0#64
theorem yib (l:List Int):xorOf l=(ycn l).toInt:=by
  have: ∀ (l:List Int) (v:BitVec 64),l.foldl xw v.toInt=(l.foldl (fun v x=>v ^^^ bv x) v).toInt:=by
    intro l
    induction l with
    | nil=>intro _; rfl
    | cons x l ih =>
      intro v
      rw [List.foldl_cons,List.foldl_cons,yHR,ym6,ih]
  have h:=this l 0#64
  rwa [show (0#64:BitVec 64).toInt=0 from by decide]at h
theorem yN2 (l:List Int) (x:Int):ycn (l++ [x])=ycn l ^^^ bv x:=by unfold ycn; rw [List.foldl_append]; rfl
theorem yOz {i:Int} {n:Nat} (h: ¬ (0≤i∧i < (n:Int))):inb i n=false:=by
  cases e:inb i n
  · rfl
  · exact absurd (zjP.1 e) h
def yke (l:List Int) (k:Int):Int:=bif inb k l.length then xw (xorOf l) (nth l k 0) else xorOf l
theorem yKn (u v:BitVec 64):u ^^^ v ^^^ v=u:=by rw [BitVec.xor_assoc,BitVec.xor_self,BitVec.xor_zero]
theorem yNN (l:List Int) (k:Int):(List.range l.length).foldl (fun n (i:Nat)=>bif (i:Int) !=k then xw n (nth l i 0) else n) 0=yke l k:=by
  have: ∀ n,n≤l.length→(List.range n).foldl (fun n (i:Nat)=>bif (i:Int) !=k then xw n (nth l i 0) else n) 0=(bif inb k n then ycn (l.take n) ^^^ bv (nth l k 0) else ycn (l.take n)).toInt:=by
    intro n
    induction n with
    | zero =>
      intro _
      rw [yOz (show ¬ (0≤k∧k < ((0:Nat):Int)) by omega)]
      rfl
    | succ n ih =>
      intro hn
      rw [List.range_succ,List.foldl_append,List.foldl_cons,List.foldl_nil,ih (by omega),← yNT l 0 (show n < l.length by omega),yN2]
      by_cases hk:(n:Int)=k
      · subst hk
        rw [show ((n:Int) !=n)=false by simp,cond_false,yOz (show ¬ (0≤(n:Int)∧(n:Int) < (n:Int)) by omega),show inb (n:Int) (n+1)=true from zkO (Nat.lt_succ_self n),cond_false,cond_true,yKn]
      · rw [show ((n:Int) !=k)=true from bne_iff_ne.2 hk,cond_true,show inb k (n+1)=inb k n by rw [Bool.eq_iff_iff,zjP,zjP]; omega,yHR,ym6]
        cases inb k n
        · rfl
        · rw [cond_true,cond_true,BitVec.xor_assoc,BitVec.xor_comm (bv (nth l k 0)),← BitVec.xor_assoc]
  rw [this l.length (Nat.le_refl _),List.take_length]
  unfold yke
  rw [yHR,yib,ym6]
  cases inb k l.length<;>rfl
theorem yNM {l:List Int} {k:Int} (h:inb k l.length=true) (h0:nth l k 0=0):yke l k=xorOf l:=by
  unfold yke
  rw [h,h0,cond_true,yHR,yib,ym6,show bv 0=0#64 by decide,BitVec.xor_zero]
abbrev yk2:dA:=(0,(0,0),[],0,0,0,0,0,[],0,false,false)
def yLC (k:Int) (i:Nat):Bool:=IntKind.i64.wrap ((BitVec.ofInt IntKind.i64.bits (k.fdiv (2 ^ (min (i:Int).toNat IntKind.i64.bits))) &&& BitVec.ofInt IntKind.i64.bits 1).toNat:Int)==1
def yGe (k:Int):Int:=bif leb 0 k&&leb k 1048575 then k else 0
def ybm (b:Nat→Bool) (c:List dW) (l:List (List Int)) (i:Nat):List (List Int):=bif b i then l.set (nth c i (0,[])).1.toNat (nth c i (0,[])).2 else l
def yd1 (b:Nat→Bool) (c:List dW) (l:List (List Int)):List (List Int):=(List.range c.length).foldl (ybm b c) l
def yd0 (m:dM) (k:Int):dM:=bif ym m then (yd1 (fun i=>decide (i < 20)&&yLC (yGe k) i) m.2.1 m.1,[],m.2.2.1,m.2.2.2) else m
def yMg (ks:List Int) (i:Nat):Int:=bif decide (i < ks.length) then nth ks i 0 else 0
def yOI (l:List dM) (ks:List Int):List dM:=(List.range l.length).map (fun (i:Nat)=>yd0 (nth l i noMem) (yMg ks i))
theorem yaw {m:dM} (h:ym m=true):m.1.all yI=true∧m.2.1.all (ynG m.1.length)=true∧ykV m.1.length m.2.2.2=true∧1≤m.1.length∧m.1.length≤20∧m.2.1.length≤60:=by
  simp only [ym,Bool.and_eq_true,zjQ]at h
  exact ⟨h.1.1.1.1.1,h.1.1.1.1.2,h.1.1.1.2,by omega,by omega,by omega⟩
theorem yOk {m:dM} (h:ym m=true) {i:Nat} (hi:i < m.2.1.length):inb (nth m.2.1 i (0,[])).1 m.1.length=true∧yI (nth m.2.1 i (0,[])).2=true:=by
  have h1:=List.all_eq_true.1 (yaw h).2.1 m.2.1[i] (List.getElem_mem hi)
  rw [zjW,zcq hi]
  exact Bool.and_eq_true_iff.1 h1
theorem yxm {b:Nat→Bool} {c:List dW} {l:List (List Int)} {i:Nat}:(ybm b c l i).length=l.length:=by
  unfold ybm; cases b i
  · rfl
  · exact List.length_set
theorem yFA {α β:Type} (P:β→Prop) (f:β→α→β) (h: ∀ s x,P s→P (f s x)): ∀ (l:List α) (s:β),P s→P (l.foldl f s)
  | [],_,hs=>hs
  | x::l,s,hs=>yFA P f h l (f s x) (h s x hs)
theorem yiX {b:Nat→Bool} {c:List dW} {l:List (List Int)}:(yd1 b c l).length=l.length :=
  yFA (fun x=>x.length=l.length) _ (fun s x hs=>by rw [yxm]; exact hs) _ l rfl
theorem yPr (b:Nat→Bool) (c:List dW) (l:List (List Int)):yd1 (fun i=>decide (i < 20)&&b i) c l=(List.range (min c.length 20)).foldl (ybm b c) l:=by
  have h1: ∀ n,n≤20→ ∀ l,(List.range n).foldl (ybm (fun i=>decide (i < 20)&&b i) c) l=(List.range n).foldl (ybm b c) l:=by
    intro n
    induction n with
    | zero=>intro _ _; rfl
    | succ n ih =>
      intro hn l
      rw [List.range_succ,List.foldl_append,List.foldl_append,ih (by omega)]
      simp only [List.foldl_cons,List.foldl_nil,ybm,show decide (n < 20)=true from decide_eq_true (by omega),Bool.true_and]
  have h2: ∀ n,20≤n→ ∀ l,(List.range n).foldl (ybm (fun i=>decide (i < 20)&&b i) c) l=(List.range 20).foldl (ybm b c) l:=by
    intro n
    induction n with
    | zero=>intro h; omega
    | succ n ih =>
      intro hn l
      by_cases h:20≤n
      · rw [List.range_succ,List.foldl_append,ih h]
        simp only [List.foldl_cons,List.foldl_nil,ybm,show decide (n < 20)=false from decide_eq_false (by omega),Bool.false_and,cond_false]
      · rw [h1 (n+1) (by omega),show n+1=20 by omega]
  unfold yd1
  by_cases h:c.length≤20
  · rw [h1 _ h,Nat.min_eq_left h]
  · rw [h2 _ (by omega),Nat.min_eq_right (by omega)]
theorem yHM {l:List (List Int)} {b:Nat} (h:l.length≤20) (hs: ∀ x∈l,x.length≤b):(l.map (fun x:List Int=>x.length)).sum≤20 * b:=by
  have:=zi5 (f:=fun x:List Int=>x.length) hs
  exact Nat.le_trans this (Nat.mul_le_mul_right _ h)
theorem yB0 {P:List Int→Prop} {b:Nat→Bool} {c:List dW} {l:List (List Int)} (hl: ∀ x∈l,P x) (hc: ∀ w∈c,P w.2): ∀ x∈yd1 b c l,P x:=by
  have: ∀ (n:Nat),n≤c.length→ ∀ x∈(List.range n).foldl (ybm b c) l,P x:=by
    intro n
    induction n with
    | zero=>intro _; exact hl
    | succ n ih =>
      intro hn x hx
      rw [List.range_succ,List.foldl_append,List.foldl_cons,List.foldl_nil,ybm]at hx
      cases hb:b n
      · rw [hb]at hx; exact ih (by omega) x hx
      · rw [hb,cond_true]at hx
        rcases List.mem_or_eq_of_mem_set hx with h | h
        · exact ih (by omega) x h
        · rw [h,zjW,zcq (show n < c.length by omega)]
          exact hc _ (List.getElem_mem _)
  exact this _ (Nat.le_refl _)
theorem yNj (m:dM) (k:Int):yxo (yd0 m k)≤yxo m+240:=by
  unfold yd0
  cases hm:ym m
  · exact Nat.le_add_right _ _
  · obtain ⟨h1,h2,_,_,h3,_⟩:=yaw hm
    have hs: ∀ x∈yd1 (fun i=>decide (i < 20)&&yLC (yGe k) i) m.2.1 m.1,x.length≤12 :=
      yB0 (P:=fun x=>x.length≤12) (fun x hx=>(ykr.1 (List.all_eq_true.1 h1 x hx)).1) (fun w hw=>(ykr.1 (Bool.and_eq_true_iff.1 (List.all_eq_true.1 h2 w hw)).2).1)
    have:=yHM (b:=12) (by rw [yiX]; exact h3) hs
    unfold yxo
    simp only [cond_true,List.map_nil,List.sum_nil]
    omega
theorem yO1 (l:List dM) (ks:List Int):yLF (yOI l ks)≤yLF l+240 * l.length:=by
  have: ∀ n,n≤l.length→(((List.range n).map (fun (i:Nat)=>yd0 (nth l i noMem) (yMg ks i))).map yxo).sum≤((l.take n).map yxo).sum+240 * n:=by
    intro n
    induction n with
    | zero=>intro _; simp
    | succ n ih =>
      intro hn
      rw [List.range_succ,List.map_append,List.map_append,List.sum_append,← List.take_append_getElem (show n < l.length by omega),List.map_append,List.sum_append]
      have:=ih (by omega)
      have h2:=yNj (nth l n noMem) (yMg ks n)
      rw [zjW,zcq (show n < l.length by omega)] at h2
      simp only [List.map_cons,List.map_nil,List.sum_cons,List.sum_nil]
      rw [zjW l n,zcq (show n < l.length by omega)]
      omega
  have h:=this l.length (Nat.le_refl _)
  rw [List.take_length]at h
  exact h
def yaJ (m:dM) (n:Int) (s:List Int):Bool:=ym m&&(!m.2.2.1&&(inb n m.1.length&&(yI s&&ltb (m.2.1.length:Int) 60)))
def yEC (l:List Int) (n:Int):List Int:=l.filter (· !=n)
def yB (m:dM) (n:Int) (s:List Int):dM×Bool:=bif yaJ m n s then ((m.1,m.2.1++ [(n,s)],m.2.2.1,yEC m.2.2.2 n),true) else (m,false)
def yq (m:dM):dM:=bif ym m&& !m.2.2.1 then (yd1 (fun _=>true) m.2.1 m.1,[],m.2.2.1,m.2.2.2) else m
def yhe (m:dM):dM:=(m.1,[],true,m.2.2.2)
end
section
def yjV:Code:=(Try.f33.body).getD .skip
def yn5:Env:=zki TT [] []
theorem yFY:FrOk Try.prog ⟨yn5,32,fun _=>none⟩ yjV:=zkp yc yd trivial
def ywf:Nat→Option Seg:=fun _=>none
def yda:Shape:=⟨[(0,false,[.fz tY]),(3,false,[.int .i64]),(4,false,[.int .i64])],[],[]⟩
def yja:Shape:=⟨[(0,false,[.fz tY]),(3,false,[.int .i64]),(4,false,[.ci .i64 0])],[],[]⟩
def yi9:Shape:=⟨[(0,false,[.fz tY]),(3,false,[.int .i64])],[],[]⟩
def yjm:Shape:=⟨[],[],[]⟩
def ytY (v0:List Int) (v1:Int) (v2:Int):Option ((yda).X ⊕ ((yi9).X ⊕ (yjm).X)) :=
  bif (ltb v2 (v0.length:Int)) then
    bif (ltb v2 4000) then
      bif (inb v2 v0.length) then
        some (.inl (((v0,()),((IntKind.i64.wrap ((BitVec.ofInt IntKind.i64.bits (IntKind.i64.wrap ((IntKind.i64.wrap ((IntKind.i64.wrap (v1 * 137))+(IntKind.i64.wrap (nth v0 v2 0))))+11)) &&& BitVec.ofInt IntKind.i64.bits 1073741823).toNat:Int)),()),((IntKind.i64.wrap (v2+1)),()),()),(),()))
      else none
    else
      some (.inr (.inl (((v0,()),(v1,()),()),(),())))
  else
    some (.inr (.inl (((v0,()),(v1,()),()),(),())))
def ydI (x:(yda).X):=ytY x.1.1.1 x.1.2.1.1 x.1.2.2.1.1
def ys6 (x:(yja).X):(yda).X:=(((x.1.1.1,()),(x.1.2.1.1,()),(0,()),()),(),())
def yuS:Code:=(zdI yjV 64 116).getD .skip
theorem yFd:zdI yjV 64 29=some (.block 0 (.loop yuS)):=by kernel_rfl
theorem yHG (x:(yda).X):zg7 ⟨yn5,32,ywf⟩ 0 yuS 116 yda yi9 yjm x=ydI x:=by kernel_rfl
def ytl (x:(yja).X):Nat:=(fun (u0:List Int) (u1:Int)=>18446744073709551616) x.1.1.1 x.1.2.1.1
def yoi (x:(yja).X):Option ((yi9).X ⊕ (yjm).X):=zr ydI (ytl x) (ys6 x)
def ytS:Seg:=⟨yja,yi9,yjm,yoi⟩
def ywg:Nat→Option Seg:=fun q=>bif Nat.beq q 29 then some ytS else ywf q
theorem yFZ:FrOk Try.prog ⟨yn5,32,ywg⟩ yjV:=(yFY).loop (sg:=ytS) yda ys6 (by decide) yFd ydI ytl (by decide) (fun _=>rfl) (fun x r _ h=>h) yHG
abbrev ygW:List Par:= [.kp tYs .fz]
abbrev yoC:List OT:= [⟨true,tU,.fz⟩]
def yd6 (a0:List Int):Option (ResD yoC×MutD ygW) :=
  zjw (yoi (((a0,()),((IntKind.i64.wrap (770770+(a0.length:Int))),()),((),()),()),(),())) (fun y0 =>
    some (((y0.1.1.1,0,y0.1.2.1.1),()),())) (fun y0 =>
    none)
theorem yL0 (x:InD ygW):zjH ⟨yn5,32,ywg⟩ Try.f33.results.toList yjV ygW yoC x=yd6 x.1:=by kernel_rfl
theorem yJf:ConOk Try.prog 33 ⟨ygW,yoC,fun x=>yd6 x.1⟩:=zkh (yFZ) Try.func33 (by kernel_rfl) (by kernel_rfl) Try.ntmps33.symm (by decide) (fun x r h=>(yL0 x).trans h)
def yho (a0:List Int):List Int×Int×Int:=(((yd6 a0).getD (((([]:List Int),(0:Int),(0:Int)),()),())).1).1
def ycl (u:List Int×Int×Int):Prop:=0≤u.2.1∧(u.1.length:Int)≤140737488355328
theorem yMj (a0:List Int) (hb:a0.length≤140737488355328): ∃ s:Int,yd6 a0=some (((a0,0,s),()),()):=by
  have hl: ∃ b,yoi (((a0,()),((IntKind.i64.wrap (770770+(a0.length:Int))),()),((),()),()),(),())=some b∧(∃ s:Int,b= .inl (((a0,()),(s,()),()),(),())):=by
    refine ziU (step:=ydI) (fun x=>(a0.length - (x.1.2.2.1.1:Int).toNat)) (fun x=>(x.1.1.1:List Int)=a0∧(0:Int)≤(x.1.2.2.1.1:Int)) _ ?_ _ _ ⟨rfl,Int.le_refl _⟩ (by show a0.length - _ < 18446744073709551616; omega)
    rintro ⟨⟨⟨(l:List Int),_⟩,⟨(s:Int),_⟩,⟨(i:Int),_⟩,_⟩,_,_⟩ ⟨h0,hi⟩
    simp only at h0 hi
    subst h0
    simp only [ydI,ytY]
    by_cases h1:i < (l.length:Int)
    · rw [zjI h1]
      by_cases h2:i < 4000
      · rw [zjI h2,zjP.2 ⟨hi,h1⟩]
        refine .inl ⟨_,rfl,⟨rfl,?_⟩,?_⟩
        · show 0≤IntKind.i64.wrap (i+1); rw [wr (by omega) (by omega)]; omega
        · show l.length - (IntKind.i64.wrap (i+1)).toNat < l.length - i.toNat; rw [wr (by omega) (by omega)]; omega
      · rw [zkm (Int.not_lt.1 h2)]
        exact .inr ⟨_,rfl,_,rfl⟩
    · rw [zkm (Int.not_lt.1 h1)]
      exact .inr ⟨_,rfl,_,rfl⟩
  obtain ⟨b,e,s,rfl⟩:=hl
  refine ⟨s,?_⟩
  unfold yd6
  rw [e]; rfl
theorem yLd (a0:List Int) (hk:zi9 ygW (a0,())):yd6 a0=(fun n=>some ((n,()),())) (yho a0):=by
  obtain ⟨s,e⟩:=yMj a0 (by have:a0.length * 1≤2 ^ 47:=hk.1.1; omega)
  unfold yho
  rw [e]; rfl
theorem yO5 (a0:List Int) (hb:a0.length≤140737488355328):ycl (yho a0):=by
  obtain ⟨s,e⟩:=yMj a0 hb
  unfold yho
  rw [e]
  exact ⟨Int.le_refl _,by show (a0.length:Int)≤_; omega⟩
def ywK:Con:=⟨ygW,yoC,fun x=>(fun n=>some ((n,()),())) (yho x.1)⟩
theorem yLs:ConOk Try.prog 33 ywK:=(yJf).mono (fun x r hk h=>(yLd x.1 hk).trans h)
end
section
def yxX:Code:=(Try.f90.body).getD .skip
def yyn:Env:=zki TT [] []
theorem yCU:FrOk Try.prog ⟨yyn,58,fun _=>none⟩ yxX:=zkp yc yd trivial
def yEV:Nat→Option Seg:=fun _=>none
abbrev yiu:List Par:= [.pt tU .fz]
abbrev ymz:List OT:= [⟨false,tI,.fz⟩]
def yal (a0:dU):Option (ResD ymz×MutD yiu) :=
  bif (ltb a0.2.1 (a0.1.length:Int)) then
    bif (inb a0.2.1 a0.1.length) then
      some (((IntKind.i64.wrap ((BitVec.ofInt IntKind.i64.bits (IntKind.i64.wrap ((IntKind.i64.wrap ((BitVec.ofInt IntKind.i64.bits (IntKind.i64.wrap ((BitVec.ofInt IntKind.i64.bits ((IntKind.i64.wrap ((IntKind.i64.wrap (a0.2.2 * 6364136223846793005))+1442695040888963407)).fdiv (2 ^ (min (33:Int).toNat IntKind.i64.bits))) ^^^ BitVec.ofInt IntKind.i64.bits ((IntKind.i64.wrap ((IntKind.i64.wrap (a0.2.2 * 6364136223846793005))+1442695040888963407)).fdiv (2 ^ (min (47:Int).toNat IntKind.i64.bits)))).toNat:Int)) &&& BitVec.ofInt IntKind.i64.bits 255).toNat:Int))+(IntKind.i64.wrap (nth a0.1 a0.2.1 0)))) &&& BitVec.ofInt IntKind.i64.bits 255).toNat:Int)),()),((a0.1,(IntKind.i64.wrap (a0.2.1+1)),(IntKind.i64.wrap ((IntKind.i64.wrap (a0.2.2 * 6364136223846793005))+1442695040888963407))),()))
    else none
  else
    some (((IntKind.i64.wrap ((BitVec.ofInt IntKind.i64.bits (IntKind.i64.wrap ((BitVec.ofInt IntKind.i64.bits ((IntKind.i64.wrap ((IntKind.i64.wrap (a0.2.2 * 6364136223846793005))+1442695040888963407)).fdiv (2 ^ (min (33:Int).toNat IntKind.i64.bits))) ^^^ BitVec.ofInt IntKind.i64.bits ((IntKind.i64.wrap ((IntKind.i64.wrap (a0.2.2 * 6364136223846793005))+1442695040888963407)).fdiv (2 ^ (min (47:Int).toNat IntKind.i64.bits)))).toNat:Int)) &&& BitVec.ofInt IntKind.i64.bits 255).toNat:Int)),()),((a0.1,a0.2.1,(IntKind.i64.wrap ((IntKind.i64.wrap (a0.2.2 * 6364136223846793005))+1442695040888963407))),()))
theorem yKK (x:InD yiu):zjH ⟨yyn,58,yEV⟩ Try.f90.results.toList yxX yiu ymz x=yal x.1:=by kernel_rfl
theorem yG0:ConOk Try.prog 90 ⟨yiu,ymz,fun x=>yal x.1⟩:=zkh (yCU) Try.func90 (by kernel_rfl) (by kernel_rfl) Try.ntmps90.symm (by decide) (fun x r h=>(yKK x).trans h)
def yva:Con:=⟨yiu,ymz,fun x=>yal x.1⟩
theorem yJy:ConOk Try.prog 90 yva:=yG0
theorem yNy (x:Int):0≤IntKind.i64.wrap ((BitVec.ofInt IntKind.i64.bits x &&& BitVec.ofInt IntKind.i64.bits 255).toNat:Int)∧IntKind.i64.wrap ((BitVec.ofInt IntKind.i64.bits x &&& BitVec.ofInt IntKind.i64.bits 255).toNat:Int)≤255:=by
  have h:(BitVec.ofInt IntKind.i64.bits x &&& BitVec.ofInt IntKind.i64.bits 255).toNat≤255:=by
    rw [BitVec.toNat_and]
    exact Nat.le_trans Nat.and_le_right (by decide)
  rw [wr (by omega) (by omega)]
  omega
theorem yAj (u:List Int×Int×Int) (h:ycl u): ∃ (r:Int) (u':List Int×Int×Int),yal u=some ((r,()),(u',()))∧(0≤r∧r≤255)∧ycl u':=by
  unfold yal
  by_cases h1:u.2.1 < (u.1.length:Int)
  · rw [zjI h1,zjP.2 ⟨h.1,h1⟩]
    refine ⟨_,_,rfl,yNy _,?_,h.2⟩
    show 0≤IntKind.i64.wrap (u.2.1+1)
    have:=h.1; have:=h.2
    rw [wr (by omega) (by omega)]; omega
  · rw [zkm (Int.not_lt.1 h1)]
    exact ⟨_,_,rfl,yNy _,h⟩
end
section
def yvZ:Code:=(Try.f47.body).getD .skip
def yww:Env:=zki TT [(90,yva)] []
theorem yA2:FrOk Try.prog ⟨yww,31,fun _=>none⟩ yvZ:=zkp yc yd ⟨yJy,trivial⟩
def yCc:Nat→Option Seg:=fun _=>none
abbrev ygV:List Par:= [.pt tU .fz,.rd tI]
abbrev ykS:List OT:= [⟨false,tI,.fz⟩]
def ye (a0:dU) (a1:Int):Option (ResD ykS×MutD ygV) :=
  bif (leb a1 0) then
    some ((0,()),(a0,()))
  else
    bif (leb a1 256) then
      bnd (yal a0) fun r1 =>
      bif (a1 !=0) then
        some (((r1.1.1.tmod a1),()),(r1.2.1,()))
      else none
    else
      bnd (yal a0) fun r2 =>
      bnd (yal r2.2.1) fun r3 =>
      bnd (yal r3.2.1) fun r4 =>
      bif (a1 !=0) then
        some ((((IntKind.i64.wrap ((IntKind.i64.wrap ((IntKind.i64.wrap (r2.1.1 * 65536))+(IntKind.i64.wrap (r3.1.1 * 256))))+r4.1.1)).tmod a1),()),(r4.2.1,()))
      else none
theorem yIk (x:InD ygV):zjH ⟨yww,31,yCc⟩ Try.f47.results.toList yvZ ygV ykS x=ye x.1 x.2.1:=by kernel_rfl
theorem yEb:ConOk Try.prog 47 ⟨ygV,ykS,fun x=>ye x.1 x.2.1⟩:=zkh (yA2) Try.func47 (by kernel_rfl) (by kernel_rfl) Try.ntmps47.symm (by decide) (fun x r h=>(yIk x).trans h)
def ycF:Con:=⟨ygV,ykS,fun x=>ye x.1 x.2.1⟩
theorem yfZ:ConOk Try.prog 47 ycF:=yEb
theorem ydl (u:List Int×Int×Int) (n:Int) (h:ycl u): ∃ (r:Int) (u':List Int×Int×Int),ye u n=some ((r,()),(u',()))∧(0≤r∧(0 < n→r < n)∧(n≤0→r=0))∧ycl u':=by
  unfold ye
  by_cases h0:n≤0
  · rw [zk0 h0]
    exact ⟨_,_,rfl,⟨Int.le_refl _,fun h=>absurd h0 (by omega),fun _=>rfl⟩,h⟩
  · have hn:(n !=0)=true:=bne_iff_ne.2 (by omega)
    have key: ∀ x:Int,0≤x→0≤x.tmod n∧(0 < n→x.tmod n < n)∧(n≤0→x.tmod n=0):=fun x hx =>
      ⟨Int.tmod_nonneg n hx,fun hp=>Int.tmod_lt_of_pos x hp,fun hp=>absurd hp h0⟩
    rw [zkZ (by omega)]
    by_cases h1:n≤256
    · rw [zk0 h1]
      obtain ⟨r1,u1,e1,q1,d1⟩:=yAj u h
      rw [e1,zkX,zkY,zky,hn]
      exact ⟨_,_,rfl,key r1 q1.1,d1⟩
    · rw [zkZ (by omega)]
      obtain ⟨r1,u1,e1,q1,d1⟩:=yAj u h
      obtain ⟨r2,u2,e2,q2,d2⟩:=yAj u1 d1
      obtain ⟨r3,u3,e3,q3,d3⟩:=yAj u2 d2
      simp only [e1,e2,e3,zkX,zky,hn,zkY]
      refine ⟨_,_,rfl,key _ ?_,d3⟩
      rw [wr (show -9223372036854775808≤r1 * 65536 by omega) (by omega),wr (show -9223372036854775808≤r2 * 256 by omega) (by omega),wr (show -9223372036854775808≤r1 * 65536+r2 * 256 by omega) (by omega),wr (by omega) (by omega)]
      omega
end
section
def yBS:Code:=(Try.f60.body).getD .skip
def yBU:Env:=zki TT [] []
theorem yIr:FrOk Try.prog ⟨yBU,15,fun _=>none⟩ yBS:=zkp yc yd trivial
def yKo:Nat→Option Seg:=fun _=>none
abbrev ylW:List Par:= [.rd tI,.rd tI,.rd tI]
abbrev yp0:List OT:= [⟨false,tB,.fz⟩]
def yqZ (a0:Int) (a1:Int) (a2:Int):Option (ResD yp0×MutD ylW) :=
  bif (leb a1 a0) then
    some (((leb a0 a2),()),())
  else
    some ((false,()),())
theorem yMH (x:InD ylW):zjH ⟨yBU,15,yKo⟩ Try.f60.results.toList yBS ylW yp0 x=yqZ x.1 x.2.1 x.2.2.1:=by kernel_rfl
theorem yLk:ConOk Try.prog 60 ⟨ylW,yp0,fun x=>yqZ x.1 x.2.1 x.2.2.1⟩:=zkh (yIr) Try.func60 (by kernel_rfl) (by kernel_rfl) Try.ntmps60.symm (by decide) (fun x r h=>(yMH x).trans h)
def ya (a0:Int) (a1:Int) (a2:Int):Bool :=
  bif (leb a1 a0) then
    (leb a0 a2)
  else
    false
def yp:Con:=⟨ylW,yp0,fun x=>(fun n=>some ((n,()),())) (ya x.1 x.2.1 x.2.2.1)⟩
theorem yMn (a0:Int) (a1:Int) (a2:Int):yqZ a0 a1 a2=(fun n=>some ((n,()),())) (ya a0 a1 a2):=zkS (p:=fun (n:Bool)=>((n,()),())) (zkx (p:=fun (n:Bool)=>((n,()),())) rfl rfl)
theorem yx:ConOk Try.prog 60 yp:=(yLk).mono (fun x r _ h=>(yMn x.1 x.2.1 x.2.2.1).trans h)
theorem ytr {a b c:Int}:ya a b c=true↔b≤a∧a≤c:=by
  unfold ya
  cases h:leb b a
  · have:=mt zk0 (by rw [h]; simp: ¬ leb b a=true)
    simp [this]
  · simp [zjQ,zjQ.1 h]
theorem yPV {a b c:Int} (h:b≤a) (h2:a≤c):ya a b c=true:=ytr.2 ⟨h,h2⟩
theorem yQb {a b c:Int} (h: ¬ (b≤a∧a≤c)):ya a b c=false:=by
  cases e:ya a b c
  · rfl
  · exact absurd (ytr.1 e) h
theorem ybB (x a b:Int):ya x a b=(leb a x&&leb x b):=by
  unfold ya; cases leb a x<;>rfl
theorem yl3 {x:Int} {n:Nat} (h:n≤1152921504606846976):ya x 0 (IntKind.i64.wrap ((n:Int) - 1))=inb x n:=by
  rw [wr (by omega) (by omega),Bool.eq_iff_iff,ytr,zjP]; omega
end
section
def yy0:Code:=(Try.f91.body).getD .skip
def yzb:Env:=zki TT [(60,yp)] []
theorem yFO:FrOk Try.prog ⟨yzb,11,fun _=>none⟩ yy0:=zkp yc yd ⟨yx,trivial⟩
def yHV:Nat→Option Seg:=fun _=>none
abbrev yj3:List Par:= [.rd tG]
abbrev yow:List OT:= [⟨false,tB,.fz⟩]
def ypW (a0:dG):Option (ResD yow×MutD yj3) :=
  let r1:=ya a0.1 3 5
  bif r1 then
    let r2:=ya a0.2 1 8
    some ((r2,()),())
  else
    some ((false,()),())
theorem yLU (x:InD yj3):zjH ⟨yzb,11,yHV⟩ Try.f91.results.toList yy0 yj3 yow x=ypW x.1:=by kernel_rfl
theorem yI9:ConOk Try.prog 91 ⟨yj3,yow,fun x=>ypW x.1⟩:=zkh (yFO) Try.func91 (by kernel_rfl) (by kernel_rfl) Try.ntmps91.symm (by decide) (fun x r h=>(yLU x).trans h)
def yb (a0:dG):Bool :=
  let r1:=ya a0.1 3 5
  bif r1 then
    let r2:=ya a0.2 1 8
    r2
  else
    false
def ydY:Con:=⟨yj3,yow,fun x=>(fun n=>some ((n,()),())) (yb x.1)⟩
theorem yK8 (a0:dG):ypW a0=(fun n=>some ((n,()),())) (yb a0):=zkS (p:=fun (n:Bool)=>((n,()),())) (zkx (p:=fun (n:Bool)=>((n,()),())) rfl rfl)
theorem yiS:ConOk Try.prog 91 ydY:=(yI9).mono (fun x r _ h=>(yK8 x.1).trans h)
theorem yk {a:Int×Int}:yb a=true↔(3≤a.1∧a.1≤5)∧1≤a.2∧a.2≤8:=by
  unfold yb
  cases h:ya a.1 3 5
  · have: ¬ (3≤a.1∧a.1≤5):=fun e=>by rw [ytr.2 e]at h; simp at h
    simp [this]
  · simp only [cond_true,ytr]
    exact ⟨fun e=>⟨ytr.1 h,e⟩,fun e=>e.2⟩
def yeG (a:dA) (i:Nat):Bool:= !(ym (nth a.2.2.1 i noMem))||((((nth a.2.2.1 i noMem).1.length:Int) !=6+a.2.1.2)||((nth a.2.2.1 i noMem).2.2.1&&(((i:Int) !=a.2.2.2.1)&& !a.2.2.2.2.2.2.2.2.2.2.2)))
def yiH (a:dA):Bool:= !((List.range a.2.2.1.length).any (yeG a))&&(a.2.2.1.length:Int)==a.2.1.1
def ye5 (g:dG) (l:List dW) (i:Nat):Bool:= !(leb 0 (nth l i (0,[])).1&&leb (nth l i (0,[])).1 (g.2 - 1))||(((nth l i (0,[])).2.length:Int) !=g.1 - 1||(!((nth l i (0,[])).2.all isW)||(decide (0 < i)&&leb (nth l i (0,[])).1 (nth l ((i - 1:Nat):Int) (0,[])).1)))
def yab (g:dG) (l:List dW):Bool:= !((List.range l.length).any (ye5 g l))
def yu (a:dA):Bool :=
  yb a.2.1&&((leb 1 a.1&&leb a.1 60000)&&(yiH a&&(yab a.2.1 a.2.2.2.2.2.2.2.2.1&&((leb (-1) a.2.2.2.1&&leb a.2.2.2.1 (a.2.1.1 - 1))&&((leb 0 a.2.2.2.2.1&&leb a.2.2.2.2.1 a.2.1.2)&&(!(a.2.2.2.1== -1&&a.2.2.2.2.1 !=0) &&
  ((leb 0 a.2.2.2.2.2.2.1&&leb a.2.2.2.2.2.2.1 60000)&&((leb a.2.2.2.2.2.2.1 a.2.2.2.2.2.1&&leb a.2.2.2.2.2.1 60000)&&(leb a.2.2.2.2.2.1 (a.2.2.2.2.2.2.1+4)&&((leb 0 a.2.2.2.2.2.2.2.1&&leb a.2.2.2.2.2.2.2.1 60000)&&(leb (-1) a.2.2.2.2.2.2.2.2.2.1&&leb a.2.2.2.2.2.2.2.2.2.1 1000)))))))))))
theorem ycT {a:dA} (h:yu a=true):yb a.2.1=true:=(Bool.and_eq_true_iff.1 h).1
theorem yP9 {a:Int×Int} (h: ¬ yb a=true):yb a=false:=by cases e:yb a<;>simp_all
theorem yFj {a:dA} (h:yu a=true):yiH a=true:=by simp only [yu,Bool.and_eq_true]at h; exact h.2.2.1
theorem yqb {a:dA} (h:yu a=true):(a.2.2.1.length:Int)=a.2.1.1:=by have:=yFj h; simp only [yiH,Bool.and_eq_true,beq_iff_eq]at this; exact this.2
theorem yJ8 {a:dA} (h:yiH a=true) {i:Nat} (hi:i < a.2.2.1.length):ym (nth a.2.2.1 i noMem)=true∧((nth a.2.2.1 i noMem).1.length:Int)=6+a.2.1.2∧((nth a.2.2.1 i noMem).2.2.1=true→(i:Int)=a.2.2.2.1∨a.2.2.2.2.2.2.2.2.2.2.2=true):=by
  simp only [yiH,Bool.and_eq_true,Bool.not_eq_true',List.any_eq_false,List.mem_range]at h
  have:=h.1 i hi
  simp only [yeG,Bool.not_eq_true,Bool.or_eq_false_iff,Bool.not_eq_false',bne_eq_false_iff_eq,Bool.and_eq_false_iff]at this
  refine ⟨this.1,this.2.1,fun hf=> ?_⟩
  rcases this.2.2 with h1 | h1 | h1
  · rw [hf]at h1; cases h1
  · exact .inl h1
  · exact .inr h1
theorem yAg: ∀ {l:List Int} {lo n:Int},l.Pairwise (· < ·)→(∀ x∈l,lo≤x∧x < n)→lo≤n→(l.length:Int)≤n - lo
  | [],lo,n,_,_,h=>by simp; omega
  | x::l,lo,n,hp,hx,h=>by
    cases hp with
    | cons h1 h2 =>
      have h3:=hx x List.mem_cons_self
      have:=yAg (l:=l) (lo:=x+1) (n:=n) h2 (fun y hy=>⟨h1 y hy,(hx y (List.mem_cons_of_mem _ hy)).2⟩) (by omega)
      rw [List.length_cons]; omega
theorem ykc {n:Nat} {l:List Int}:ykV n l=true↔(∀ x∈l,0≤x∧x < n)∧l.Pairwise (· < ·):=by
  simp only [ykV,Bool.and_eq_true,List.all_eq_true,zjP,decide_eq_true_eq]
theorem ynb {m:dM} (h1:m.1.all yI=true) (h2:m.2.1.all (ynG m.1.length)=true) (h3:ykV m.1.length m.2.2.2=true) (h4:1≤m.1.length) (h5:m.1.length≤20) (h6:m.2.1.length≤60):ym m=true:=by
  simp only [ym,h1,h2,h3,Bool.true_and,Bool.and_eq_true,zjQ]
  omega
theorem yMP {m:dM} (h:ym m=true):yxo m≤1041:=by
  obtain ⟨h1,h2,h3,h4,h5,h6⟩:=yaw h
  have a1:=yHM (b:=12) h5 (fun x hx=>(ykr.1 (List.all_eq_true.1 h1 x hx)).1)
  have a2:=zi5 (f:=fun x:dW=>1+x.2.length) (c:=13) (l:=m.2.1) (fun w hw=>by have:=(ykr.1 (Bool.and_eq_true_iff.1 (List.all_eq_true.1 h2 w hw)).2).1; omega)
  have a3:=Nat.mul_le_mul_right 13 h6
  obtain ⟨b1,b2⟩:=ykc.1 h3
  have a4:=yAg (lo:=0) (n:=m.1.length) b2 b1 (by omega)
  unfold yxo
  omega
theorem yGf {m:dM} (b:Nat→Bool) (h:ym m=true):(yd1 b m.2.1 m.1).all yI=true:=by
  obtain ⟨h1,h2,_⟩:=yaw h
  rw [List.all_eq_true]
  exact yB0 (P:=fun x=>yI x=true) (fun x hx=>List.all_eq_true.1 h1 x hx) (fun w hw=>(Bool.and_eq_true_iff.1 (List.all_eq_true.1 h2 w hw)).2)
theorem yEE {m:dM} (n:Int) (s:List Int) (h:ym m=true):ym (yB m n s).1=true:=by
  unfold yB
  cases hc:yaJ m n s
  · exact h
  · simp only [yaJ,Bool.and_eq_true,Bool.not_eq_true',zjT]at hc
    obtain ⟨h1,h2,h3,h4,h5,h6⟩:=yaw h
    refine ynb h1 ?_ ?_ h4 h5 (by show (m.2.1++ [(n,s)]).length≤60; rw [List.length_append]; simp only [List.length_cons,List.length_nil]; omega)
    · show (m.2.1++ [(n,s)]).all (ynG m.1.length)=true
      rw [List.all_append,h2]
      simp [ynG,hc.2.2.1,hc.2.2.2.1]
    · show ykV m.1.length (yEC m.2.2.2 n)=true
      obtain ⟨b1,b2⟩:=ykc.1 h3
      exact ykc.2 ⟨fun x hx=>b1 x (List.mem_filter.1 hx).1,b2.filter _⟩
theorem yvH (m:dM) (n:Int) (s:List Int):(yB m n s).1.1=m.1∧(yB m n s).1.2.2.1=m.2.2.1:=by
  unfold yB
  cases yaJ m n s<;>exact ⟨rfl,rfl⟩
theorem yL8 {m:dM} (h:ym m=true):ym (yq m)=true:=by
  unfold yq
  cases hc:(ym m&& !m.2.2.1)
  · exact h
  · obtain ⟨h1,h2,h3,h4,h5,h6⟩:=yaw h
    refine ynb (yGf _ h) rfl ?_ ?_ ?_ (Nat.zero_le _)
    · show ykV (yd1 _ m.2.1 m.1).length m.2.2.2=true; rw [yiX]; exact h3
    · show 1≤(yd1 _ m.2.1 m.1).length; rw [yiX]; exact h4
    · show (yd1 _ m.2.1 m.1).length≤20; rw [yiX]; exact h5
theorem yvq (m:dM):(yq m).1.length=m.1.length∧(yq m).2.2.1=m.2.2.1:=by
  unfold yq
  cases (ym m&& !m.2.2.1)
  · exact ⟨rfl,rfl⟩
  · exact ⟨yiX,rfl⟩
theorem yM3 {m:dM} (h:ym m=true):ym (yhe m)=true:=by
  obtain ⟨h1,h2,h3,h4,h5,h6⟩:=yaw h
  exact ynb h1 rfl h3 h4 h5 (Nat.zero_le _)
def yW (l:List dM):Prop:= ∀ m∈l,ym m=true
theorem yxC {l:List dM} {i:Nat} {x:dM} (h:yW l) (hx:ym x=true):yW (l.set i x):=fun m hm=>by
  rcases List.mem_or_eq_of_mem_set hm with h1 | rfl
  · exact h m h1
  · exact hx
theorem yKd {l:List dM} {m:Int} (h:yW l) (hm:inb m l.length=true):ym (nth l m noMem)=true:=ysb (P:=fun x=>ym x=true) hm h
theorem yz4 {l:List dM} (h:yW l):yLF l≤l.length * 1041:=zi5 (f:=yxo) (fun x hx=>yMP (h x hx))
theorem yxe {a:dA} (h:yu a=true):yW a.2.2.1:=fun m hm=>by
  obtain ⟨i,hi,rfl⟩:=List.getElem_of_mem hm
  have:=(yJ8 (yFj h) hi).1
  rwa [zjW,zcq hi]at this
def yhR (p:Nat→Bool) (n:Nat):Nat:=((List.range n).filter (fun i=> !p i)).length
theorem yOh (p:Nat→Bool) (n:Nat):yhR p n≤n:=by
  have:=List.length_filter_le (fun i=> !p i) (List.range n)
  rwa [List.length_range]at this
theorem yr7 (p:Nat→Bool) (n:Nat):yhR p (n+1)=bif p n then yhR p n else yhR p n+1:=by
  unfold yhR
  rw [List.range_succ,List.filter_append,List.length_append,List.filter_cons]
  cases p n<;>simp
def yGh (a:dA) (s:Int):Int:=bif yu a&&(leb 0 s&&leb s (a.2.1.2 - 1)) then (yhR (fun (i:Nat)=>yj a i s) a.2.1.1.toNat:Nat) else a.2.1.1
def yQa (a:dA):Int:=bif yu a then (yhR (fun (s:Nat)=>(yNx a s).2) a.2.1.2.toNat:Nat) else 0
theorem yM6 {α:Type} (A:List α) (y:α) (t:List α) (d:α):(A++y::t).getD A.length d=y:=by
  rw [List.getD_eq_getElem?_getD,List.getElem?_append_right (Nat.le_refl _),Nat.sub_self]; rfl
theorem yNb {α:Type} (A:List α) (y z:α) (t:List α):(A++y::t).set A.length z=A++z::t:=by
  rw [List.set_append_right _ _ (Nat.le_refl _),Nat.sub_self]; rfl
def ywX (l:List Int) (n:Int):List Int:=l.filter (fun x=>ltb x n)++n::l.filter (fun x=>ltb n x)
def spoil (m:dM) (n:Int):dM:=bif ym m&&(inb n m.1.length&& !(m.2.2.2.any (· ==n))) then (m.1,m.2.1,m.2.2.1,ywX m.2.2.2 n) else m
theorem yMu {l:List Int} {n:Int} (h:l.Pairwise (· < ·)) (hn:n∉l):l=l.filter (fun x=>ltb x n)++l.filter (fun x=>ltb n x):=by
  induction l with
  | nil=>rfl
  | cons x t ih =>
    obtain ⟨hx,ht⟩:=List.pairwise_cons.1 h
    simp only [List.mem_cons,not_or]at hn
    rw [List.filter_cons,List.filter_cons]
    by_cases hlt:x < n
    · rw [zjI hlt,zkm (show x≤n by omega)]
      simp only [if_true,Bool.false_eq_true,if_false,List.cons_append]
      rw [← ih ht hn.2]
    · have h3:t.filter (fun x=>ltb x n)= []:=List.filter_eq_nil_iff.2 (fun y hy=>by rw [zkm (by have:=hx y hy; omega)]; simp)
      have h4:t.filter (fun x=>ltb n x)=t:=List.filter_eq_self.2 (fun y hy=>zjI (by have:=hx y hy; omega))
      rw [zkm (show n≤x by omega),zjI (show n < x by omega),h3,h4]; rfl
theorem yMv {m:dM} (n:Int) (h:ym m=true):ym (spoil m n)=true:=by
  unfold spoil
  cases hc:(ym m&&(inb n m.1.length&& !(m.2.2.2.any (· ==n))))
  · exact h
  · simp only [Bool.and_eq_true]at hc
    have hi:=zjP.1 hc.2.1
    obtain ⟨h1,h2,h3,h4,h5,h6⟩:=yaw h
    rw [ykc]at h3
    refine ynb h1 h2 ?_ h4 h5 h6
    show ykV m.1.length (ywX m.2.2.2 n)=true
    rw [ykc]
    unfold ywX
    refine ⟨fun x hx=> ?_,?_⟩
    · rcases List.mem_append.1 hx with g | g
      · exact h3.1 x (List.mem_filter.1 g).1
      · rcases List.mem_cons.1 g with rfl | g
        · exact hi
        · exact h3.1 x (List.mem_filter.1 g).1
    · rw [List.pairwise_append,List.pairwise_cons]
      refine ⟨h3.2.filter _,⟨fun y hy=>zjT.1 (List.mem_filter.1 hy).2,h3.2.filter _⟩,fun x hx y hy=> ?_⟩
      have g1:=zjT.1 (List.mem_filter.1 hx).2
      rcases List.mem_cons.1 hy with rfl | hy
      · exact g1
      · exact Int.lt_trans g1 (zjT.1 (List.mem_filter.1 hy).2)
theorem yvE (m:dM) (n:Int):(spoil m n).1=m.1∧(spoil m n).2.2.1=m.2.2.1:=by
  unfold spoil
  cases (ym m&&(inb n m.1.length&& !(m.2.2.2.any (· ==n))))<;>exact ⟨rfl,rfl⟩
def yV (g:dG) (s:Int):Bool:=yb g&&(leb 0 s&&leb s (g.2 - 1))
def yf (g:dG) (s:Int):Int:=bif yV g s then g.1 - 1 - s.tmod g.1 else -1
def yaB (g:dG) (s i:Int):Int:=bif yV g s&&(leb 0 i&&leb i (g.1 - 2)) then (yf g s+1+i).tmod g.1 else -1
theorem yX {g:dG} {s:Int}:yV g s=true↔yb g=true∧0≤s∧s≤g.2 - 1:=by simp [yV,zjQ]
theorem yf0 {g:dG} {s:Int} (h:yV g s=true):0≤yf g s∧yf g s≤g.1 - 1:=by
  have h1:=yX.1 h
  have h2:=yk.1 h1.1
  unfold yf
  rw [h,cond_true,Int.tmod_eq_emod_of_nonneg h1.2.1]
  have:=Int.emod_nonneg s (show g.1≠0 by omega)
  have:=Int.emod_lt_of_pos s (show 0 < g.1 by omega)
  omega
theorem yH6 {g:dG} {s i:Int} (h:yV g s=true) (h1:0≤i) (h2:i≤g.1 - 2):0≤yaB g s i∧yaB g s i≤g.1 - 1:=by
  have h3:=yk.1 (yX.1 h).1
  have h4:=yf0 h
  unfold yaB
  rw [h,zk0 h1,zk0 h2,Bool.and_self,Bool.and_self,cond_true,Int.tmod_eq_emod_of_nonneg (by omega)]
  have:=Int.emod_nonneg (yf g s+1+i) (show g.1≠0 by omega)
  have:=Int.emod_lt_of_pos (yf g s+1+i) (show 0 < g.1 by omega)
  omega
def yn (p:Nat→Bool):Nat→Int
  | 0=> -1
  | n+1=>bif p n then yn p n else n
def ycM (p:Nat→Bool) (n:Nat):Bool:=(List.range n).any (fun i=> !p i&&leb 0 (yn p i))
theorem yzK (p:Nat→Bool): ∀ n,yn p n= -1∨(0≤yn p n∧yn p n < n∧p (yn p n).toNat=false)
  | 0=> .inl rfl
  | n+1=>by
    unfold yn
    cases h:p n
    · exact .inr ⟨by show (0:Int)≤n; omega,by show (n:Int) < _; omega,h⟩
    · rcases yzK p n with h1 | h1
      · exact .inl h1
      · exact .inr ⟨h1.1,by show yn p n < _; omega,h1.2.2⟩
def yz (a:dA) (s:Int) (n:Nat):List Int:=(List.range n).map (fun (i:Nat)=>ykB a i s)
theorem yc2 (a:dA) (s:Int) (n:Nat):(yz a s n).length=n:=by unfold yz; rw [List.length_map,List.length_range]
theorem yyC (a:dA) (s:Int) (n:Nat):yz a s n++ [ykB a n s]=yz a s (n+1):=by unfold yz; rw [List.range_succ,List.map_append]; rfl
theorem yMY (a:dA) (s:Int) {i n:Nat} (h:i < n):nth (yz a s n) i 0=ykB a i s:=by
  unfold yz
  rw [zjW,zcq (by rw [List.length_map,List.length_range]; exact h)]; simp
def yv (a:dA) (s:Int):List Int×Bool :=
  bif ycM (fun (i:Nat)=>yj a i s) a.2.1.1.toNat then ([],false)
  else bif leb 0 (yn (fun (i:Nat)=>yj a i s) a.2.1.1.toNat) then ((yz a s a.2.1.1.toNat).set (yn (fun (i:Nat)=>yj a i s) a.2.1.1.toNat).toNat (xorOf (yz a s a.2.1.1.toNat)),true)
  else (yz a s a.2.1.1.toNat,true)
theorem yAf {a:dA} {s:Int} (h:(yv a s).2=true):(yv a s).1.length=a.2.1.1.toNat:=by
  unfold yv at h ⊢
  cases h1:ycM (fun (i:Nat)=>yj a i s) a.2.1.1.toNat
  · cases leb 0 (yn (fun (i:Nat)=>yj a i s) a.2.1.1.toNat)
    · exact yc2 _ _ _
    · simp only [cond_false,cond_true,List.length_set]; exact yc2 _ _ _
  · rw [h1]at h; cases h
theorem yKb (a:dA) (s:Int) (n:Nat) (h:leb 0 (yn (fun (i:Nat)=>yj a i s) n)=true):inb (yn (fun (i:Nat)=>yj a i s) n) (yz a s n).length=true∧yke (yz a s n) (yn (fun (i:Nat)=>yj a i s) n)=xorOf (yz a s n):=by
  rcases yzK (fun (i:Nat)=>yj a i s) n with h1 | h1
  · rw [h1]at h; cases h
  · have h2:inb (yn (fun (i:Nat)=>yj a i s) n) (yz a s n).length=true:=by rw [yc2,zjP]; exact ⟨h1.1,h1.2.1⟩
    refine ⟨h2,yNM h2 ?_⟩
    have h3:=yMY a s (show (yn (fun (i:Nat)=>yj a i s) n).toNat < n by omega)
    rw [show (((yn (fun (i:Nat)=>yj a i s) n).toNat:Nat):Int)=yn (fun (i:Nat)=>yj a i s) n by omega]at h3
    rw [h3]
    unfold ykB
    have h4:yj a (yn (fun (i:Nat)=>yj a i s) n) s=false:=by
      have:=h1.2.2
      have this:yj a ((yn (fun (i:Nat)=>yj a i s) n).toNat:Nat) s=false:=h1.2.2
      rwa [show (((yn (fun (i:Nat)=>yj a i s) n).toNat:Nat):Int)=yn (fun (i:Nat)=>yj a i s) n by omega]at this
    rw [h4]; rfl
def yoP (a:dA) (s:Int):List Int×Bool:=bif (yv a s).2 then ((List.range (a.2.1.1 - 1).toNat).map (fun (i:Nat)=>nth (yv a s).1 (yaB a.2.1 s i) 0),true) else ([],false)
def ywQ (a:dA) (s:Int):List Int×Bool:=bif yu a&&(!a.2.2.2.2.2.2.2.2.2.2.2&&yV a.2.1 s) then yoP a s else ([],false)
theorem yPJ (a:dA) (s:Int):(yoP a s).1.length≤(a.2.1.1 - 1).toNat:=by
  unfold yoP
  cases (yv a s).2
  · exact Nat.zero_le _
  · simp
def yP4 (a:dA):List Int:=bif yu a&&(List.range a.2.1.2.toNat).all (fun (s:Nat)=>(ywQ a s).2) then (List.range a.2.1.2.toNat).flatMap (fun (s:Nat)=>(ywQ a s).1) else []
theorem yGi (p:Nat→Bool): ∀ n,leb 0 (yn p n)=decide (1≤yhR p n)∧ycM p n=decide (2≤yhR p n)
  | 0=>⟨rfl,rfl⟩
  | n+1=>by
    obtain ⟨h1,h2⟩:=yGi p n
    have e:ycM p (n+1)=(ycM p n||(!p n&&leb 0 (yn p n))):=by
      unfold ycM
      rw [List.range_succ,List.any_append]; simp
    have e2:yn p (n+1)=bif p n then yn p n else n:=rfl
    rw [e,e2,yr7,h2,h1]
    cases hp:p n
    · simp only [cond_false,Bool.not_false,Bool.true_and]
      refine ⟨by rw [zk0 (show (0:Int)≤n by omega)]; simp,?_⟩
      rw [Bool.eq_iff_iff,Bool.or_eq_true,decide_eq_true_eq,decide_eq_true_eq,decide_eq_true_eq]; omega
    · simp [h1]
def ykd (m:dM) (n:Int):List Int:=yeL n m.2.1 (nth m.1 n [])
def ym5 (m:dM) (n:Int):Bool:=m.2.2.2.any (· ==n)
def yCg (m:dM) (n:Int) (v:List Int):Prop:=v=nth m.1 n []∨ ∃ w∈m.2.1,w.1=n∧w.2=v
theorem yGp (n:Int): ∀ (c:List dW) (s:List Int),yeL n c s=s∨ ∃ w∈c,w.1=n∧w.2=yeL n c s
  | [],s=> .inl rfl
  | w::c,s=>by
    show yeL n c (bif w.1==n then w.2 else s)=s∨ ∃ x∈w::c,x.1=n∧x.2=yeL n c (bif w.1==n then w.2 else s)
    rcases yGp n c (bif w.1==n then w.2 else s) with h | ⟨x,hx,h1,h2⟩
    · rw [h]
      cases hw:(w.1==n)
      · exact .inl rfl
      · exact .inr ⟨w,List.mem_cons_self,beq_iff_eq.1 hw,rfl⟩
    · exact .inr ⟨x,List.mem_cons_of_mem _ hx,h1,h2⟩
theorem yN6 (m:dM) (n:Int):yCg m n (ykd m n):=yGp n m.2.1 _
theorem yB2 (n:Int) (c:List dW) (w:dW) (s:List Int):yeL n (c++ [w]) s=bif w.1==n then w.2 else yeL n c s:=by
  unfold yeL; rw [List.foldl_append]; rfl
theorem yOm {m:dM} {n:Int} (h:ym m=true) (h1:m.2.2.1=false) (h2:inb n m.1.length=true):ye8 m n=bif ym5 m n then ([],false) else (ykd m n,true):=by
  unfold ye8 ysa
  rw [h,h1,h2]
  show (bif !(ym5 m n) then (ykd m n,true) else ([],false))=_
  cases ym5 m n<;>rfl
theorem yBW {m:dM} {n:Int} {s:List Int} (h:ym m=true) (h1:m.2.2.1=false) (h2:inb n m.1.length=true) (h3:yI s=true) (h4:m.2.1.length < 60):yaJ m n s=true:=by
  unfold yaJ
  rw [h,h1,h2,h3,zjI (by omega)]; rfl
theorem yxH {m:dM} {n:Int} {s:List Int} (h:yaJ m n s=true):(yB m n s).1=(m.1,m.2.1++ [(n,s)],m.2.2.1,yEC m.2.2.2 n):=by unfold yB; rw [h]; rfl
theorem yvm {m:dM} {n:Int} {s:List Int} (h:yaJ m n s=true) (k:Int):ykd (yB m n s).1 k=bif n==k then s else ykd m k:=by
  rw [yxH h]; exact yB2 _ _ _ _
theorem yN4 (l:List Int) (n k:Int):(yEC l n).any (· ==k)=(l.any (· ==k)&&k !=n):=by
  rw [Bool.eq_iff_iff]
  simp only [yEC,List.any_eq_true,List.mem_filter,Bool.and_eq_true,beq_iff_eq,bne_iff_ne]
  constructor
  · rintro ⟨x,⟨h1,h2⟩,rfl⟩; exact ⟨⟨x,h1,rfl⟩,h2⟩
  · rintro ⟨⟨x,h1,rfl⟩,h2⟩; exact ⟨x,⟨h1,h2⟩,rfl⟩
theorem yzl {m:dM} {n:Int} {s:List Int} (h:yaJ m n s=true) (k:Int):ym5 (yB m n s).1 k=(ym5 m k&&k !=n):=by
  rw [yxH h]; exact yN4 _ _ _
theorem yPw {m:dM} {n:Int} {s:List Int} {k:Int} {v:List Int} (h:yCg (yB m n s).1 k v):yCg m k v∨(k=n∧v=s):=by
  cases hc:yaJ m n s
  · unfold yB at h; rw [hc]at h; exact .inl h
  · rw [yxH hc]at h
    rcases h with h | ⟨w,hw,h1,h2⟩
    · exact .inl (.inl h)
    · rcases List.mem_append.1 hw with hw | hw
      · exact .inl (.inr ⟨w,hw,h1,h2⟩)
      · rw [List.mem_singleton.1 hw]at h1 h2; exact .inr ⟨h1.symm,h2.symm⟩
theorem yty {α:Type} {l:List α} {i k:Int} {x d:α} (hi:inb i l.length=true) (hk:0≤k):nth (l.set i.toNat x) k d=bif i==k then x else nth l k d:=by
  have h1:=zjP.1 hi
  unfold nth
  rw [List.getD_eq_getElem?_getD,List.getD_eq_getElem?_getD,List.getElem?_set]
  by_cases h:i=k
  · subst h; simp [show i.toNat < l.length by omega]
  · rw [if_neg (by omega),show (i==k)=false from beq_eq_false_iff_ne.2 h]; rfl
theorem yM4 (b:Nat→Bool) {c:List dW} {l:List (List Int)} {k:Int} (hk:0≤k) (hc: ∀ w∈c,inb w.1 l.length=true) :
    ∀ n,n≤c.length→((List.range n).foldl (ybm b c) l).length=l.length∧(nth ((List.range n).foldl (ybm b c) l) k []=nth l k []∨ ∃ w∈c,w.1=k∧w.2=nth ((List.range n).foldl (ybm b c) l) k []) ∧
      ((∀ i,b i=true)→nth ((List.range n).foldl (ybm b c) l) k []=yeL k (c.take n) (nth l k [])):=by
  intro n
  induction n with
  | zero=>intro _; exact ⟨rfl,.inl rfl,fun _=>rfl⟩
  | succ n ih =>
    intro hn
    obtain ⟨h1,h2,h3⟩:=ih (by omega)
    rw [List.range_succ,List.foldl_append,List.foldl_cons,List.foldl_nil]
    have hnc:n < c.length:=by omega
    generalize (List.range n).foldl (ybm b c) l=L at h1 h2 h3 ⊢
    refine ⟨yxm.trans h1,?_⟩
    unfold ybm
    rw [zjW,zcq hnc]
    have hw:inb c[n].1 L.length=true:=by rw [h1]; exact hc _ (List.getElem_mem hnc)
    cases hb:b n
    · refine ⟨h2,fun h=> ?_⟩
      rw [h n]at hb; cases hb
    · simp only [cond_true,yty hw hk]
      constructor
      · cases he:(c[n].1==k)
        · exact h2
        · exact .inr ⟨c[n],List.getElem_mem hnc,beq_iff_eq.1 he,rfl⟩
      · intro h
        rw [h3 h,List.take_add_one,List.getElem?_eq_getElem hnc]
        exact (yB2 k _ _ _).symm
theorem yMl {m:dM} (h:ym m=true): ∀ w∈m.2.1,inb w.1 m.1.length=true:=fun w hw=>by
  have:=List.all_eq_true.1 (yaw h).2.1 w hw
  simp only [ynG,Bool.and_eq_true]at this; exact this.1
theorem yNF {m:dM} {k:Int} (h:ym m=true) (h1:m.2.2.1=false) (hk:0≤k):nth (yq m).1 k []=ykd m k:=by
  have:=(yM4 (fun _=>true) hk (yMl h) m.2.1.length (Nat.le_refl _)).2.2 (fun _=>rfl)
  rw [List.take_length]at this
  unfold yq
  rw [h,h1]; exact this
theorem yxh {m:dM} (h:ym m=true) (h1:m.2.2.1=false):(yq m).2.1= []∧(yq m).2.2=m.2.2:=by
  unfold yq
  rw [h,h1]
  refine ⟨rfl,?_⟩
  show (false,m.2.2.2)=m.2.2
  rw [← h1]
theorem yNl {m:dM} {k:Int} {v:List Int} (h:ym m=true) (h1:m.2.2.1=false) (hk:0≤k) (hv:yCg (yq m) k v):v=ykd m k:=by
  rcases hv with hv | ⟨w,hw,_⟩
  · rw [hv,yNF h h1 hk]
  · rw [(yxh h h1).1]at hw; cases hw
theorem yNE {m:dM} {k:Int} (h:ym m=true) (h1:m.2.2.1=false) (hk:0≤k):ykd (yq m) k=ykd m k:=yNl h h1 hk (yN6 _ _)
theorem yND (m:dM) (k:Int):ym5 (yq m) k=ym5 m k:=by
  unfold yq
  cases (ym m&& !m.2.2.1)<;>rfl
theorem yOb {m:dM} (h:ym m=true) (ks:Int) {k:Int} (hk:0≤k):yCg m k (nth (yd0 m ks).1 k []):=by
  have:=(yM4 (fun i=>decide (i < 20)&&yLC (yGe ks) i) hk (yMl h) m.2.1.length (Nat.le_refl _)).2.1
  unfold yd0
  rw [h]
  rcases this with h1 | ⟨w,hw,h1,h2⟩
  · exact .inl h1
  · exact .inr ⟨w,hw,h1,h2⟩
theorem yJ4 {m:dM} (h:ym m=true) (ks:Int):(yd0 m ks).2.1= []∧(yd0 m ks).2.2=m.2.2∧(yd0 m ks).1.length=m.1.length:=by
  unfold yd0
  rw [h]
  exact ⟨rfl,rfl,yiX⟩
theorem yP5 {m:dM} (h:ym m=true) (ks:Int):ym (yd0 m ks)=true:=by
  obtain ⟨h1,h2,h3,h4,h5,h6⟩:=yaw h
  obtain ⟨e1,e2,e3⟩:=yJ4 h ks
  refine ynb ?_ (by rw [e1]; rfl) (by rw [e2,e3]; exact h3) (by omega) (by omega) (by rw [e1]; exact Nat.zero_le _)
  have:=yGf (fun i=>decide (i < 20)&&yLC (yGe ks) i) h
  unfold yd0
  rw [h]; exact this
theorem yPL {m:dM} (h:ym m=true) {ks k:Int} {v:List Int} (hk:0≤k) (hv:yCg (yd0 m ks) k v):yCg m k v:=by
  rcases hv with rfl | ⟨w,hw,_⟩
  · exact yOb h ks hk
  · rw [(yJ4 h ks).1]at hw; cases hw
theorem yO3 {x:Int} (h:isW x=true):(bv x).toNat < 2 ^ 16:=by
  have:=ypJ.1 h
  unfold bv
  rw [BitVec.toNat_ofInt]
  omega
theorem yO6 {v:BitVec 64} (h:v.toNat < 2 ^ 16):isW v.toInt=true:=by
  rw [BitVec.toInt_eq_toNat_of_lt (by omega)]
  exact ypJ.2 (by omega)
theorem yO0: ∀ (l:List Int),l.all isW=true→(ycn l).toNat < 2 ^ 16:=by
  intro l h
  have: ∀ (l:List Int) (v:BitVec 64),v.toNat < 2 ^ 16→l.all isW=true→(l.foldl (fun v x=>v ^^^ bv x) v).toNat < 2 ^ 16:=by
    intro l
    induction l with
    | nil=>intro v hv _; exact hv
    | cons x t ih =>
      intro v hv h
      simp only [List.all_cons,Bool.and_eq_true]at h
      refine ih _ ?_ h.2
      rw [BitVec.toNat_xor]
      exact Nat.xor_lt_two_pow hv (yO3 h.1)
  exact this l 0#64 (by decide) h
theorem yKl {l:List Int} (h:l.all isW=true):isW (xorOf l)=true:=by
  rw [yib]; exact yO6 (yO0 l h)
theorem ywC {l:List Int}:l.all isW=true↔ ∀ x∈l,isW x=true:=by simp
theorem yAn {l:List Int} {i:Int} (h:l.all isW=true):isW (nth l i 0)=true:=by
  unfold nth
  rw [List.getD_eq_getElem?_getD]
  cases e:l[i.toNat]? with
  | none=>rfl
  | some x=>exact ywC.1 h x (List.mem_of_getElem? e)
theorem yJP {l:List Int} {i:Nat} {x:Int} (h:l.all isW=true) (hx:isW x=true):(l.set i x).all isW=true:=by
  rw [ywC]at h ⊢
  intro y hy
  rcases List.mem_or_eq_of_mem_set hy with h1 | rfl
  · exact h y h1
  · exact hx
theorem yNt {m:dM} {n:Int} (h:(ye8 m n).2=true):yI (ye8 m n).1=true:=by
  unfold ye8 at h ⊢
  cases hc:ysa m n
  · rw [hc]at h; cases h
  · simp only [ysa,Bool.and_eq_true]at hc
    obtain ⟨h1,h2,h3,_,_,_⟩:=yaw hc.1
    refine yxy (P:=fun s=>yI s=true) ?_ fun w hw=> ?_
    · exact ysb (P:=fun s=>yI s=true) hc.2.2.1 (fun x hx=>List.all_eq_true.1 h1 x hx)
    · have:=List.all_eq_true.1 h2 w hw
      simp only [ynG,Bool.and_eq_true]at this
      exact this.2
theorem yOx (a:dA) (m s:Int):isW (ykB a m s)=true:=by
  unfold ykB
  cases h:yj a m s
  · rfl
  · simp only [yj,Bool.and_eq_true]at h
    have:=yNt (m:=nth a.2.2.1 m noMem) (n:=dataAt s) h.2.1
    simp only [yI,Bool.and_eq_true]at this
    exact yAn this.2
theorem yt0 (a:dA) (s:Int) (n:Nat):(yz a s n).all isW=true:=by
  rw [ywC]
  unfold yz
  intro x hx
  obtain ⟨i,_,rfl⟩:=List.mem_map.1 hx
  exact yOx a i s
theorem yN0 (a:dA) (s:Int):(yv a s).1.all isW=true:=by
  unfold yv
  cases ycM (fun (i:Nat)=>yj a i s) a.2.1.1.toNat
  · cases leb 0 (yn (fun (i:Nat)=>yj a i s) a.2.1.1.toNat)
    · exact yt0 _ _ _
    · exact yJP (yt0 _ _ _) (yKl (yt0 _ _ _))
  · rfl
theorem yJZ (a:dA) (s:Int):(yoP a s).1.all isW=true:=by
  unfold yoP
  cases (yv a s).2
  · rfl
  · rw [ywC]
    intro x hx
    obtain ⟨i,_,rfl⟩:=List.mem_map.1 hx
    exact yAn (yN0 a s)
end
end
end Go.Tf
