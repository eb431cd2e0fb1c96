/- Functions of the program, and what they come to. -/
import Derived.Test.YtfpjmijaiekbgaaGreatExactReplayTt
namespace Go.Tf
noncomputable section
open Go.Proofs
set_option synthInstance.maxHeartbeats 400000
set_option synthInstance.maxSize 10000
set_option linter.unusedVariables false
set_option linter.unusedSimpArgs false
set_option maxRecDepth 100000
section
def yFG:Code:=(Tryz.f185.body).getD .skip
def yF1:Env:=zki TT [] []
theorem yMD:FrOk Tryz.prog ⟨yF1,12,fun _=>none⟩ yFG:=zkp yb yc trivial
def yO6:Nat→Option Seg:=fun _=>none
abbrev ylM:List Par:= [.rd tL,.rd tI]
abbrev yrI:List OT:= [⟨false,tI,.fz⟩]
def yuF (a0:List Int) (a1:Int):Option (ResD yrI×MutD ylM) :=
  bif (ltb (IntKind.i64.wrap (a1 - (a0.length:Int))) 0) then
    some (((-1),()),())
  else
    some (((IntKind.i64.wrap (a1 - (a0.length:Int))),()),())
theorem yVi (x:InD ylM):zjH ⟨yF1,12,yO6⟩ Tryz.f185.results.toList yFG ylM yrI x=yuF x.1 x.2.1:=by kernel_rfl
theorem yRk:ConOk Tryz.prog 185 ⟨ylM,yrI,fun x=>yuF x.1 x.2.1⟩:=zkh (yMD) Tryz.func185 (by kernel_rfl) (by kernel_rfl) Tryz.ntmps185.symm (by decide) (fun x r h=>(yVi x).trans h)
def yk (a0:List Int) (a1:Int):Int :=
  bif (ltb (IntKind.i64.wrap (a1 - (a0.length:Int))) 0) then
    (-1)
  else
    (IntKind.i64.wrap (a1 - (a0.length:Int)))
def yh0:Con:=⟨ylM,yrI,fun x=>(fun n=>some ((n,()),())) (yk x.1 x.2.1)⟩
theorem yTs (a0:List Int) (a1:Int):yuF a0 a1=(fun n=>some ((n,()),())) (yk a0 a1):=zkS (p:=fun (n:Int)=>((n,()),())) (zkx (p:=fun (n:Int)=>((n,()),())) rfl rfl)
theorem ypV:ConOk Tryz.prog 185 yh0:=(yRk).mono (fun x r _ h=>(yTs x.1 x.2.1).trans h)
theorem yDH {a:List Int} {k:Int} (hk:0≤k) (hk2:k≤1048576) (ha:a.length≤17592186044416) (h: ¬ yk a k < 0):(a.length:Int)≤k∧yk a k=k - a.length:=by
  unfold yk at h ⊢
  rw [wr (by omega) (by omega)] at h ⊢
  by_cases h1:k - (a.length:Int) < 0
  · rw [zjI h1]at h; exact absurd (show (-1:Int) < 0 by omega) h
  · rw [zkm (Int.not_lt.1 h1)]; exact ⟨by omega,rfl⟩
def yr {α:Type} (p:α→Bool) (l:List α):Int:=bif l.any p then ((l.takeWhile (fun x=> !p x)).length:Int) else -1
theorem yUN {α:Type} (p:α→Bool):yr p []= -1:=rfl
theorem yFg {α:Type} (p:α→Bool) (x:α) (l:List α):yr p (x::l)=bif p x then 0 else bif leb 0 (yr p l) then yr p l+1 else -1:=by
  unfold yr
  rw [List.any_cons,List.takeWhile_cons]
  cases p x
  · cases l.any p
    · rfl
    · simp only [Bool.false_or,Bool.not_false,if_true,cond_true,cond_false,List.length_cons]
      rw [zk0 (show (0:Int)≤((l.takeWhile (fun x=> !p x)).length:Int) by omega),cond_true]; omega
  · simp
theorem yM8 {α:Type} {p:α→Bool} {d:α}: ∀ {l:List α},leb 0 (yr p l)=true→inb (yr p l) l.length=true∧p (nth l (yr p l) d)=true
  | [],h=>by rw [yUN]at h; cases h
  | x::l,h=>by
    rw [yFg]at h ⊢
    cases hx:p x
    · rw [hx]at h
      cases hl:leb 0 (yr p l)
      · rw [hl]at h; cases h
      · obtain ⟨h1,h2⟩:=yM8 (d:=d) hl
        have h3:=zjP.1 h1
        have h4:=zjQ.1 hl
        simp only [cond_false,cond_true,List.length_cons]
        refine ⟨zjP.2 (by omega),?_⟩
        unfold nth at h2 ⊢
        rw [show (yr p l+1).toNat=(yr p l).toNat+1 by omega,List.getD_cons_succ]
        exact h2
    · simp only [cond_true,List.length_cons]
      refine ⟨zjP.2 (by omega),?_⟩
      exact hx
theorem yIo {A B α:Type} {step:A→Option (A ⊕ B)} (l:List α) (d:α) (f:Nat→A) (p:α→Bool) (b:Int→B) (c:B)
    (h: ∀ i,i < l.length→step (f i)=some (bif p (l.getD i d) then .inr (b i) else .inl (f (i+1)))) (e:step (f l.length)=some (.inr c)) (fuel:Nat) (hf:l.length < fuel) :
    zr step fuel (f 0)=some (bif leb 0 (yr p l) then b (yr p l) else c):=by
  have: ∀ (t q:List α) (fuel:Nat),q++t=l→t.length < fuel→zr step fuel (f q.length)=some (bif leb 0 (yr p t) then b (q.length+yr p t) else c):=by
    intro t
    induction t with
    | nil =>
      intro q fuel hq hf
      obtain ⟨fuel,rfl⟩: ∃ m,fuel=m+1:=⟨fuel - 1,by omega⟩
      rw [List.append_nil]at hq
      subst hq
      simp only [zr,e]; rfl
    | cons x t ih =>
      intro q fuel hq hf
      obtain ⟨fuel,rfl⟩: ∃ m,fuel=m+1:=⟨fuel - 1,by omega⟩
      have hx:l.getD q.length d=x:=by
        subst hq
        rw [zcq (by simp)]; simp
      have hs:=h q.length (by rw [← hq]; simp)
      rw [hx]at hs
      rw [yFg]
      cases hp:p x
      · rw [hp]at hs
        have:=ih (q++ [x]) fuel (by rw [← hq]; simp) (by simp at hf; omega)
        simp only [List.length_append,List.length_cons,List.length_nil]at this
        simp only [zr,hs,cond_false]
        rw [show q.length+1=q.length+(0+1) by omega,this]
        cases hl:leb 0 (yr p t)
        · rfl
        · have:=zjQ.1 hl
          rw [cond_true,cond_true,zk0 (show 0≤yr p t+1 by omega),cond_true]
          congr 2; omega
      · rw [hp]at hs
        simp only [zr,hs,cond_true]
        rw [zk0 (Int.le_refl 0),cond_true,Int.add_zero]
  have:=this l [] fuel rfl hf
  simpa using this
theorem yPV {α β:Type} (f:α→β): ∀ (l:List α) (s:List β),l.foldl (fun s i=>s++ [f i]) s=s++l.map f
  | [],s=>by simp
  | x::l,s=>by rw [List.foldl_cons,yPV f l]; simp
theorem ysp {α:Type} (l:List α):l.foldl (fun s i=>s++ [i]) []=l:=by
  have:=yPV id l []
  simpa using this
theorem yOS {α:Type} (f:α→Nat) (c:Nat): ∀ l:List α,(l.map (fun x=>c+f x)).sum=c * l.length+(l.map f).sum
  | []=>by simp
  | x::l=>by rw [List.map_cons,List.sum_cons,yOS f c l,List.map_cons,List.sum_cons,List.length_cons,Nat.mul_add]; omega
theorem ySi {α:Type} {u:α→Int→Int} {m:α→Nat} {l:List α} {k:Int} (hu: ∀ x∈l,∀ k,0≤k→k≤1048576→0≤u x k→(m x:Int)≤k∧u x k≤k - m x) (h0:0≤k) (h1:k≤1048576) (hl:l.length≤17592186044416)
    (h:0≤(bif ltb (IntKind.i64.wrap (k - (l.length:Int))) 0 then (-1) else (szG u l (IntKind.i64.wrap (k - (l.length:Int)))).getD (-1))) :
    ((l.length+(l.map m).sum:Nat):Int)≤k - (bif ltb (IntKind.i64.wrap (k - (l.length:Int))) 0 then (-1) else (szG u l (IntKind.i64.wrap (k - (l.length:Int)))).getD (-1))∧(bif ltb (IntKind.i64.wrap (k - (l.length:Int))) 0 then (-1) else (szG u l (IntKind.i64.wrap (k - (l.length:Int)))).getD (-1))≤k:=by
  rw [wr (show -9223372036854775808≤k - (l.length:Int) by omega) (by omega)] at h ⊢
  by_cases h2:k - (l.length:Int) < 0
  · rw [zjI h2]at h; exact absurd (show (0:Int)≤ -1 from h) (by omega)
  · rw [zkm (Int.not_lt.1 h2),cond_false]at h ⊢
    cases hg:szG u l (k - (l.length:Int)) with
    | none=>rw [hg]at h; exact absurd (show (0:Int)≤ -1 from h) (by omega)
    | some r =>
      have:=zke hu (by omega) (by omega) hg
      rw [Option.getD_some]
      omega
def yqv (m:dM):Nat:=(m.1.map (fun x:List Int=>x.length)).sum+(m.2.1.map (fun x:dW=>1+x.2.length)).sum+1+m.2.2.2.length
def ynt (l:List dM):Nat:=(l.map yqv).sum
def yJl (l:List dW):Nat:=(l.map (fun x:dW=>1+x.2.length)).sum
def yfU (a:dA):Nat:=ynt a.2.2.1+yJl a.2.2.2.2.2.2.2.2.1
abbrev yh:dM:=([],[],false,[])
def isW (x:Int):Bool:=leb 0 x&&leb x 65535
def ybc (s:List Int):Bool:=leb (s.length:Int) 12&&s.all isW
theorem yYK {x:Int}:isW x=true↔0≤x∧x≤65535:=by simp [isW,zjQ]
theorem yDF {s:List Int}:ybc s=true↔s.length≤12∧ ∀ x∈s,0≤x∧x≤65535:=by
  simp only [ybc,Bool.and_eq_true,zjQ,List.all_eq_true,yYK]
  constructor
  · rintro ⟨h1,h2⟩; exact ⟨by omega,h2⟩
  · rintro ⟨h1,h2⟩; exact ⟨by omega,h2⟩
theorem yXH: ∀ {l:List Int},l.Pairwise (· < ·)↔ ∀ i,i+1 < l.length→l.getD i 0 < l.getD (i+1) 0
  | []=>by simp
  | [x]=>by simp
  | x::y::l=>by
    have ih:=yXH (l:=y::l)
    constructor
    · intro h i hi
      cases h with
      | cons h1 h2 =>
        cases i with
        | zero=>exact h1 y List.mem_cons_self
        | succ i=>exact ih.1 h2 i (by simpa using hi)
    · intro h
      have h2:(y::l).Pairwise (· < ·):=ih.2 fun i hi=>h (i+1) (by simpa using hi)
      refine .cons (fun z hz=> ?_) h2
      have h3:x < y:=h 0 (by simp)
      rcases List.mem_cons.1 hz with rfl | hz
      · exact h3
      · cases h2 with
        | cons h4 _=>exact Int.lt_trans h3 (h4 z hz)
def yt7 (n:Nat) (l:List Int):Bool:=l.all (fun x=>inb x n)&&decide (l.Pairwise (· < ·))
def yv2 (n:Nat) (w:dW):Bool:=inb w.1 n&&ybc w.2
def yo (m:dM):Bool:=m.1.all ybc&&m.2.1.all (yv2 m.1.length)&&yt7 m.1.length m.2.2.2&&leb 1 (m.1.length:Int)&&leb (m.1.length:Int) 20&&leb (m.2.1.length:Int) 60
def yCV (n:Nat) (l:List Int) (i:Nat):Bool:= !(inb (l.getD i 0) n)||(decide (0 < i)&&leb (l.getD i 0) (l.getD (i - 1) 0))
theorem yUL (n:Nat) (l:List Int):(List.range l.length).any (yCV n l)= !(yt7 n l):=by
  rw [Bool.eq_iff_iff,List.any_eq_true,Bool.not_eq_true',yt7,Bool.and_eq_false_iff,decide_eq_false_iff_not,yXH,List.all_eq_false]
  simp only [List.mem_range,yCV,Bool.or_eq_true,Bool.not_eq_true',Bool.and_eq_true,decide_eq_true_eq,zjQ]
  constructor
  · rintro ⟨i,hi,h | ⟨h1,h2⟩⟩
    · exact .inl ⟨l[i],List.getElem_mem hi,by rw [zcq hi]at h; simp [h]⟩
    · refine .inr fun h3=> ?_
      have:=h3 (i - 1) (by omega)
      rw [show i - 1+1=i by omega]at this
      omega
  · rintro (⟨x,hx,h⟩ | h)
    · obtain ⟨i,hi,rfl⟩:=List.getElem_of_mem hx
      exact ⟨i,hi,.inl (by rw [zcq hi]; simpa using h)⟩
    · refine Classical.byContradiction fun hc=>h fun i hi=> ?_
      refine Classical.byContradiction fun h4=>hc ⟨i+1,hi,.inr ⟨by omega,?_⟩⟩
      rw [Nat.add_sub_cancel]; omega
def yEX (n:Int) (c:List dW) (s:List Int):List Int:=c.foldl (fun s w=>bif w.1==n then w.2 else s) s
def yJj (m:dM) (n:Int):Bool:=yo m&&(!m.2.2.1&&(inb n m.1.length&& !(m.2.2.2.any (· ==n))))
def yv (m:dM) (n:Int):List Int×Bool:=bif yJj m n then (yEX n m.2.1 (nth m.1 n []),true) else ([],false)
theorem yQG {P:List Int→Prop} {n:Int}: ∀ {c:List dW} {s:List Int},P s→(∀ w∈c,P w.2)→P (yEX n c s)
  | [],_,h,_=>h
  | w::c,s,h,hc=>yQG (c:=c) (zkM (hc w List.mem_cons_self) h) (fun x hx=>hc x (List.mem_cons_of_mem _ hx))
theorem yXM {α:Type} {P:α→Prop} {l:List α} {i:Int} {d:α} (h:inb i l.length=true) (hl: ∀ x∈l,P x):P (nth l i d):=by
  obtain ⟨h1,h2⟩:=zjP.1 h
  unfold nth
  rw [zcq (show i.toNat < l.length by omega)]
  exact hl _ (List.getElem_mem _)
theorem yXK {α:Type} {p:α→Bool} {l:List α} (h:leb 0 (yr p l)=false):yr p l= -1:=by
  unfold yr at h ⊢
  cases ha:l.any p
  · rfl
  · rw [ha,cond_true,zk0 (show (0:Int)≤((l.takeWhile (fun x=> !p x)).length:Int) by omega)] at h; cases h
theorem yUO {α:Type} {p:α→Bool}: ∀ {l:List α},leb 0 (yr p l)=true→(l.take ((yr p l).toNat+1)).filter (fun x=> !p x)=l.take (yr p l).toNat
  | [],h=>by rw [yUN]at h; cases h
  | x::l,h=>by
    rw [yFg]at h ⊢
    cases hx:p x
    · rw [hx]at h
      cases hl:leb 0 (yr p l)
      · rw [hl]at h; cases h
      · have h4:=zjQ.1 hl
        simp only [cond_false,cond_true]
        rw [show (yr p l+1).toNat=(yr p l).toNat+1 by omega,List.take_succ_cons,List.take_succ_cons,List.filter_cons,hx,yUO hl]; rfl
    · simp only [cond_true]
      show List.filter (fun x=> !p x) [x]= []
      rw [List.filter_cons,hx]; rfl
theorem yYj {α:Type} {p:α→Bool} {l:List α} (h:leb 0 (yr p l)=false):l.filter (fun x=> !p x)=l:=by
  rw [List.filter_eq_self]
  intro x hx
  unfold yr at h
  cases ha:l.any p
  · have:=List.any_eq_false.1 ha x hx
    simpa using this
  · rw [ha,cond_true,zk0 (show (0:Int)≤((l.takeWhile (fun x=> !p x)).length:Int) by omega)] at h; cases h
def yuf (s:Int):Int:=bif leb 0 s&&leb s 1099511627776 then s+6 else -1
def yjV (a:dA) (m s:Int):Bool:=inb m a.2.2.1.length&&(!(nth a.2.2.1 m yh).2.2.1&&(m !=a.2.2.2.1||ltb s a.2.2.2.2.1))
def yUJ (a:dA) (m s:Int):List Int×Bool:=yv (nth a.2.2.1 m yh) (yuf s)
def yX7 (a:dA) (m s:Int):Bool:=yjV a m s&&((yUJ a m s).2&&((yUJ a m s).1.length:Int)==1)
def yZr (a:dA) (m s:Int):Int:=bif yX7 a m s then nth (yUJ a m s).1 0 0 else 0
def xw (a b:Int):Int:=IntKind.i64.wrap ((BitVec.ofInt IntKind.i64.bits a ^^^ BitVec.ofInt IntKind.i64.bits b).toNat:Int)
def ynV (l:List Int):Int:=l.foldl xw 0
def yX8 (a:dA) (s:Int):Bool:=(List.range a.2.2.1.length).all (fun (i:Nat)=>yX7 a i s)
def yYz (a:dA) (s:Int):Int×Bool:=bif yX8 a s then (ynV ((List.range a.2.2.1.length).map (fun (i:Nat)=>yZr a i s)),true) else (0,false)
def yZv (a:dA):Bool:=(List.range (min a.2.1.2.toNat 20)).all (fun (s:Nat)=> !((yYz a s).2&&(yYz a s).1 !=0))
abbrev ynw:dA:=(0,(0,0),[],0,0,0,0,0,[],0,false,false)
def yYt (k:Int) (i:Nat):Bool:=IntKind.i64.wrap ((BitVec.ofInt IntKind.i64.bits (k.fdiv (2 ^ (min (i:Int).toNat IntKind.i64.bits))) &&& BitVec.ofInt IntKind.i64.bits 1).toNat:Int)==1
def yXZ (k:Int):Int:=bif leb 0 k&&leb k 1048575 then k else 0
def ye5 (b:Nat→Bool) (c:List dW) (l:List (List Int)) (i:Nat):List (List Int):=bif b i then l.set (nth c i (0,[])).1.toNat (nth c i (0,[])).2 else l
def ydz (b:Nat→Bool) (c:List dW) (l:List (List Int)):List (List Int):=(List.range c.length).foldl (ye5 b c) l
def yJk (m:dM) (k:Int):dM:=bif yo m then (ydz (fun i=>decide (i < 20)&&yYt (yXZ k) i) m.2.1 m.1,[],m.2.2.1,m.2.2.2) else m
def yW8 (ks:List Int) (i:Nat):Int:=bif decide (i < ks.length) then nth ks i 0 else 0
def ypM (l:List dM) (ks:List Int):List dM:=(List.range l.length).map (fun (i:Nat)=>yJk (nth l i yh) (yW8 ks i))
theorem yfe {m:dM} (h:yo m=true):m.1.all ybc=true∧m.2.1.all (yv2 m.1.length)=true∧yt7 m.1.length m.2.2.2=true∧1≤m.1.length∧m.1.length≤20∧m.2.1.length≤60:=by
  simp only [yo,Bool.and_eq_true,zjQ]at h
  exact ⟨h.1.1.1.1.1,h.1.1.1.1.2,h.1.1.1.2,by omega,by omega,by omega⟩
theorem yXa {m:dM} (h:yo m=true) {i:Nat} (hi:i < m.2.1.length):inb (nth m.2.1 i (0,[])).1 m.1.length=true∧ybc (nth m.2.1 i (0,[])).2=true:=by
  have h1:=List.all_eq_true.1 (yfe h).2.1 m.2.1[i] (List.getElem_mem hi)
  rw [zjW,zcq hi]
  exact Bool.and_eq_true_iff.1 h1
theorem yFh {b:Nat→Bool} {c:List dW} {l:List (List Int)} {i:Nat}:(ye5 b c l i).length=l.length:=by
  unfold ye5; cases b i
  · rfl
  · exact List.length_set
theorem yPU {α β:Type} (P:β→Prop) (f:β→α→β) (h: ∀ s x,P s→P (f s x)): ∀ (l:List α) (s:β),P s→P (l.foldl f s)
  | [],_,hs=>hs
  | x::l,s,hs=>yPU P f h l (f s x) (h s x hs)
theorem yq9 {b:Nat→Bool} {c:List dW} {l:List (List Int)}:(ydz b c l).length=l.length :=
  yPU (fun x=>x.length=l.length) _ (fun s x hs=>by rw [yFh]; exact hs) _ l rfl
theorem yY1 (b:Nat→Bool) (c:List dW) (l:List (List Int)):ydz (fun i=>decide (i < 20)&&b i) c l=(List.range (min c.length 20)).foldl (ye5 b c) l:=by
  have h1: ∀ n,n≤20→ ∀ l,(List.range n).foldl (ye5 (fun i=>decide (i < 20)&&b i) c) l=(List.range n).foldl (ye5 b c) l:=by
    intro n
    induction n with
    | zero=>intro _ _; rfl
    | succ n ih =>
      intro hn l
      rw [List.range_succ,List.foldl_append,List.foldl_append,ih (by omega)]
      simp only [List.foldl_cons,List.foldl_nil,ye5,show decide (n < 20)=true from decide_eq_true (by omega),Bool.true_and]
  have h2: ∀ n,20≤n→ ∀ l,(List.range n).foldl (ye5 (fun i=>decide (i < 20)&&b i) c) l=(List.range 20).foldl (ye5 b c) l:=by
    intro n
    induction n with
    | zero=>intro h; omega
    | succ n ih =>
      intro hn l
      by_cases h:20≤n
      · rw [List.range_succ,List.foldl_append,ih h]
        simp only [List.foldl_cons,List.foldl_nil,ye5,show decide (n < 20)=false from decide_eq_false (by omega),Bool.false_and,cond_false]
      · rw [h1 (n+1) (by omega),show n+1=20 by omega]
  unfold ydz
  by_cases h:c.length≤20
  · rw [h1 _ h,Nat.min_eq_left h]
  · rw [h2 _ (by omega),Nat.min_eq_right (by omega)]
theorem ySg {l:List (List Int)} {b:Nat} (h:l.length≤20) (hs: ∀ x∈l,x.length≤b):(l.map (fun x:List Int=>x.length)).sum≤20 * b:=by
  have:=zi5 (f:=fun x:List Int=>x.length) hs
  exact Nat.le_trans this (Nat.mul_le_mul_right _ h)
theorem yLL {P:List Int→Prop} {b:Nat→Bool} {c:List dW} {l:List (List Int)} (hl: ∀ x∈l,P x) (hc: ∀ w∈c,P w.2): ∀ x∈ydz b c l,P x:=by
  have: ∀ (n:Nat),n≤c.length→ ∀ x∈(List.range n).foldl (ye5 b c) l,P x:=by
    intro n
    induction n with
    | zero=>intro _; exact hl
    | succ n ih =>
      intro hn x hx
      rw [List.range_succ,List.foldl_append,List.foldl_cons,List.foldl_nil,ye5]at hx
      cases hb:b n
      · rw [hb]at hx; exact ih (by omega) x hx
      · rw [hb,cond_true]at hx
        rcases List.mem_or_eq_of_mem_set hx with h | h
        · exact ih (by omega) x h
        · rw [h,zjW,zcq (show n < c.length by omega)]
          exact hc _ (List.getElem_mem _)
  exact this _ (Nat.le_refl _)
theorem yXP (m:dM) (k:Int):yqv (yJk m k)≤yqv m+240:=by
  unfold yJk
  cases hm:yo m
  · exact Nat.le_add_right _ _
  · obtain ⟨h1,h2,_,_,h3,_⟩:=yfe hm
    have hs: ∀ x∈ydz (fun i=>decide (i < 20)&&yYt (yXZ k) i) m.2.1 m.1,x.length≤12 :=
      yLL (P:=fun x=>x.length≤12) (fun x hx=>(yDF.1 (List.all_eq_true.1 h1 x hx)).1) (fun w hw=>(yDF.1 (Bool.and_eq_true_iff.1 (List.all_eq_true.1 h2 w hw)).2).1)
    have:=ySg (b:=12) (by rw [yq9]; exact h3) hs
    unfold yqv
    simp only [cond_true,List.map_nil,List.sum_nil]
    omega
theorem yYO (l:List dM) (ks:List Int):ynt (ypM l ks)≤ynt l+240 * l.length:=by
  have: ∀ n,n≤l.length→(((List.range n).map (fun (i:Nat)=>yJk (nth l i yh) (yW8 ks i))).map yqv).sum≤((l.take n).map yqv).sum+240 * n:=by
    intro n
    induction n with
    | zero=>intro _; simp
    | succ n ih =>
      intro hn
      rw [List.range_succ,List.map_append,List.map_append,List.sum_append,← List.take_append_getElem (show n < l.length by omega),List.map_append,List.sum_append]
      have:=ih (by omega)
      have h2:=yXP (nth l n yh) (yW8 ks n)
      rw [zjW,zcq (show n < l.length by omega)] at h2
      simp only [List.map_cons,List.map_nil,List.sum_cons,List.sum_nil]
      rw [zjW l n,zcq (show n < l.length by omega)]
      omega
  have h:=this l.length (Nat.le_refl _)
  rw [List.take_length]at h
  exact h
def yvA (m:dM) (n:Int) (s:List Int):Bool:=yo m&&(!m.2.2.1&&(inb n m.1.length&&(ybc s&&ltb (m.2.1.length:Int) 60)))
def yUI (l:List Int) (n:Int):List Int:=l.filter (· !=n)
def yip (m:dM) (n:Int) (s:List Int):dM×Bool:=bif yvA m n s then ((m.1,m.2.1++ [(n,s)],m.2.2.1,yUI m.2.2.2 n),true) else (m,false)
def yfT (m:dM):dM:=bif yo m&& !m.2.2.1 then (ydz (fun _=>true) m.2.1 m.1,[],m.2.2.1,m.2.2.2) else m
def yYH (m:dM):dM:=(m.1,[],true,m.2.2.2)
end
section
def yjq:Code:=(Tryz.f183.body).getD .skip
def ypj:Env:=zki TT [(185,yh0)] []
theorem yKh:FrOk Tryz.prog ⟨ypj,27,fun _=>none⟩ yjq:=zkp yb yc ⟨ypV,trivial⟩
def yAe:Nat→Option Seg:=fun _=>none
def ycO:Shape:=⟨[(0,false,[.br tL]),(1,false,[.int .i64]),(5,false,[.int .i64])],[],[]⟩
def yiC:Shape:=⟨[(0,false,[.br tL]),(1,false,[.int .i64]),(5,false,[.ci .i64 0])],[],[]⟩
def yiv:Shape:=⟨[(1,false,[.int .i64])],[],[]⟩
def yiQ:Shape:=⟨[(4,false,[.int .i64])],[],[]⟩
def yo3 (v0:List (List Int)) (v1:Int) (v2:Int):Option ((ycO).X ⊕ ((yiv).X ⊕ (yiQ).X)) :=
  bif (ltb v2 (v0.length:Int)) then
    bif (inb v2 v0.length) then
      let r2:=yk (nth v0 v2 []) v1
      bif (ltb r2 0) then
        some (.inr (.inr ((((-1),()),()),(),())))
      else
        some (.inl (((v0,()),(r2,()),((IntKind.i64.wrap (v2+1)),()),()),(),()))
    else none
  else
    some (.inr (.inl (((v1,()),()),(),())))
def ybp (x:(ycO).X):=yo3 x.1.1.1 x.1.2.1.1 x.1.2.2.1.1
def ywM (x:(yiC).X):(ycO).X:=(((x.1.1.1,()),(x.1.2.1.1,()),(0,()),()),(),())
def yyy:Code:=(zdI yjq 64 244).getD .skip
theorem yJH:zdI yjq 64 61=some (.block 0 (.loop yyy)):=by kernel_rfl
theorem yLr (x:(ycO).X):zg7 ⟨ypj,27,yAe⟩ 0 yyy 244 ycO yiv yiQ x=ybp x:=by kernel_rfl
def yw5 (x:(yiC).X):Nat:=(fun (u0:List (List Int)) (u1:Int)=>18446744073709551616) x.1.1.1 x.1.2.1.1
def yqm (x:(yiC).X):Option ((yiv).X ⊕ (yiQ).X):=zr ybp (yw5 x) (ywM x)
def yxv:Seg:=⟨yiC,yiv,yiQ,yqm⟩
def yAf:Nat→Option Seg:=fun q=>bif Nat.beq q 61 then some yxv else yAe q
theorem yKi:FrOk Tryz.prog ⟨ypj,27,yAf⟩ yjq:=(yKh).loop (sg:=yxv) ycO ywM (by decide) yJH ybp yw5 (by decide) (fun _=>rfl) (fun x r _ h=>h) yLr
abbrev yfo:List Par:= [.rd tLL,.rd tI]
abbrev ypB:List OT:= [⟨false,tI,.fz⟩]
def ylh (a0:List (List Int)) (a1:Int):Option (ResD ypB×MutD yfo) :=
  bif (ltb (IntKind.i64.wrap (a1 - (a0.length:Int))) 0) then
    some (((-1),()),())
  else
    zjw (yqm (((a0,()),((IntKind.i64.wrap (a1 - (a0.length:Int))),()),((),()),()),(),())) (fun y2 =>
      some ((y2.1.1.1,()),())) (fun y2 =>
      some ((y2.1.1.1,()),()))
theorem ySS (x:InD yfo):zjH ⟨ypj,27,yAf⟩ Tryz.f183.results.toList yjq yfo ypB x=ylh x.1 x.2.1:=by kernel_rfl
theorem yOa:ConOk Tryz.prog 183 ⟨yfo,ypB,fun x=>ylh x.1 x.2.1⟩:=zkh (yKi) Tryz.func183 (by kernel_rfl) (by kernel_rfl) Tryz.ntmps183.symm (by decide) (fun x r h=>(ySS x).trans h)
def yN (a0:List (List Int)) (a1:Int):Int:=bif ltb (IntKind.i64.wrap (a1 - (a0.length:Int))) 0 then (-1) else (szG yk a0 (IntKind.i64.wrap (a1 - (a0.length:Int)))).getD (-1)
theorem yQV (a0:List (List Int)) (a1:Int) (hk:zi9 yfo (a0,a1,())):ylh a0 a1=(fun n=>some ((n,()),())) (yN a0 a1):=by
  have hb:a0.length * 24≤2 ^ 47:=hk.1.1
  have hl: ∀ k:Int,yqm (((a0,()),(k,()),((),()),()),(),())=some (match szG yk a0 k with | some r=> .inl (((r,()),()),(),()) | none=> .inr ((((-1),()),()),(),())):=fun k =>
    zkG (step:=ybp) a0 ([]:List Int) (fun i k=>(((a0,()),(k,()),((i:Int),()),()),(),())) yk (fun r=> .inl (((r,()),()),(),())) (.inr ((((-1),()),()),(),())) (fun i s hi=>by
      simp only [ybp,yo3,zkO hi,zjW,Int.toNat_natCast,zjI (show (i:Int) < a0.length by omega),cond_true,wr (show -9223372036854775808≤(i:Int)+1 by omega) (by omega),Int.natCast_add,Int.natCast_one,zkV]
      cases ltb (yk (a0.getD i []) s) 0<;>rfl) (fun s=>by simp only [ybp,yo3,zkm (Int.le_refl _),cond_false]) k _ (by show _ < 18446744073709551616; omega)
  unfold ylh yN
  rw [hl]
  cases ltb (IntKind.i64.wrap (a1 - (a0.length:Int))) 0
  · cases szG yk a0 (IntKind.i64.wrap (a1 - (a0.length:Int)))<;>rfl
  · rfl
def yAV:Con:=⟨yfo,ypB,fun x=>(fun n=>some ((n,()),())) (yN x.1 x.2.1)⟩
theorem yRQ:ConOk Tryz.prog 183 yAV:=(yOa).mono (fun x r hk h=>(yQV x.1 x.2.1 hk).trans h)
end
section
def yLA:Code:=(Tryz.f236.body).getD .skip
def yLF:Env:=zki TT [(185,yh0)] []
theorem yS3:FrOk Tryz.prog ⟨yLF,12,fun _=>none⟩ yLA:=zkp yb yc ⟨ypV,trivial⟩
def yUX:Nat→Option Seg:=fun _=>none
abbrev yq1:List Par:= [.rd tW,.rd tI]
abbrev yv4:List OT:= [⟨false,tI,.fz⟩]
def yxP (a0:dW) (a1:Int):Option (ResD yv4×MutD yq1) :=
  let r1:=yk a0.2 a1
  bif (ltb r1 0) then
    some (((-1),()),())
  else
    some ((r1,()),())
theorem yXx (x:InD yq1):zjH ⟨yLF,12,yUX⟩ Tryz.f236.results.toList yLA yq1 yv4 x=yxP x.1 x.2.1:=by kernel_rfl
theorem yV9:ConOk Tryz.prog 236 ⟨yq1,yv4,fun x=>yxP x.1 x.2.1⟩:=zkh (yS3) Tryz.func236 (by kernel_rfl) (by kernel_rfl) Tryz.ntmps236.symm (by decide) (fun x r h=>(yXx x).trans h)
def ydG (a0:dW) (a1:Int):Int :=
  let r1:=yk a0.2 a1
  bif (ltb r1 0) then
    (-1)
  else
    r1
def yGb:Con:=⟨yq1,yv4,fun x=>(fun n=>some ((n,()),())) (ydG x.1 x.2.1)⟩
theorem yXf (a0:dW) (a1:Int):yxP a0 a1=(fun n=>some ((n,()),())) (ydG a0 a1):=zkS (p:=fun (n:Int)=>((n,()),())) (zkx (p:=fun (n:Int)=>((n,()),())) rfl rfl)
theorem yXk:ConOk Tryz.prog 236 yGb:=(yV9).mono (fun x r _ h=>(yXf x.1 x.2.1).trans h)
end
section
def ynZ:Code:=(Tryz.f184.body).getD .skip
def ytl:Env:=zki TT [(236,yGb)] []
theorem yQg:FrOk Tryz.prog ⟨ytl,27,fun _=>none⟩ ynZ:=zkp yb yc ⟨yXk,trivial⟩
def yEa:Nat→Option Seg:=fun _=>none
def yei:Shape:=⟨[(0,false,[.br tW]),(1,false,[.int .i64]),(5,false,[.int .i64])],[],[]⟩
def ymV:Shape:=⟨[(0,false,[.br tW]),(1,false,[.int .i64]),(5,false,[.ci .i64 0])],[],[]⟩
def ymS:Shape:=⟨[(1,false,[.int .i64])],[],[]⟩
def ynh:Shape:=⟨[(4,false,[.int .i64])],[],[]⟩
def ysS (v0:List dW) (v1:Int) (v2:Int):Option ((yei).X ⊕ ((ymS).X ⊕ (ynh).X)) :=
  bif (ltb v2 (v0.length:Int)) then
    bif (inb v2 v0.length) then
      let r2:=ydG (nth v0 v2 (0,[])) v1
      bif (ltb r2 0) then
        some (.inr (.inr ((((-1),()),()),(),())))
      else
        some (.inl (((v0,()),(r2,()),((IntKind.i64.wrap (v2+1)),()),()),(),()))
    else none
  else
    some (.inr (.inl (((v1,()),()),(),())))
def ycY (x:(yei).X):=ysS x.1.1.1 x.1.2.1.1 x.1.2.2.1.1
def yA8 (x:(ymV).X):(yei).X:=(((x.1.1.1,()),(x.1.2.1.1,()),(0,()),()),(),())
def yC2:Code:=(zdI ynZ 64 244).getD .skip
theorem yPl:zdI ynZ 64 61=some (.block 0 (.loop yC2)):=by kernel_rfl
theorem yR7 (x:(yei).X):zg7 ⟨ytl,27,yEa⟩ 0 yC2 244 yei ymS ynh x=ycY x:=by kernel_rfl
def yBp (x:(ymV).X):Nat:=(fun (u0:List dW) (u1:Int)=>18446744073709551616) x.1.1.1 x.1.2.1.1
def ytw (x:(ymV).X):Option ((ymS).X ⊕ (ynh).X):=zr ycY (yBp x) (yA8 x)
def yBS:Seg:=⟨ymV,ymS,ynh,ytw⟩
def yEb:Nat→Option Seg:=fun q=>bif Nat.beq q 61 then some yBS else yEa q
theorem yQh:FrOk Tryz.prog ⟨ytl,27,yEb⟩ ynZ:=(yQg).loop (sg:=yBS) yei yA8 (by decide) yPl ycY yBp (by decide) (fun _=>rfl) (fun x r _ h=>h) yR7
abbrev yjG:List Par:= [.rd tWs,.rd tI]
abbrev ytT:List OT:= [⟨false,tI,.fz⟩]
def yp3 (a0:List dW) (a1:Int):Option (ResD ytT×MutD yjG) :=
  bif (ltb (IntKind.i64.wrap (a1 - (a0.length:Int))) 0) then
    some (((-1),()),())
  else
    zjw (ytw (((a0,()),((IntKind.i64.wrap (a1 - (a0.length:Int))),()),((),()),()),(),())) (fun y2 =>
      some ((y2.1.1.1,()),())) (fun y2 =>
      some ((y2.1.1.1,()),()))
theorem yWR (x:InD yjG):zjH ⟨ytl,27,yEb⟩ Tryz.f184.results.toList ynZ yjG ytT x=yp3 x.1 x.2.1:=by kernel_rfl
theorem yT0:ConOk Tryz.prog 184 ⟨yjG,ytT,fun x=>yp3 x.1 x.2.1⟩:=zkh (yQh) Tryz.func184 (by kernel_rfl) (by kernel_rfl) Tryz.ntmps184.symm (by decide) (fun x r h=>(yWR x).trans h)
def yby (a0:List (dW)) (a1:Int):Int:=bif ltb (IntKind.i64.wrap (a1 - (a0.length:Int))) 0 then (-1) else (szG ydG a0 (IntKind.i64.wrap (a1 - (a0.length:Int)))).getD (-1)
theorem yVT (a0:List (dW)) (a1:Int) (hk:zi9 yjG (a0,a1,())):yp3 a0 a1=(fun n=>some ((n,()),())) (yby a0 a1):=by
  have hb:a0.length * 32≤2 ^ 47:=hk.1.1
  have hl: ∀ k:Int,ytw (((a0,()),(k,()),((),()),()),(),())=some (match szG ydG a0 k with | some r=> .inl (((r,()),()),(),()) | none=> .inr ((((-1),()),()),(),())):=fun k =>
    zkG (step:=ycY) a0 ((0,[]):dW) (fun i k=>(((a0,()),(k,()),((i:Int),()),()),(),())) ydG (fun r=> .inl (((r,()),()),(),())) (.inr ((((-1),()),()),(),())) (fun i s hi=>by
      simp only [ycY,ysS,zkO hi,zjW,Int.toNat_natCast,zjI (show (i:Int) < a0.length by omega),cond_true,wr (show -9223372036854775808≤(i:Int)+1 by omega) (by omega),Int.natCast_add,Int.natCast_one,zkV]
      cases ltb (ydG (a0.getD i (0,[])) s) 0<;>rfl) (fun s=>by simp only [ycY,ysS,zkm (Int.le_refl _),cond_false]) k _ (by show _ < 18446744073709551616; omega)
  unfold yp3 yby
  rw [hl]
  cases ltb (IntKind.i64.wrap (a1 - (a0.length:Int))) 0
  · cases szG ydG a0 (IntKind.i64.wrap (a1 - (a0.length:Int)))<;>rfl
  · rfl
def yEE:Con:=⟨yjG,ytT,fun x=>(fun n=>some ((n,()),())) (yby x.1 x.2.1)⟩
theorem yWn:ConOk Tryz.prog 184 yEE:=(yT0).mono (fun x r hk h=>(yVT x.1 x.2.1 hk).trans h)
end
section
def yG0:Code:=(Tryz.f108.body).getD .skip
def yHm:Env:=zki TT [(183,yAV),(184,yEE),(185,yh0)] []
theorem yQf:FrOk Tryz.prog ⟨yHm,24,fun _=>none⟩ yG0:=zkp yb yc ⟨yRQ,yWn,ypV,trivial⟩
def ySs:Nat→Option Seg:=fun _=>none
abbrev yor:List Par:= [.rd tM,.rd tI]
abbrev ytS:List OT:= [⟨false,tI,.fz⟩]
def yvU (a0:dM) (a1:Int):Option (ResD ytS×MutD yor) :=
  let r1:=yN a0.1 a1
  bif (ltb r1 0) then
    some (((-1),()),())
  else
    let r2:=yby a0.2.1 r1
    bif (ltb r2 0) then
      some (((-1),()),())
    else
      let r3:=yk a0.2.2.2 r2
      bif (ltb r3 0) then
        some (((-1),()),())
      else
        some ((r3,()),())
theorem yWQ (x:InD yor):zjH ⟨yHm,24,ySs⟩ Tryz.f108.results.toList yG0 yor ytS x=yvU x.1 x.2.1:=by kernel_rfl
theorem yTZ:ConOk Tryz.prog 108 ⟨yor,ytS,fun x=>yvU x.1 x.2.1⟩:=zkh (yQf) Tryz.func108 (by kernel_rfl) (by kernel_rfl) Tryz.ntmps108.symm (by decide) (fun x r h=>(yWQ x).trans h)
def yaA (a0:dM) (a1:Int):Int :=
  let r1:=yN a0.1 a1
  bif (ltb r1 0) then
    (-1)
  else
    let r2:=yby a0.2.1 r1
    bif (ltb r2 0) then
      (-1)
    else
      let r3:=yk a0.2.2.2 r2
      bif (ltb r3 0) then
        (-1)
      else
        r3
def yED:Con:=⟨yor,ytS,fun x=>(fun n=>some ((n,()),())) (yaA x.1 x.2.1)⟩
theorem yVS (a0:dM) (a1:Int):yvU a0 a1=(fun n=>some ((n,()),())) (yaA a0 a1):=zkS (p:=fun (n:Int)=>((n,()),())) (zkx (p:=fun (n:Int)=>((n,()),())) rfl (zkx (p:=fun (n:Int)=>((n,()),())) rfl (zkx (p:=fun (n:Int)=>((n,()),())) rfl rfl)))
theorem yWm:ConOk Tryz.prog 108 yED:=(yTZ).mono (fun x r _ h=>(yVS x.1 x.2.1).trans h)
end
section
def ylw:Code:=(Tryz.f35.body).getD .skip
def yrj:Env:=zki TT [(108,yED)] []
theorem yME:FrOk Tryz.prog ⟨yrj,27,fun _=>none⟩ ylw:=zkp yb yc ⟨yWm,trivial⟩
def yCs:Nat→Option Seg:=fun _=>none
def ydt:Shape:=⟨[(0,false,[.br tM]),(1,false,[.int .i64]),(5,false,[.int .i64])],[],[]⟩
def ykC:Shape:=⟨[(0,false,[.br tM]),(1,false,[.int .i64]),(5,false,[.ci .i64 0])],[],[]⟩
def yku:Shape:=⟨[(1,false,[.int .i64])],[],[]⟩
def ykO:Shape:=⟨[(4,false,[.int .i64])],[],[]⟩
def yqQ (v0:List dM) (v1:Int) (v2:Int):Option ((ydt).X ⊕ ((yku).X ⊕ (ykO).X)) :=
  bif (ltb v2 (v0.length:Int)) then
    bif (inb v2 v0.length) then
      let r2:=yaA ((nth v0 v2 ([],[],false,[])).1,((nth v0 v2 ([],[],false,[])).2).1,(((nth v0 v2 ([],[],false,[])).2).2)) v1
      bif (ltb r2 0) then
        some (.inr (.inr ((((-1),()),()),(),())))
      else
        some (.inl (((v0,()),(r2,()),((IntKind.i64.wrap (v2+1)),()),()),(),()))
    else none
  else
    some (.inr (.inl (((v1,()),()),(),())))
def yb8 (x:(ydt).X):=yqQ x.1.1.1 x.1.2.1.1 x.1.2.2.1.1
def yy1 (x:(ykC).X):(ydt).X:=(((x.1.1.1,()),(x.1.2.1.1,()),(0,()),()),(),())
def yAz:Code:=(zdI ylw 64 244).getD .skip
theorem yLZ:zdI ylw 64 61=some (.block 0 (.loop yAz)):=by kernel_rfl
theorem yOH (x:(ydt).X):zg7 ⟨yrj,27,yCs⟩ 0 yAz 244 ydt yku ykO x=yb8 x:=by kernel_rfl
def yzg (x:(ykC).X):Nat:=(fun (u0:List dM) (u1:Int)=>18446744073709551616) x.1.1.1 x.1.2.1.1
def ysd (x:(ykC).X):Option ((yku).X ⊕ (ykO).X):=zr yb8 (yzg x) (yy1 x)
def yzy:Seg:=⟨ykC,yku,ykO,ysd⟩
def yCt:Nat→Option Seg:=fun q=>bif Nat.beq q 61 then some yzy else yCs q
theorem yMF:FrOk Tryz.prog ⟨yrj,27,yCt⟩ ylw:=(yME).loop (sg:=yzy) ydt yy1 (by decide) yLZ yb8 yzg (by decide) (fun _=>rfl) (fun x r _ h=>h) yOH
abbrev ygs:List Par:= [.rd tMs,.rd tI]
abbrev yrJ:List OT:= [⟨false,tI,.fz⟩]
def ynH (a0:List dM) (a1:Int):Option (ResD yrJ×MutD ygs) :=
  bif (ltb (IntKind.i64.wrap (a1 - (a0.length:Int))) 0) then
    some (((-1),()),())
  else
    zjw (ysd (((a0,()),((IntKind.i64.wrap (a1 - (a0.length:Int))),()),((),()),()),(),())) (fun y2 =>
      some ((y2.1.1.1,()),())) (fun y2 =>
      some ((y2.1.1.1,()),()))
theorem yVj (x:InD ygs):zjH ⟨yrj,27,yCt⟩ Tryz.f35.results.toList ylw ygs yrJ x=ynH x.1 x.2.1:=by kernel_rfl
theorem yRl:ConOk Tryz.prog 35 ⟨ygs,yrJ,fun x=>ynH x.1 x.2.1⟩:=zkh (yMF) Tryz.func35 (by kernel_rfl) (by kernel_rfl) Tryz.ntmps35.symm (by decide) (fun x r h=>(yVj x).trans h)
def yaD (a0:List (dM)) (a1:Int):Int:=bif ltb (IntKind.i64.wrap (a1 - (a0.length:Int))) 0 then (-1) else (szG yaA a0 (IntKind.i64.wrap (a1 - (a0.length:Int)))).getD (-1)
theorem yTt (a0:List (dM)) (a1:Int) (hk:zi9 ygs (a0,a1,())):ynH a0 a1=(fun n=>some ((n,()),())) (yaD a0 a1):=by
  have hb:a0.length * 80≤2 ^ 47:=hk.1.1
  have hl: ∀ k:Int,ysd (((a0,()),(k,()),((),()),()),(),())=some (match szG yaA a0 k with | some r=> .inl (((r,()),()),(),()) | none=> .inr ((((-1),()),()),(),())):=fun k =>
    zkG (step:=yb8) a0 (([],[],false,[]):dM) (fun i k=>(((a0,()),(k,()),((i:Int),()),()),(),())) yaA (fun r=> .inl (((r,()),()),(),())) (.inr ((((-1),()),()),(),())) (fun i s hi=>by
      simp only [yb8,yqQ,zkO hi,zjW,Int.toNat_natCast,zjI (show (i:Int) < a0.length by omega),cond_true,wr (show -9223372036854775808≤(i:Int)+1 by omega) (by omega),Int.natCast_add,Int.natCast_one,zkV]
      cases ltb (yaA (a0.getD i ([],[],false,[])) s) 0<;>rfl) (fun s=>by simp only [yb8,yqQ,zkm (Int.le_refl _),cond_false]) k _ (by show _ < 18446744073709551616; omega)
  unfold ynH yaD
  rw [hl]
  cases ltb (IntKind.i64.wrap (a1 - (a0.length:Int))) 0
  · cases szG yaA a0 (IntKind.i64.wrap (a1 - (a0.length:Int)))<;>rfl
  · rfl
def yDm:Con:=⟨ygs,yrJ,fun x=>(fun n=>some ((n,()),())) (yaD x.1 x.2.1)⟩
theorem yUq:ConOk Tryz.prog 35 yDm:=(yRl).mono (fun x r hk h=>(yTt x.1 x.2.1 hk).trans h)
def mSz (m:dM):Nat:=(m.1.length+(m.1.map (fun x:List Int=>x.length)).sum)+(m.2.1.length+(m.2.1.map (fun x:dW=>x.2.length)).sum)+m.2.2.2.length
theorem yYL (m:dM):yqv m≤1+mSz m:=by
  unfold yqv mSz
  rw [yOS (fun x:dW=>x.2.length) 1]
  omega
theorem yYr {l:List dW} {k:Int} (h0:0≤k) (h1:k≤1048576) (hl:l.length * 32≤2 ^ 47) (hx: ∀ x∈l,x.2.length * 8≤2 ^ 47) (h:0≤yby l k):((l.length+(l.map (fun x:dW=>x.2.length)).sum:Nat):Int)≤k - yby l k∧yby l k≤k :=
  ySi (fun x hm k h0 h1 h=>by
    have:=hx x hm
    unfold ydG at h ⊢
    by_cases h2:yk x.2 k < 0
    · simp only [zjI h2,cond_true]at h; omega
    · simp only [zkm (Int.not_lt.1 h2),cond_false]at h ⊢
      have:=yDH h0 h1 (by omega) h2
      omega) h0 h1 (by omega) h
theorem yXU {l:List (List Int)} {k:Int} (h0:0≤k) (h1:k≤1048576) (hl:l.length * 24≤2 ^ 47) (hx: ∀ x∈l,x.length * 8≤2 ^ 47) (h:0≤yN l k):((l.length+(l.map (fun x:List Int=>x.length)).sum:Nat):Int)≤k - yN l k∧yN l k≤k :=
  ySi (fun x hm k h0 h1 h=>by
    have:=hx x hm
    have:=yDH (a:=x) h0 h1 (by omega) (by omega)
    omega) h0 h1 (by omega) h
theorem yYq {m:dM} {k:Int} (h0:0≤k) (h1:k≤1048576) (hm:tM.Ok m) (h:0≤yaA m k):(mSz m:Int)≤k∧yaA m k≤k - mSz m:=by
  unfold yaA at h ⊢
  by_cases c1:yN m.1 k < 0
  · simp only [zjI c1,cond_true]at h; omega
  simp only [zkm (Int.not_lt.1 c1),cond_false]at h ⊢
  have e1:=yXU h0 h1 hm.1.1 (fun x hx=>(hm.1.2 x hx).1) (Int.not_lt.1 c1)
  by_cases c2:yby m.2.1 (yN m.1 k) < 0
  · simp only [zjI c2,cond_true]at h; omega
  simp only [zkm (Int.not_lt.1 c2),cond_false]at h ⊢
  have e2:=yYr (Int.not_lt.1 c1) (by omega) hm.2.1.1 (fun x hx=>(hm.2.1.2 x hx).2.1) (Int.not_lt.1 c2)
  by_cases c3:yk m.2.2.2 (yby m.2.1 (yN m.1 k)) < 0
  · simp only [zjI c3,cond_true]at h; omega
  simp only [zkm (Int.not_lt.1 c3),cond_false]at h ⊢
  have e3:=yDH (a:=m.2.2.2) (Int.not_lt.1 c2) (by omega) (by have:m.2.2.2.length * 8≤2 ^ 47:=hm.2.2.2.1; omega) c3
  unfold mSz
  omega
theorem yX6 {l:List dM} {k:Int} (h0:0≤k) (h1:k≤1048576) (hm:tMs.Ok l) (h:0≤yaD l k):((l.length+(l.map mSz).sum:Nat):Int)≤k - yaD l k∧yaD l k≤k :=
  ySi (fun x hx k h0 h1 h=>yYq h0 h1 (hm.2 x hx) h) h0 h1 (by have:l.length * 80≤2 ^ 47:=hm.1; omega) h
theorem yYk {l:List dM}:ynt l≤l.length+(l.map mSz).sum:=by
  unfold ynt
  induction l with
  | nil=>simp
  | cons x l ih =>
    simp only [List.map_cons,List.sum_cons,List.length_cons]
    have:=yYL x
    omega
theorem yX0 {α:Type} {f:α→Nat} {x:α}: ∀ {l:List α},x∈l→f x≤(l.map f).sum
  | y::l,h=>by
    rw [List.map_cons,List.sum_cons]
    rcases List.mem_cons.1 h with rfl | h
    · omega
    · have:=yX0 (f:=f) h; omega
end
end
end Go.Tf
