/- Functions of the program, and what they come to. -/
import Derived.Test.YtfpjmijaiekbgaaGreatExactBuildAllTt
namespace Go.Tf
noncomputable section
open Go.Proofs
set_option synthInstance.maxHeartbeats 400000
set_option synthInstance.maxSize 10000
set_option linter.unusedVariables false
set_option linter.unusedSimpArgs false
set_option maxRecDepth 100000
section
def yD6:Code:=(Tryz.f185.body).getD .skip
def yEn:Env:=zki TT [] []
theorem yKM:FrOk Tryz.prog ⟨yEn,12,fun _=>none⟩ yD6:=zkp yb yc trivial
def yM3:Nat→Option Seg:=fun _=>none
abbrev ylg:List Par:= [.rd tL,.rd tI]
abbrev yqR:List OT:= [⟨false,tI,.fz⟩]
def ytw (a0:List Int) (a1:Int):Option (ResD yqR×MutD ylg) :=
  bif (ltb (IntKind.i64.wrap (a1 - (a0.length:Int))) 0) then
    some (((-1),()),())
  else
    some (((IntKind.i64.wrap (a1 - (a0.length:Int))),()),())
theorem ySQ (x:InD ylg):zjH ⟨yEn,12,yM3⟩ Tryz.f185.results.toList yD6 ylg yqR x=ytw x.1 x.2.1:=by kernel_rfl
theorem yPb:ConOk Tryz.prog 185 ⟨ylg,yqR,fun x=>ytw x.1 x.2.1⟩:=zkh (yKM) Tryz.func185 (by kernel_rfl) (by kernel_rfl) Tryz.ntmps185.symm (by decide) (fun x r h=>(ySQ x).trans h)
def yh (a0:List Int) (a1:Int):Int :=
  bif (ltb (IntKind.i64.wrap (a1 - (a0.length:Int))) 0) then
    (-1)
  else
    (IntKind.i64.wrap (a1 - (a0.length:Int)))
def yhN:Con:=⟨ylg,yqR,fun x=>(fun n=>some ((n,()),())) (yh x.1 x.2.1)⟩
theorem yRb (a0:List Int) (a1:Int):ytw a0 a1=(fun n=>some ((n,()),())) (yh a0 a1):=zkS (p:=fun (n:Int)=>((n,()),())) (zkx (p:=fun (n:Int)=>((n,()),())) rfl rfl)
theorem yo7:ConOk Tryz.prog 185 yhN:=(yPb).mono (fun x r _ h=>(yRb x.1 x.2.1).trans h)
theorem yB7 {a:List Int} {k:Int} (hk:0≤k) (hk2:k≤1048576) (ha:a.length≤17592186044416) (h: ¬ yh a k < 0):(a.length:Int)≤k∧yh a k=k - a.length:=by
  unfold yh at h ⊢
  rw [wr (by omega) (by omega)] at h ⊢
  by_cases h1:k - (a.length:Int) < 0
  · rw [zjI h1]at h; exact absurd (show (-1:Int) < 0 by omega) h
  · rw [zkm (Int.not_lt.1 h1)]; exact ⟨by omega,rfl⟩
def yK {α:Type} (p:α→Bool) (l:List α):Int:=bif l.any p then ((l.takeWhile (fun x=> !p x)).length:Int) else -1
theorem ySm {α:Type} (p:α→Bool):yK p []= -1:=rfl
theorem yDH {α:Type} (p:α→Bool) (x:α) (l:List α):yK p (x::l)=bif p x then 0 else bif leb 0 (yK p l) then yK p l+1 else -1:=by
  unfold yK
  rw [List.any_cons,List.takeWhile_cons]
  cases p x
  · cases l.any p
    · rfl
    · simp only [Bool.false_or,Bool.not_false,if_true,cond_true,cond_false,List.length_cons]
      rw [zk0 (show (0:Int)≤((l.takeWhile (fun x=> !p x)).length:Int) by omega),cond_true]; omega
  · simp
theorem yUP {α:Type} {p:α→Bool} {d:α}: ∀ {l:List α},leb 0 (yK p l)=true→inb (yK p l) l.length=true∧p (nth l (yK p l) d)=true
  | [],h=>by rw [ySm]at h; cases h
  | x::l,h=>by
    rw [yDH]at h ⊢
    cases hx:p x
    · rw [hx]at h
      cases hl:leb 0 (yK p l)
      · rw [hl]at h; cases h
      · obtain ⟨h1,h2⟩:=yUP (d:=d) hl
        have h3:=zjP.1 h1
        have h4:=zjQ.1 hl
        simp only [cond_false,cond_true,List.length_cons]
        refine ⟨zjP.2 (by omega),?_⟩
        unfold nth at h2 ⊢
        rw [show (yK p l+1).toNat=(yK p l).toNat+1 by omega,List.getD_cons_succ]
        exact h2
    · simp only [cond_true,List.length_cons]
      refine ⟨zjP.2 (by omega),?_⟩
      exact hx
theorem yVG {A B α:Type} {step:A→Option (A ⊕ B)} (l:List α) (d:α) (f:Nat→A) (p:α→Bool) (b:Int→B) (c:B)
    (h: ∀ i,i < l.length→step (f i)=some (bif p (l.getD i d) then .inr (b i) else .inl (f (i+1)))) (e:step (f l.length)=some (.inr c)) (fuel:Nat) (hf:l.length < fuel) :
    zr step fuel (f 0)=some (bif leb 0 (yK p l) then b (yK p l) else c):=by
  have: ∀ (t q:List α) (fuel:Nat),q++t=l→t.length < fuel→zr step fuel (f q.length)=some (bif leb 0 (yK p t) then b (q.length+yK p t) else c):=by
    intro t
    induction t with
    | nil =>
      intro q fuel hq hf
      obtain ⟨fuel,rfl⟩: ∃ m,fuel=m+1:=⟨fuel - 1,by omega⟩
      rw [List.append_nil]at hq
      subst hq
      simp only [zr,e]; rfl
    | cons x t ih =>
      intro q fuel hq hf
      obtain ⟨fuel,rfl⟩: ∃ m,fuel=m+1:=⟨fuel - 1,by omega⟩
      have hx:l.getD q.length d=x:=by
        subst hq
        rw [zcq (by simp)]; simp
      have hs:=h q.length (by rw [← hq]; simp)
      rw [hx]at hs
      rw [yDH]
      cases hp:p x
      · rw [hp]at hs
        have:=ih (q++ [x]) fuel (by rw [← hq]; simp) (by simp at hf; omega)
        simp only [List.length_append,List.length_cons,List.length_nil]at this
        simp only [zr,hs,cond_false]
        rw [show q.length+1=q.length+(0+1) by omega,this]
        cases hl:leb 0 (yK p t)
        · rfl
        · have:=zjQ.1 hl
          rw [cond_true,cond_true,zk0 (show 0≤yK p t+1 by omega),cond_true]
          congr 2; omega
      · rw [hp]at hs
        simp only [zr,hs,cond_true]
        rw [zk0 (Int.le_refl 0),cond_true,Int.add_zero]
  have:=this l [] fuel rfl hf
  simpa using this
theorem yNL {α β:Type} (f:α→β): ∀ (l:List α) (s:List β),l.foldl (fun s i=>s++ [f i]) s=s++l.map f
  | [],s=>by simp
  | x::l,s=>by rw [List.foldl_cons,yNL f l]; simp
theorem yrv {α:Type} (l:List α):l.foldl (fun s i=>s++ [i]) []=l:=by
  have:=yNL id l []
  simpa using this
theorem yVT {α:Type} (l:List α) (d:α) {i:Nat} (h:i < l.length):l.take i++ [nth l i d]=l.take (i+1):=by rw [zjW,zcq h,List.take_append_getElem h]
theorem yMQ {α:Type} (f:α→Nat) (c:Nat): ∀ l:List α,(l.map (fun x=>c+f x)).sum=c * l.length+(l.map f).sum
  | []=>by simp
  | x::l=>by rw [List.map_cons,List.sum_cons,yMQ f c l,List.map_cons,List.sum_cons,List.length_cons,Nat.mul_add]; omega
theorem yP1 {α:Type} {u:α→Int→Int} {m:α→Nat} {l:List α} {k:Int} (hu: ∀ x∈l,∀ k,0≤k→k≤1048576→0≤u x k→(m x:Int)≤k∧u x k≤k - m x) (h0:0≤k) (h1:k≤1048576) (hl:l.length≤17592186044416)
    (h:0≤(bif ltb (IntKind.i64.wrap (k - (l.length:Int))) 0 then (-1) else (szG u l (IntKind.i64.wrap (k - (l.length:Int)))).getD (-1))) :
    ((l.length+(l.map m).sum:Nat):Int)≤k - (bif ltb (IntKind.i64.wrap (k - (l.length:Int))) 0 then (-1) else (szG u l (IntKind.i64.wrap (k - (l.length:Int)))).getD (-1))∧(bif ltb (IntKind.i64.wrap (k - (l.length:Int))) 0 then (-1) else (szG u l (IntKind.i64.wrap (k - (l.length:Int)))).getD (-1))≤k:=by
  rw [wr (show -9223372036854775808≤k - (l.length:Int) by omega) (by omega)] at h ⊢
  by_cases h2:k - (l.length:Int) < 0
  · rw [zjI h2]at h; exact absurd (show (0:Int)≤ -1 from h) (by omega)
  · rw [zkm (Int.not_lt.1 h2),cond_false]at h ⊢
    cases hg:szG u l (k - (l.length:Int)) with
    | none=>rw [hg]at h; exact absurd (show (0:Int)≤ -1 from h) (by omega)
    | some r =>
      have:=zke hu (by omega) (by omega) hg
      rw [Option.getD_some]
      omega
def ypG (m:dM):Nat:=(m.1.map (fun x:List Int=>x.length)).sum+(m.2.1.map (fun x:dW=>1+x.2.length)).sum+1+m.2.2.2.length
def ymL (l:List dM):Nat:=(l.map ypG).sum
def yHD (l:List dW):Nat:=(l.map (fun x:dW=>1+x.2.length)).sum
def ygd (a:dA):Nat:=ymL a.2.2.1+yHD a.2.2.2.2.2.2.2.2.1
abbrev yf:dM:=([],[],false,[])
def isW (x:Int):Bool:=leb 0 x&&leb x 65535
def yaM (s:List Int):Bool:=leb (s.length:Int) 12&&s.all isW
theorem yWw {x:Int}:isW x=true↔0≤x∧x≤65535:=by simp [isW,zjQ]
theorem yB5 {s:List Int}:yaM s=true↔s.length≤12∧ ∀ x∈s,0≤x∧x≤65535:=by
  simp only [yaM,Bool.and_eq_true,zjQ,List.all_eq_true,yWw]
  constructor
  · rintro ⟨h1,h2⟩; exact ⟨by omega,h2⟩
  · rintro ⟨h1,h2⟩; exact ⟨by omega,h2⟩
theorem yVl: ∀ {l:List Int},l.Pairwise (· < ·)↔ ∀ i,i+1 < l.length→l.getD i 0 < l.getD (i+1) 0
  | []=>by simp
  | [x]=>by simp
  | x::y::l=>by
    have ih:=yVl (l:=y::l)
    constructor
    · intro h i hi
      cases h with
      | cons h1 h2 =>
        cases i with
        | zero=>exact h1 y List.mem_cons_self
        | succ i=>exact ih.1 h2 i (by simpa using hi)
    · intro h
      have h2:(y::l).Pairwise (· < ·):=ih.2 fun i hi=>h (i+1) (by simpa using hi)
      refine .cons (fun z hz=> ?_) h2
      have h3:x < y:=h 0 (by simp)
      rcases List.mem_cons.1 hz with rfl | hz
      · exact h3
      · cases h2 with
        | cons h4 _=>exact Int.lt_trans h3 (h4 z hz)
def ys0 (n:Nat) (l:List Int):Bool:=l.all (fun x=>inb x n)&&decide (l.Pairwise (· < ·))
def yuY (n:Nat) (w:dW):Bool:=inb w.1 n&&yaM w.2
def yn (m:dM):Bool:=m.1.all yaM&&m.2.1.all (yuY m.1.length)&&ys0 m.1.length m.2.2.2&&leb 1 (m.1.length:Int)&&leb (m.1.length:Int) 20&&leb (m.2.1.length:Int) 60
def yBx (n:Nat) (l:List Int) (i:Nat):Bool:= !(inb (l.getD i 0) n)||(decide (0 < i)&&leb (l.getD i 0) (l.getD (i - 1) 0))
theorem ySk (n:Nat) (l:List Int):(List.range l.length).any (yBx n l)= !(ys0 n l):=by
  rw [Bool.eq_iff_iff,List.any_eq_true,Bool.not_eq_true',ys0,Bool.and_eq_false_iff,decide_eq_false_iff_not,yVl,List.all_eq_false]
  simp only [List.mem_range,yBx,Bool.or_eq_true,Bool.not_eq_true',Bool.and_eq_true,decide_eq_true_eq,zjQ]
  constructor
  · rintro ⟨i,hi,h | ⟨h1,h2⟩⟩
    · exact .inl ⟨l[i],List.getElem_mem hi,by rw [zcq hi]at h; simp [h]⟩
    · refine .inr fun h3=> ?_
      have:=h3 (i - 1) (by omega)
      rw [show i - 1+1=i by omega]at this
      omega
  · rintro (⟨x,hx,h⟩ | h)
    · obtain ⟨i,hi,rfl⟩:=List.getElem_of_mem hx
      exact ⟨i,hi,.inl (by rw [zcq hi]; simpa using h)⟩
    · refine Classical.byContradiction fun hc=>h fun i hi=> ?_
      refine Classical.byContradiction fun h4=>hc ⟨i+1,hi,.inr ⟨by omega,?_⟩⟩
      rw [Nat.add_sub_cancel]; omega
def yDr (n:Int) (c:List dW) (s:List Int):List Int:=c.foldl (fun s w=>bif w.1==n then w.2 else s) s
def yHB (m:dM) (n:Int):Bool:=yn m&&(!m.2.2.1&&(inb n m.1.length&& !(m.2.2.2.any (· ==n))))
def yfp (m:dM) (n:Int):List Int×Bool:=bif yHB m n then (yDr n m.2.1 (nth m.1 n []),true) else ([],false)
theorem yOz {P:List Int→Prop} {n:Int}: ∀ {c:List dW} {s:List Int},P s→(∀ w∈c,P w.2)→P (yDr n c s)
  | [],_,h,_=>h
  | w::c,s,h,hc=>yOz (c:=c) (zkM (hc w List.mem_cons_self) h) (fun x hx=>hc x (List.mem_cons_of_mem _ hx))
theorem yVq {α:Type} {P:α→Prop} {l:List α} {i:Int} {d:α} (h:inb i l.length=true) (hl: ∀ x∈l,P x):P (nth l i d):=by
  obtain ⟨h1,h2⟩:=zjP.1 h
  unfold nth
  rw [zcq (show i.toNat < l.length by omega)]
  exact hl _ (List.getElem_mem _)
theorem yVo {α:Type} {p:α→Bool} {l:List α} (h:leb 0 (yK p l)=false):yK p l= -1:=by
  unfold yK at h ⊢
  cases ha:l.any p
  · rfl
  · rw [ha,cond_true,zk0 (show (0:Int)≤((l.takeWhile (fun x=> !p x)).length:Int) by omega)] at h; cases h
theorem ySn {α:Type} {p:α→Bool}: ∀ {l:List α},leb 0 (yK p l)=true→(l.take ((yK p l).toNat+1)).filter (fun x=> !p x)=l.take (yK p l).toNat
  | [],h=>by rw [ySm]at h; cases h
  | x::l,h=>by
    rw [yDH]at h ⊢
    cases hx:p x
    · rw [hx]at h
      cases hl:leb 0 (yK p l)
      · rw [hl]at h; cases h
      · have h4:=zjQ.1 hl
        simp only [cond_false,cond_true]
        rw [show (yK p l+1).toNat=(yK p l).toNat+1 by omega,List.take_succ_cons,List.take_succ_cons,List.filter_cons,hx,ySn hl]; rfl
    · simp only [cond_true]
      show List.filter (fun x=> !p x) [x]= []
      rw [List.filter_cons,hx]; rfl
theorem yV5 {α:Type} {p:α→Bool} {l:List α} (h:leb 0 (yK p l)=false):l.filter (fun x=> !p x)=l:=by
  rw [List.filter_eq_self]
  intro x hx
  unfold yK at h
  cases ha:l.any p
  · have:=List.any_eq_false.1 ha x hx
    simpa using this
  · rw [ha,cond_true,zk0 (show (0:Int)≤((l.takeWhile (fun x=> !p x)).length:Int) by omega)] at h; cases h
def yqf (s:Int):Int:=bif leb 0 s&&leb s 1099511627776 then s+6 else -1
def yql (a:dA) (m s:Int):Bool:=inb m a.2.2.1.length&&(!(nth a.2.2.1 m yf).2.2.1&&(m !=a.2.2.2.1||ltb s a.2.2.2.2.1))
def yds (a:dA) (m s:Int):List Int×Bool:=yfp (nth a.2.2.1 m yf) (yqf s)
def yk (a:dA) (m s:Int):Bool:=yql a m s&&((yds a m s).2&&((yds a m s).1.length:Int)==1)
def yAJ (a:dA) (m s:Int):Int:=bif yk a m s then nth (yds a m s).1 0 0 else 0
def xw (a b:Int):Int:=IntKind.i64.wrap ((BitVec.ofInt IntKind.i64.bits a ^^^ BitVec.ofInt IntKind.i64.bits b).toNat:Int)
def yyH (l:List Int):Int:=l.foldl xw 0
def yVW (a:dA) (s:Int):Bool:=(List.range a.2.2.1.length).all (fun (i:Nat)=>yk a i s)
def yWm (a:dA) (s:Int):Int×Bool:=bif yVW a s then (yyH ((List.range a.2.2.1.length).map (fun (i:Nat)=>yAJ a i s)),true) else (0,false)
def yXh (a:dA):Bool:=(List.range (min a.2.1.2.toNat 20)).all (fun (s:Nat)=> !((yWm a s).2&&(yWm a s).1 !=0))
def bv (x:Int):BitVec 64:=BitVec.ofInt 64 x
theorem yP2 (a b:Int):xw a b=(bv a ^^^ bv b).toInt:=by
  show IntKind.i64.wrap ((bv a ^^^ bv b).toNat:Int)=_
  rw [IntKind.wrap_i64,BitVec.toInt_eq_toNat_cond]
  have:=(bv a ^^^ bv b).isLt
  split<;>omega
theorem yzl (v:BitVec 64):bv v.toInt=v:=by unfold bv; simp
theorem yXf (a b:Int):bv (xw a b)=bv a ^^^ bv b:=by rw [yP2,yzl]
theorem yXa {x:Int} (h: -9223372036854775808≤x) (h2:x≤9223372036854775807):(bv x).toInt=x:=by
  unfold bv
  rw [BitVec.toInt_ofInt,Int.bmod_def]
  simp only [Nat.reducePow]at *
  omega
def ySh (l:List Int):BitVec 64:=l.foldl (fun v x=>v ^^^ bv x) 0#64
theorem yU8 (l:List Int):yyH l=(ySh l).toInt:=by
  have: ∀ (l:List Int) (v:BitVec 64),l.foldl xw v.toInt=(l.foldl (fun v x=>v ^^^ bv x) v).toInt:=by
    intro l
    induction l with
    | nil=>intro _; rfl
    | cons x l ih =>
      intro v
      rw [List.foldl_cons,List.foldl_cons,yP2,yzl,ih]
  have h:=this l 0#64
  rwa [show (0#64:BitVec 64).toInt=0 from by decide]at h
theorem yVU (l:List Int) (x:Int):ySh (l++ [x])=ySh l ^^^ bv x:=by unfold ySh; rw [List.foldl_append]; rfl
theorem yWk {i:Int} {n:Nat} (h: ¬ (0≤i∧i < (n:Int))):inb i n=false:=by
  cases e:inb i n
  · rfl
  · exact absurd (zjP.1 e) h
def ynP (l:List Int) (k:Int):Int:=bif inb k l.length then xw (yyH l) (nth l k 0) else yyH l
theorem yVV (u v:BitVec 64):u ^^^ v ^^^ v=u:=by rw [BitVec.xor_assoc,BitVec.xor_self,BitVec.xor_zero]
theorem yVM (l:List Int) (k:Int):(List.range l.length).foldl (fun n (i:Nat)=>bif (i:Int) !=k then xw n (nth l i 0) else n) 0=ynP l k:=by
  have: ∀ n,n≤l.length→(List.range n).foldl (fun n (i:Nat)=>bif (i:Int) !=k then xw n (nth l i 0) else n) 0=(bif inb k n then ySh (l.take n) ^^^ bv (nth l k 0) else ySh (l.take n)).toInt:=by
    intro n
    induction n with
    | zero =>
      intro _
      rw [yWk (show ¬ (0≤k∧k < ((0:Nat):Int)) by omega)]
      rfl
    | succ n ih =>
      intro hn
      rw [List.range_succ,List.foldl_append,List.foldl_cons,List.foldl_nil,ih (by omega),← yVT l 0 (show n < l.length by omega),yVU]
      by_cases hk:(n:Int)=k
      · subst hk
        rw [show ((n:Int) !=n)=false by simp,cond_false,yWk (show ¬ (0≤(n:Int)∧(n:Int) < (n:Int)) by omega),show inb (n:Int) (n+1)=true from zkO (Nat.lt_succ_self n),cond_false,cond_true,yVV]
      · rw [show ((n:Int) !=k)=true from bne_iff_ne.2 hk,cond_true,show inb k (n+1)=inb k n by rw [Bool.eq_iff_iff,zjP,zjP]; omega,yP2,yzl]
        cases inb k n
        · rfl
        · rw [cond_true,cond_true,BitVec.xor_assoc,BitVec.xor_comm (bv (nth l k 0)),← BitVec.xor_assoc]
  rw [this l.length (Nat.le_refl _),List.take_length]
  unfold ynP
  rw [yP2,yU8,yzl]
  cases inb k l.length<;>rfl
theorem yVL {l:List Int} {k:Int} (h:inb k l.length=true) (h0:nth l k 0=0):ynP l k=yyH l:=by
  unfold ynP
  rw [h,h0,cond_true,yP2,yU8,yzl,show bv 0=0#64 by decide,BitVec.xor_zero]
abbrev ye1:dA:=(0,(0,0),[],0,0,0,0,0,[],0,false,false)
def yWf (k:Int) (i:Nat):Bool:=IntKind.i64.wrap ((BitVec.ofInt IntKind.i64.bits (k.fdiv (2 ^ (min (i:Int).toNat IntKind.i64.bits))) &&& BitVec.ofInt IntKind.i64.bits 1).toNat:Int)==1
def yVF (k:Int):Int:=bif leb 0 k&&leb k 1048575 then k else 0
def yeY (b:Nat→Bool) (c:List dW) (l:List (List Int)) (i:Nat):List (List Int):=bif b i then l.set (nth c i (0,[])).1.toNat (nth c i (0,[])).2 else l
def ydn (b:Nat→Bool) (c:List dW) (l:List (List Int)):List (List Int):=(List.range c.length).foldl (yeY b c) l
def yHC (m:dM) (k:Int):dM:=bif yn m then (ydn (fun i=>decide (i < 20)&&yWf (yVF k) i) m.2.1 m.1,[],m.2.2.1,m.2.2.2) else m
def yUQ (ks:List Int) (i:Nat):Int:=bif decide (i < ks.length) then nth ks i 0 else 0
def yWt (l:List dM) (ks:List Int):List dM:=(List.range l.length).map (fun (i:Nat)=>yHC (nth l i yf) (yUQ ks i))
theorem ye7 {m:dM} (h:yn m=true):m.1.all yaM=true∧m.2.1.all (yuY m.1.length)=true∧ys0 m.1.length m.2.2.2=true∧1≤m.1.length∧m.1.length≤20∧m.2.1.length≤60:=by
  simp only [yn,Bool.and_eq_true,zjQ]at h
  exact ⟨h.1.1.1.1.1,h.1.1.1.1.2,h.1.1.1.2,by omega,by omega,by omega⟩
theorem yUT {m:dM} (h:yn m=true) {i:Nat} (hi:i < m.2.1.length):inb (nth m.2.1 i (0,[])).1 m.1.length=true∧yaM (nth m.2.1 i (0,[])).2=true:=by
  have h1:=List.all_eq_true.1 (ye7 h).2.1 m.2.1[i] (List.getElem_mem hi)
  rw [zjW,zcq hi]
  exact Bool.and_eq_true_iff.1 h1
theorem yDI {b:Nat→Bool} {c:List dW} {l:List (List Int)} {i:Nat}:(yeY b c l i).length=l.length:=by
  unfold yeY; cases b i
  · rfl
  · exact List.length_set
theorem yNK {α β:Type} (P:β→Prop) (f:β→α→β) (h: ∀ s x,P s→P (f s x)): ∀ (l:List α) (s:β),P s→P (l.foldl f s)
  | [],_,hs=>hs
  | x::l,s,hs=>yNK P f h l (f s x) (h s x hs)
theorem yqk {b:Nat→Bool} {c:List dW} {l:List (List Int)}:(ydn b c l).length=l.length :=
  yNK (fun x=>x.length=l.length) _ (fun s x hs=>by rw [yDI]; exact hs) _ l rfl
theorem yWM (b:Nat→Bool) (c:List dW) (l:List (List Int)):ydn (fun i=>decide (i < 20)&&b i) c l=(List.range (min c.length 20)).foldl (yeY b c) l:=by
  have h1: ∀ n,n≤20→ ∀ l,(List.range n).foldl (yeY (fun i=>decide (i < 20)&&b i) c) l=(List.range n).foldl (yeY b c) l:=by
    intro n
    induction n with
    | zero=>intro _ _; rfl
    | succ n ih =>
      intro hn l
      rw [List.range_succ,List.foldl_append,List.foldl_append,ih (by omega)]
      simp only [List.foldl_cons,List.foldl_nil,yeY,show decide (n < 20)=true from decide_eq_true (by omega),Bool.true_and]
  have h2: ∀ n,20≤n→ ∀ l,(List.range n).foldl (yeY (fun i=>decide (i < 20)&&b i) c) l=(List.range 20).foldl (yeY b c) l:=by
    intro n
    induction n with
    | zero=>intro h; omega
    | succ n ih =>
      intro hn l
      by_cases h:20≤n
      · rw [List.range_succ,List.foldl_append,ih h]
        simp only [List.foldl_cons,List.foldl_nil,yeY,show decide (n < 20)=false from decide_eq_false (by omega),Bool.false_and,cond_false]
      · rw [h1 (n+1) (by omega),show n+1=20 by omega]
  unfold ydn
  by_cases h:c.length≤20
  · rw [h1 _ h,Nat.min_eq_left h]
  · rw [h2 _ (by omega),Nat.min_eq_right (by omega)]
theorem yPY {l:List (List Int)} {b:Nat} (h:l.length≤20) (hs: ∀ x∈l,x.length≤b):(l.map (fun x:List Int=>x.length)).sum≤20 * b:=by
  have:=zi5 (f:=fun x:List Int=>x.length) hs
  exact Nat.le_trans this (Nat.mul_le_mul_right _ h)
theorem yJV {P:List Int→Prop} {b:Nat→Bool} {c:List dW} {l:List (List Int)} (hl: ∀ x∈l,P x) (hc: ∀ w∈c,P w.2): ∀ x∈ydn b c l,P x:=by
  have: ∀ (n:Nat),n≤c.length→ ∀ x∈(List.range n).foldl (yeY b c) l,P x:=by
    intro n
    induction n with
    | zero=>intro _; exact hl
    | succ n ih =>
      intro hn x hx
      rw [List.range_succ,List.foldl_append,List.foldl_cons,List.foldl_nil,yeY]at hx
      cases hb:b n
      · rw [hb]at hx; exact ih (by omega) x hx
      · rw [hb,cond_true]at hx
        rcases List.mem_or_eq_of_mem_set hx with h | h
        · exact ih (by omega) x h
        · rw [h,zjW,zcq (show n < c.length by omega)]
          exact hc _ (List.getElem_mem _)
  exact this _ (Nat.le_refl _)
theorem yVu (m:dM) (k:Int):ypG (yHC m k)≤ypG m+240:=by
  unfold yHC
  cases hm:yn m
  · exact Nat.le_add_right _ _
  · obtain ⟨h1,h2,_,_,h3,_⟩:=ye7 hm
    have hs: ∀ x∈ydn (fun i=>decide (i < 20)&&yWf (yVF k) i) m.2.1 m.1,x.length≤12 :=
      yJV (P:=fun x=>x.length≤12) (fun x hx=>(yB5.1 (List.all_eq_true.1 h1 x hx)).1) (fun w hw=>(yB5.1 (Bool.and_eq_true_iff.1 (List.all_eq_true.1 h2 w hw)).2).1)
    have:=yPY (b:=12) (by rw [yqk]; exact h3) hs
    unfold ypG
    simp only [cond_true,List.map_nil,List.sum_nil]
    omega
theorem yWA (l:List dM) (ks:List Int):ymL (yWt l ks)≤ymL l+240 * l.length:=by
  have: ∀ n,n≤l.length→(((List.range n).map (fun (i:Nat)=>yHC (nth l i yf) (yUQ ks i))).map ypG).sum≤((l.take n).map ypG).sum+240 * n:=by
    intro n
    induction n with
    | zero=>intro _; simp
    | succ n ih =>
      intro hn
      rw [List.range_succ,List.map_append,List.map_append,List.sum_append,← List.take_append_getElem (show n < l.length by omega),List.map_append,List.sum_append]
      have:=ih (by omega)
      have h2:=yVu (nth l n yf) (yUQ ks n)
      rw [zjW,zcq (show n < l.length by omega)] at h2
      simp only [List.map_cons,List.map_nil,List.sum_cons,List.sum_nil]
      rw [zjW l n,zcq (show n < l.length by omega)]
      omega
  have h:=this l.length (Nat.le_refl _)
  rw [List.take_length]at h
  exact h
def yus (m:dM) (n:Int) (s:List Int):Bool:=yn m&&(!m.2.2.1&&(inb n m.1.length&&(yaM s&&ltb (m.2.1.length:Int) 60)))
def ySg (l:List Int) (n:Int):List Int:=l.filter (· !=n)
def yif (m:dM) (n:Int) (s:List Int):dM×Bool:=bif yus m n s then ((m.1,m.2.1++ [(n,s)],m.2.2.1,ySg m.2.2.2 n),true) else (m,false)
def yfR (m:dM):dM:=bif yn m&& !m.2.2.1 then (ydn (fun _=>true) m.2.1 m.1,[],m.2.2.1,m.2.2.2) else m
def yWs (m:dM):dM:=(m.1,[],true,m.2.2.2)
end
section
def yi8:Code:=(Tryz.f183.body).getD .skip
def yox:Env:=zki TT [(185,yhN)] []
theorem yIr:FrOk Tryz.prog ⟨yox,27,fun _=>none⟩ yi8:=zkp yb yc ⟨yo7,trivial⟩
def yy4:Nat→Option Seg:=fun _=>none
def ycH:Shape:=⟨[(0,false,[.br tL]),(1,false,[.int .i64]),(5,false,[.int .i64])],[],[]⟩
def yir:Shape:=⟨[(0,false,[.br tL]),(1,false,[.int .i64]),(5,false,[.ci .i64 0])],[],[]⟩
def yik:Shape:=⟨[(1,false,[.int .i64])],[],[]⟩
def yiD:Shape:=⟨[(4,false,[.int .i64])],[],[]⟩
def yoi (v0:List (List Int)) (v1:Int) (v2:Int):Option ((ycH).X ⊕ ((yik).X ⊕ (yiD).X)) :=
  bif (ltb v2 (v0.length:Int)) then
    bif (inb v2 v0.length) then
      let r2:=yh (nth v0 v2 []) v1
      bif (ltb r2 0) then
        some (.inr (.inr ((((-1),()),()),(),())))
      else
        some (.inl (((v0,()),(r2,()),((IntKind.i64.wrap (v2+1)),()),()),(),()))
    else none
  else
    some (.inr (.inl (((v1,()),()),(),())))
def ybn (x:(ycH).X):=yoi x.1.1.1 x.1.2.1.1 x.1.2.2.1.1
def yvH (x:(yir).X):(ycH).X:=(((x.1.1.1,()),(x.1.2.1.1,()),(0,()),()),(),())
def yxk:Code:=(zdI yi8 64 244).getD .skip
theorem yHX:zdI yi8 64 61=some (.block 0 (.loop yxk)):=by kernel_rfl
theorem yJE (x:(ycH).X):zg7 ⟨yox,27,yy4⟩ 0 yxk 244 ycH yik yiD x=ybn x:=by kernel_rfl
def yvX (x:(yir).X):Nat:=(fun (u0:List (List Int)) (u1:Int)=>18446744073709551616) x.1.1.1 x.1.2.1.1
def ypy (x:(yir).X):Option ((yik).X ⊕ (yiD).X):=zr ybn (yvX x) (yvH x)
def ywm:Seg:=⟨yir,yik,yiD,ypy⟩
def yy5:Nat→Option Seg:=fun q=>bif Nat.beq q 61 then some ywm else yy4 q
theorem yIs:FrOk Tryz.prog ⟨yox,27,yy5⟩ yi8:=(yIr).loop (sg:=ywm) ycH yvH (by decide) yHX ybn yvX (by decide) (fun _=>rfl) (fun x r _ h=>h) yJE
abbrev yfh:List Par:= [.rd tLL,.rd tI]
abbrev yoP:List OT:= [⟨false,tI,.fz⟩]
def ykM (a0:List (List Int)) (a1:Int):Option (ResD yoP×MutD yfh) :=
  bif (ltb (IntKind.i64.wrap (a1 - (a0.length:Int))) 0) then
    some (((-1),()),())
  else
    zjw (ypy (((a0,()),((IntKind.i64.wrap (a1 - (a0.length:Int))),()),((),()),()),(),())) (fun y2 =>
      some ((y2.1.1.1,()),())) (fun y2 =>
      some ((y2.1.1.1,()),()))
theorem yQD (x:InD yfh):zjH ⟨yox,27,yy5⟩ Tryz.f183.results.toList yi8 yfh yoP x=ykM x.1 x.2.1:=by kernel_rfl
theorem yMb:ConOk Tryz.prog 183 ⟨yfh,yoP,fun x=>ykM x.1 x.2.1⟩:=zkh (yIs) Tryz.func183 (by kernel_rfl) (by kernel_rfl) Tryz.ntmps183.symm (by decide) (fun x r h=>(yQD x).trans h)
def yS (a0:List (List Int)) (a1:Int):Int:=bif ltb (IntKind.i64.wrap (a1 - (a0.length:Int))) 0 then (-1) else (szG yh a0 (IntKind.i64.wrap (a1 - (a0.length:Int)))).getD (-1)
theorem yON (a0:List (List Int)) (a1:Int) (hk:zi9 yfh (a0,a1,())):ykM a0 a1=(fun n=>some ((n,()),())) (yS a0 a1):=by
  have hb:a0.length * 24≤2 ^ 47:=hk.1.1
  have hl: ∀ k:Int,ypy (((a0,()),(k,()),((),()),()),(),())=some (match szG yh a0 k with | some r=> .inl (((r,()),()),(),()) | none=> .inr ((((-1),()),()),(),())):=fun k =>
    zkG (step:=ybn) a0 ([]:List Int) (fun i k=>(((a0,()),(k,()),((i:Int),()),()),(),())) yh (fun r=> .inl (((r,()),()),(),())) (.inr ((((-1),()),()),(),())) (fun i s hi=>by
      simp only [ybn,yoi,zkO hi,zjW,Int.toNat_natCast,zjI (show (i:Int) < a0.length by omega),cond_true,wr (show -9223372036854775808≤(i:Int)+1 by omega) (by omega),Int.natCast_add,Int.natCast_one,zkV]
      cases ltb (yh (a0.getD i []) s) 0<;>rfl) (fun s=>by simp only [ybn,yoi,zkm (Int.le_refl _),cond_false]) k _ (by show _ < 18446744073709551616; omega)
  unfold ykM yS
  rw [hl]
  cases ltb (IntKind.i64.wrap (a1 - (a0.length:Int))) 0
  · cases szG yh a0 (IntKind.i64.wrap (a1 - (a0.length:Int)))<;>rfl
  · rfl
def yzM:Con:=⟨yfh,yoP,fun x=>(fun n=>some ((n,()),())) (yS x.1 x.2.1)⟩
theorem yPA:ConOk Tryz.prog 183 yzM:=(yMb).mono (fun x r hk h=>(yON x.1 x.2.1 hk).trans h)
end
section
def yJM:Code:=(Tryz.f236.body).getD .skip
def yJR:Env:=zki TT [(185,yhN)] []
theorem yQP:FrOk Tryz.prog ⟨yJR,12,fun _=>none⟩ yJM:=zkp yb yc ⟨yo7,trivial⟩
def ySx:Nat→Option Seg:=fun _=>none
abbrev yqb:List Par:= [.rd tW,.rd tI]
abbrev yu0:List OT:= [⟨false,tI,.fz⟩]
def ywF (a0:dW) (a1:Int):Option (ResD yu0×MutD yqb) :=
  let r1:=yh a0.2 a1
  bif (ltb r1 0) then
    some (((-1),()),())
  else
    some ((r1,()),())
theorem yVa (x:InD yqb):zjH ⟨yJR,12,ySx⟩ Tryz.f236.results.toList yJM yqb yu0 x=ywF x.1 x.2.1:=by kernel_rfl
theorem yTI:ConOk Tryz.prog 236 ⟨yqb,yu0,fun x=>ywF x.1 x.2.1⟩:=zkh (yQP) Tryz.func236 (by kernel_rfl) (by kernel_rfl) Tryz.ntmps236.symm (by decide) (fun x r h=>(yVa x).trans h)
def ydw (a0:dW) (a1:Int):Int :=
  let r1:=yh a0.2 a1
  bif (ltb r1 0) then
    (-1)
  else
    r1
def yEu:Con:=⟨yqb,yu0,fun x=>(fun n=>some ((n,()),())) (ydw x.1 x.2.1)⟩
theorem yUV (a0:dW) (a1:Int):ywF a0 a1=(fun n=>some ((n,()),())) (ydw a0 a1):=zkS (p:=fun (n:Int)=>((n,()),())) (zkx (p:=fun (n:Int)=>((n,()),())) rfl rfl)
theorem yU0:ConOk Tryz.prog 236 yEu:=(yTI).mono (fun x r _ h=>(yUV x.1 x.2.1).trans h)
end
section
def ynd:Code:=(Tryz.f184.body).getD .skip
def ysg:Env:=zki TT [(236,yEu)] []
theorem yN9:FrOk Tryz.prog ⟨ysg,27,fun _=>none⟩ ynd:=zkp yb yc ⟨yU0,trivial⟩
def yCB:Nat→Option Seg:=fun _=>none
def yei:Shape:=⟨[(0,false,[.br tW]),(1,false,[.int .i64]),(5,false,[.int .i64])],[],[]⟩
def ymh:Shape:=⟨[(0,false,[.br tW]),(1,false,[.int .i64]),(5,false,[.ci .i64 0])],[],[]⟩
def yme:Shape:=⟨[(1,false,[.int .i64])],[],[]⟩
def ymC:Shape:=⟨[(4,false,[.int .i64])],[],[]⟩
def yrU (v0:List dW) (v1:Int) (v2:Int):Option ((yei).X ⊕ ((yme).X ⊕ (ymC).X)) :=
  bif (ltb v2 (v0.length:Int)) then
    bif (inb v2 v0.length) then
      let r2:=ydw (nth v0 v2 (0,[])) v1
      bif (ltb r2 0) then
        some (.inr (.inr ((((-1),()),()),(),())))
      else
        some (.inl (((v0,()),(r2,()),((IntKind.i64.wrap (v2+1)),()),()),(),()))
    else none
  else
    some (.inr (.inl (((v1,()),()),(),())))
def ycS (x:(yei).X):=yrU x.1.1.1 x.1.2.1.1 x.1.2.2.1.1
def yz0 (x:(ymh).X):(yei).X:=(((x.1.1.1,()),(x.1.2.1.1,()),(0,()),()),(),())
def yBE:Code:=(zdI ynd 64 244).getD .skip
theorem yNf:zdI ynd 64 61=some (.block 0 (.loop yBE)):=by kernel_rfl
theorem yPS (x:(yei).X):zg7 ⟨ysg,27,yCB⟩ 0 yBE 244 yei yme ymC x=ycS x:=by kernel_rfl
def yAe (x:(ymh).X):Nat:=(fun (u0:List dW) (u1:Int)=>18446744073709551616) x.1.1.1 x.1.2.1.1
def ysp (x:(ymh).X):Option ((yme).X ⊕ (ymC).X):=zr ycS (yAe x) (yz0 x)
def yAC:Seg:=⟨ymh,yme,ymC,ysp⟩
def yCC:Nat→Option Seg:=fun q=>bif Nat.beq q 61 then some yAC else yCB q
theorem yOa:FrOk Tryz.prog ⟨ysg,27,yCC⟩ ynd:=(yN9).loop (sg:=yAC) yei yz0 (by decide) yNf ycS yAe (by decide) (fun _=>rfl) (fun x r _ h=>h) yPS
abbrev yjs:List Par:= [.rd tWs,.rd tI]
abbrev ysL:List OT:= [⟨false,tI,.fz⟩]
def ypg (a0:List dW) (a1:Int):Option (ResD ysL×MutD yjs) :=
  bif (ltb (IntKind.i64.wrap (a1 - (a0.length:Int))) 0) then
    some (((-1),()),())
  else
    zjw (ysp (((a0,()),((IntKind.i64.wrap (a1 - (a0.length:Int))),()),((),()),()),(),())) (fun y2 =>
      some ((y2.1.1.1,()),())) (fun y2 =>
      some ((y2.1.1.1,()),()))
theorem yUy (x:InD yjs):zjH ⟨ysg,27,yCC⟩ Tryz.f184.results.toList ynd yjs ysL x=ypg x.1 x.2.1:=by kernel_rfl
theorem yRI:ConOk Tryz.prog 184 ⟨yjs,ysL,fun x=>ypg x.1 x.2.1⟩:=zkh (yOa) Tryz.func184 (by kernel_rfl) (by kernel_rfl) Tryz.ntmps184.symm (by decide) (fun x r h=>(yUy x).trans h)
def ybv (a0:List (dW)) (a1:Int):Int:=bif ltb (IntKind.i64.wrap (a1 - (a0.length:Int))) 0 then (-1) else (szG ydw a0 (IntKind.i64.wrap (a1 - (a0.length:Int)))).getD (-1)
theorem yTs (a0:List (dW)) (a1:Int) (hk:zi9 yjs (a0,a1,())):ypg a0 a1=(fun n=>some ((n,()),())) (ybv a0 a1):=by
  have hb:a0.length * 32≤2 ^ 47:=hk.1.1
  have hl: ∀ k:Int,ysp (((a0,()),(k,()),((),()),()),(),())=some (match szG ydw a0 k with | some r=> .inl (((r,()),()),(),()) | none=> .inr ((((-1),()),()),(),())):=fun k =>
    zkG (step:=ycS) a0 ((0,[]):dW) (fun i k=>(((a0,()),(k,()),((i:Int),()),()),(),())) ydw (fun r=> .inl (((r,()),()),(),())) (.inr ((((-1),()),()),(),())) (fun i s hi=>by
      simp only [ycS,yrU,zkO hi,zjW,Int.toNat_natCast,zjI (show (i:Int) < a0.length by omega),cond_true,wr (show -9223372036854775808≤(i:Int)+1 by omega) (by omega),Int.natCast_add,Int.natCast_one,zkV]
      cases ltb (ydw (a0.getD i (0,[])) s) 0<;>rfl) (fun s=>by simp only [ycS,yrU,zkm (Int.le_refl _),cond_false]) k _ (by show _ < 18446744073709551616; omega)
  unfold ypg ybv
  rw [hl]
  cases ltb (IntKind.i64.wrap (a1 - (a0.length:Int))) 0
  · cases szG ydw a0 (IntKind.i64.wrap (a1 - (a0.length:Int)))<;>rfl
  · rfl
def yC5:Con:=⟨yjs,ysL,fun x=>(fun n=>some ((n,()),())) (ybv x.1 x.2.1)⟩
theorem yTY:ConOk Tryz.prog 184 yC5:=(yRI).mono (fun x r hk h=>(yTs x.1 x.2.1 hk).trans h)
end
section
def yFm:Code:=(Tryz.f108.body).getD .skip
def yFN:Env:=zki TT [(183,yzM),(184,yC5),(185,yhN)] []
theorem yN8:FrOk Tryz.prog ⟨yFN,24,fun _=>none⟩ yFm:=zkp yb yc ⟨yPA,yTY,yo7,trivial⟩
def yQd:Nat→Option Seg:=fun _=>none
abbrev ynC:List Par:= [.rd tM,.rd tI]
abbrev ysK:List OT:= [⟨false,tI,.fz⟩]
def yuP (a0:dM) (a1:Int):Option (ResD ysK×MutD ynC) :=
  let r1:=yS a0.1 a1
  bif (ltb r1 0) then
    some (((-1),()),())
  else
    let r2:=ybv a0.2.1 r1
    bif (ltb r2 0) then
      some (((-1),()),())
    else
      let r3:=yh a0.2.2.2 r2
      bif (ltb r3 0) then
        some (((-1),()),())
      else
        some ((r3,()),())
theorem yUx (x:InD ynC):zjH ⟨yFN,24,yQd⟩ Tryz.f108.results.toList yFm ynC ysK x=yuP x.1 x.2.1:=by kernel_rfl
theorem yRH:ConOk Tryz.prog 108 ⟨ynC,ysK,fun x=>yuP x.1 x.2.1⟩:=zkh (yN8) Tryz.func108 (by kernel_rfl) (by kernel_rfl) Tryz.ntmps108.symm (by decide) (fun x r h=>(yUx x).trans h)
def yaC (a0:dM) (a1:Int):Int :=
  let r1:=yS a0.1 a1
  bif (ltb r1 0) then
    (-1)
  else
    let r2:=ybv a0.2.1 r1
    bif (ltb r2 0) then
      (-1)
    else
      let r3:=yh a0.2.2.2 r2
      bif (ltb r3 0) then
        (-1)
      else
        r3
def yC4:Con:=⟨ynC,ysK,fun x=>(fun n=>some ((n,()),())) (yaC x.1 x.2.1)⟩
theorem yTr (a0:dM) (a1:Int):yuP a0 a1=(fun n=>some ((n,()),())) (yaC a0 a1):=zkS (p:=fun (n:Int)=>((n,()),())) (zkx (p:=fun (n:Int)=>((n,()),())) rfl (zkx (p:=fun (n:Int)=>((n,()),())) rfl (zkx (p:=fun (n:Int)=>((n,()),())) rfl rfl)))
theorem yTX:ConOk Tryz.prog 108 yC4:=(yRH).mono (fun x r _ h=>(yTr x.1 x.2.1).trans h)
end
section
def yk0:Code:=(Tryz.f35.body).getD .skip
def yqv:Env:=zki TT [(108,yC4)] []
theorem yKN:FrOk Tryz.prog ⟨yqv,27,fun _=>none⟩ yk0:=zkp yb yc ⟨yTX,trivial⟩
def yA6:Nat→Option Seg:=fun _=>none
def ydj:Shape:=⟨[(0,false,[.br tM]),(1,false,[.int .i64]),(5,false,[.int .i64])],[],[]⟩
def yj7:Shape:=⟨[(0,false,[.br tM]),(1,false,[.int .i64]),(5,false,[.ci .i64 0])],[],[]⟩
def yjZ:Shape:=⟨[(1,false,[.int .i64])],[],[]⟩
def ykl:Shape:=⟨[(4,false,[.int .i64])],[],[]⟩
def ypX (v0:List dM) (v1:Int) (v2:Int):Option ((ydj).X ⊕ ((yjZ).X ⊕ (ykl).X)) :=
  bif (ltb v2 (v0.length:Int)) then
    bif (inb v2 v0.length) then
      let r2:=yaC ((nth v0 v2 ([],[],false,[])).1,((nth v0 v2 ([],[],false,[])).2).1,(((nth v0 v2 ([],[],false,[])).2).2)) v1
      bif (ltb r2 0) then
        some (.inr (.inr ((((-1),()),()),(),())))
      else
        some (.inl (((v0,()),(r2,()),((IntKind.i64.wrap (v2+1)),()),()),(),()))
    else none
  else
    some (.inr (.inl (((v1,()),()),(),())))
def yca (x:(ydj).X):=ypX x.1.1.1 x.1.2.1.1 x.1.2.2.1.1
def yxL (x:(yj7).X):(ydj).X:=(((x.1.1.1,()),(x.1.2.1.1,()),(0,()),()),(),())
def yzr:Code:=(zdI yk0 64 244).getD .skip
theorem yKa:zdI yk0 64 61=some (.block 0 (.loop yzr)):=by kernel_rfl
theorem yMF (x:(ydj).X):zg7 ⟨yqv,27,yA6⟩ 0 yzr 244 ydj yjZ ykl x=yca x:=by kernel_rfl
def yx1 (x:(yj7).X):Nat:=(fun (u0:List dM) (u1:Int)=>18446744073709551616) x.1.1.1 x.1.2.1.1
def yrh (x:(yj7).X):Option ((yjZ).X ⊕ (ykl).X):=zr yca (yx1 x) (yxL x)
def yyn:Seg:=⟨yj7,yjZ,ykl,yrh⟩
def yA7:Nat→Option Seg:=fun q=>bif Nat.beq q 61 then some yyn else yA6 q
theorem yKO:FrOk Tryz.prog ⟨yqv,27,yA7⟩ yk0:=(yKN).loop (sg:=yyn) ydj yxL (by decide) yKa yca yx1 (by decide) (fun _=>rfl) (fun x r _ h=>h) yMF
abbrev ygm:List Par:= [.rd tMs,.rd tI]
abbrev yqS:List OT:= [⟨false,tI,.fz⟩]
def ymX (a0:List dM) (a1:Int):Option (ResD yqS×MutD ygm) :=
  bif (ltb (IntKind.i64.wrap (a1 - (a0.length:Int))) 0) then
    some (((-1),()),())
  else
    zjw (yrh (((a0,()),((IntKind.i64.wrap (a1 - (a0.length:Int))),()),((),()),()),(),())) (fun y2 =>
      some ((y2.1.1.1,()),())) (fun y2 =>
      some ((y2.1.1.1,()),()))
theorem ySR (x:InD ygm):zjH ⟨yqv,27,yA7⟩ Tryz.f35.results.toList yk0 ygm yqS x=ymX x.1 x.2.1:=by kernel_rfl
theorem yPc:ConOk Tryz.prog 35 ⟨ygm,yqS,fun x=>ymX x.1 x.2.1⟩:=zkh (yKO) Tryz.func35 (by kernel_rfl) (by kernel_rfl) Tryz.ntmps35.symm (by decide) (fun x r h=>(ySR x).trans h)
def yaG (a0:List (dM)) (a1:Int):Int:=bif ltb (IntKind.i64.wrap (a1 - (a0.length:Int))) 0 then (-1) else (szG yaC a0 (IntKind.i64.wrap (a1 - (a0.length:Int)))).getD (-1)
theorem yRc (a0:List (dM)) (a1:Int) (hk:zi9 ygm (a0,a1,())):ymX a0 a1=(fun n=>some ((n,()),())) (yaG a0 a1):=by
  have hb:a0.length * 80≤2 ^ 47:=hk.1.1
  have hl: ∀ k:Int,yrh (((a0,()),(k,()),((),()),()),(),())=some (match szG yaC a0 k with | some r=> .inl (((r,()),()),(),()) | none=> .inr ((((-1),()),()),(),())):=fun k =>
    zkG (step:=yca) a0 (([],[],false,[]):dM) (fun i k=>(((a0,()),(k,()),((i:Int),()),()),(),())) yaC (fun r=> .inl (((r,()),()),(),())) (.inr ((((-1),()),()),(),())) (fun i s hi=>by
      simp only [yca,ypX,zkO hi,zjW,Int.toNat_natCast,zjI (show (i:Int) < a0.length by omega),cond_true,wr (show -9223372036854775808≤(i:Int)+1 by omega) (by omega),Int.natCast_add,Int.natCast_one,zkV]
      cases ltb (yaC (a0.getD i ([],[],false,[])) s) 0<;>rfl) (fun s=>by simp only [yca,ypX,zkm (Int.le_refl _),cond_false]) k _ (by show _ < 18446744073709551616; omega)
  unfold ymX yaG
  rw [hl]
  cases ltb (IntKind.i64.wrap (a1 - (a0.length:Int))) 0
  · cases szG yaC a0 (IntKind.i64.wrap (a1 - (a0.length:Int)))<;>rfl
  · rfl
def yBS:Con:=⟨ygm,yqS,fun x=>(fun n=>some ((n,()),())) (yaG x.1 x.2.1)⟩
theorem yR5:ConOk Tryz.prog 35 yBS:=(yPc).mono (fun x r hk h=>(yRc x.1 x.2.1 hk).trans h)
def mSz (m:dM):Nat:=(m.1.length+(m.1.map (fun x:List Int=>x.length)).sum)+(m.2.1.length+(m.2.1.map (fun x:dW=>x.2.length)).sum)+m.2.2.2.length
theorem yWx (m:dM):ypG m≤1+mSz m:=by
  unfold ypG mSz
  rw [yMQ (fun x:dW=>x.2.length) 1]
  omega
theorem yWd {l:List dW} {k:Int} (h0:0≤k) (h1:k≤1048576) (hl:l.length * 32≤2 ^ 47) (hx: ∀ x∈l,x.2.length * 8≤2 ^ 47) (h:0≤ybv l k):((l.length+(l.map (fun x:dW=>x.2.length)).sum:Nat):Int)≤k - ybv l k∧ybv l k≤k :=
  yP1 (fun x hm k h0 h1 h=>by
    have:=hx x hm
    unfold ydw at h ⊢
    by_cases h2:yh x.2 k < 0
    · simp only [zjI h2,cond_true]at h; omega
    · simp only [zkm (Int.not_lt.1 h2),cond_false]at h ⊢
      have:=yB7 h0 h1 (by omega) h2
      omega) h0 h1 (by omega) h
theorem yVB {l:List (List Int)} {k:Int} (h0:0≤k) (h1:k≤1048576) (hl:l.length * 24≤2 ^ 47) (hx: ∀ x∈l,x.length * 8≤2 ^ 47) (h:0≤yS l k):((l.length+(l.map (fun x:List Int=>x.length)).sum:Nat):Int)≤k - yS l k∧yS l k≤k :=
  yP1 (fun x hm k h0 h1 h=>by
    have:=hx x hm
    have:=yB7 (a:=x) h0 h1 (by omega) (by omega)
    omega) h0 h1 (by omega) h
theorem yWc {m:dM} {k:Int} (h0:0≤k) (h1:k≤1048576) (hm:tM.Ok m) (h:0≤yaC m k):(mSz m:Int)≤k∧yaC m k≤k - mSz m:=by
  unfold yaC at h ⊢
  by_cases c1:yS m.1 k < 0
  · simp only [zjI c1,cond_true]at h; omega
  simp only [zkm (Int.not_lt.1 c1),cond_false]at h ⊢
  have e1:=yVB h0 h1 hm.1.1 (fun x hx=>(hm.1.2 x hx).1) (Int.not_lt.1 c1)
  by_cases c2:ybv m.2.1 (yS m.1 k) < 0
  · simp only [zjI c2,cond_true]at h; omega
  simp only [zkm (Int.not_lt.1 c2),cond_false]at h ⊢
  have e2:=yWd (Int.not_lt.1 c1) (by omega) hm.2.1.1 (fun x hx=>(hm.2.1.2 x hx).2.1) (Int.not_lt.1 c2)
  by_cases c3:yh m.2.2.2 (ybv m.2.1 (yS m.1 k)) < 0
  · simp only [zjI c3,cond_true]at h; omega
  simp only [zkm (Int.not_lt.1 c3),cond_false]at h ⊢
  have e3:=yB7 (a:=m.2.2.2) (Int.not_lt.1 c2) (by omega) (by have:m.2.2.2.length * 8≤2 ^ 47:=hm.2.2.2.1; omega) c3
  unfold mSz
  omega
theorem yVS {l:List dM} {k:Int} (h0:0≤k) (h1:k≤1048576) (hm:tMs.Ok l) (h:0≤yaG l k):((l.length+(l.map mSz).sum:Nat):Int)≤k - yaG l k∧yaG l k≤k :=
  yP1 (fun x hx k h0 h1 h=>yWc h0 h1 (hm.2 x hx) h) h0 h1 (by have:l.length * 80≤2 ^ 47:=hm.1; omega) h
theorem yV6 {l:List dM}:ymL l≤l.length+(l.map mSz).sum:=by
  unfold ymL
  induction l with
  | nil=>simp
  | cons x l ih =>
    simp only [List.map_cons,List.sum_cons,List.length_cons]
    have:=yWx x
    omega
theorem yVJ {α:Type} {f:α→Nat} {x:α}: ∀ {l:List α},x∈l→f x≤(l.map f).sum
  | y::l,h=>by
    rw [List.map_cons,List.sum_cons]
    rcases List.mem_cons.1 h with rfl | h
    · omega
    · have:=yVJ (f:=f) h; omega
end
end
end Go.Tf
