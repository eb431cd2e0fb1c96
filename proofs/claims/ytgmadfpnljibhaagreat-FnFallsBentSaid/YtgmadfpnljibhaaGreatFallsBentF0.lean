/- Functions of the program, and what they come to. -/
import Derived.Test.YtgmadfpnljibhaaGreatFallsBentTt
namespace Go.Tf
noncomputable section
open Go.Proofs
set_option synthInstance.maxHeartbeats 400000
set_option synthInstance.maxSize 10000
set_option linter.unusedVariables false
set_option linter.unusedSimpArgs false
set_option maxRecDepth 100000
section
def y0i:Code:=(Tryz.f12.body).getD .skip
def y0O:Env:=zj2 TT [] []
theorem y8u:FrOk Tryz.prog ⟨y0O,6,fun _=>none⟩ y0i:=zj6 yc yd trivial
def y89:Nat→Option Seg:=fun _=>none
abbrev yyW:List Par:= [.rd tYs]
abbrev yGp:List OT:= [⟨false,tB,.fz⟩]
def yIH (a0:List Int):Option (ResD yGp×MutD yyW) :=
 some (((ltb 1048576 (a0.length:Int)),()),())
theorem yaaW (x:InD yyW):zjw ⟨y0O,6,y89⟩ Tryz.f12.results.toList y0i yyW yGp x=yIH x.1:=by kernel_rfl
theorem y90:ConOk Tryz.prog 12 ⟨yyW,yGp,fun x=>yIH x.1⟩:=zj1 (y8u) Tryz.func12 (by kernel_rfl) (by kernel_rfl) Tryz.ntmps12.symm (by decide) (fun x r h=>(yaaW x).trans h)
def yGu (a0:List Int):Bool :=
 (ltb 1048576 (a0.length:Int))
def yRl:Con:=⟨yyW,yGp,fun x=>(fun n=>some ((n,()),())) (yGu x.1)⟩
theorem yaau (a0:List Int):yIH a0=(fun n=>some ((n,()),())) (yGu a0):=zkp (p:=fun (n:Bool)=>((n,()),())) rfl
theorem yaav:ConOk Tryz.prog 12 yRl:=(y90).mono (fun x r _ h=>(yaau x.1).trans h)
def yR {α:Type} (p:α→Bool) (l:List α):Int:=bif l.any p then ((l.takeWhile (fun x=> !p x)).length:Int) else -1
theorem y7o {α:Type} (p:α→Bool):yR p []= -1:=rfl
theorem yGt {α:Type} (p:α→Bool) (x:α) (l:List α):yR p (x::l)=bif p x then 0 else bif leb 0 (yR p l) then yR p l+1 else -1:=by
 unfold yR
 rw [List.any_cons,List.takeWhile_cons]
 cases p x
 ·cases l.any p
  ·rfl
  ·simp only [Bool.false_or,Bool.not_false,if_true,cond_true,cond_false,List.length_cons]
   rw [zkw (show (0:Int)≤((l.takeWhile (fun x=> !p x)).length:Int) by omega),cond_true]; omega
 ·simp
theorem yta {α:Type} {p:α→Bool} {d:α}: ∀ {l:List α},leb 0 (yR p l)=true→inb (yR p l) l.length=true∧p (nth l (yR p l) d)=true
 | [],h=>by rw [y7o]at h; cases h
 | x::l,h=>by
  rw [yGt]at h ⊢
  cases hx:p x
  ·rw [hx]at h
   cases hl:leb 0 (yR p l)
   ·rw [hl]at h; cases h
   ·obtain ⟨h1,h2⟩:=yta (d:=d) hl
    have h3:=zjC.1 h1
    have h4:=zjD.1 hl
    simp only [cond_false,cond_true,List.length_cons]
    refine ⟨zjC.2 (by omega),?_⟩
    unfold nth at h2 ⊢
    rw [show (yR p l+1).toNat=(yR p l).toNat+1 by omega,List.getD_cons_succ]
    exact h2
  ·simp only [cond_true,List.length_cons]
   refine ⟨zjC.2 (by omega),?_⟩
   exact hx
theorem yKZ {A B α:Type} {step:A→Option (A ⊕ B)} (l:List α) (d:α) (f:Nat→A) (p:α→Bool) (b:Int→B) (c:B)
  (h: ∀ i,i < l.length→step (f i)=some (bif p (l.getD i d) then .inr (b i) else .inl (f (i+1)))) (e:step (f l.length)=some (.inr c)) (fuel:Nat) (hf:l.length < fuel) :
  zz step fuel (f 0)=some (bif leb 0 (yR p l) then b (yR p l) else c):=by
 have: ∀ (t q:List α) (fuel:Nat),q++t=l→t.length < fuel→zz step fuel (f q.length)=some (bif leb 0 (yR p t) then b (q.length+yR p t) else c):=by
  intro t
  induction t with
  | nil =>
   intro q fuel hq hf
   obtain ⟨fuel,rfl⟩: ∃ m,fuel=m+1:=⟨fuel - 1,by omega⟩
   rw [List.append_nil]at hq
   subst hq
   simp only [zz,e]; rfl
  | cons x t ih =>
   intro q fuel hq hf
   obtain ⟨fuel,rfl⟩: ∃ m,fuel=m+1:=⟨fuel - 1,by omega⟩
   have hx:l.getD q.length d=x:=by
    subst hq
    rw [zkd (by simp)]; simp
   have hs:=h q.length (by rw [← hq]; simp)
   rw [hx]at hs
   rw [yGt]
   cases hp:p x
   ·rw [hp]at hs
    have:=ih (q++ [x]) fuel (by rw [← hq]; simp) (by simp at hf; omega)
    simp only [List.length_append,List.length_cons,List.length_nil]at this
    simp only [zz,hs,cond_false]
    rw [show q.length+1=q.length+(0+1) by omega,this]
    cases hl:leb 0 (yR p t)
    ·rfl
    ·have:=zjD.1 hl
     rw [cond_true,cond_true,zkw (show 0≤yR p t+1 by omega),cond_true]
     congr 2; omega
   ·rw [hp]at hs
    simp only [zz,hs,cond_true]
    rw [zkw (Int.le_refl 0),cond_true,Int.add_zero]
 have:=this l [] fuel rfl hf
 simpa using this
theorem yzO {α β:Type} (f:α→β): ∀ (l:List α) (s:List β),l.foldl (fun s i=>s++ [f i]) s=s++l.map f
 | [],s=>by simp
 | x::l,s=>by rw [List.foldl_cons,yzO f l]; simp
theorem yxt {α:Type} (l:List α):l.foldl (fun s i=>s++ [i]) []=l:=by
 have:=yzO id l []
 simpa using this
theorem y7C {α:Type} (l:List α) (d:α) {i:Nat} (h:i < l.length):l.take i++ [nth l i d]=l.take (i+1):=by rw [zkm,zkd h,List.take_append_getElem h]
def ycQ (e:dW) (s:Bool×List dW) (x:dW):Bool×List dW:=(s.1||leb e.1 x.1,(bif !s.1&&leb e.1 x.1 then s.2++ [e] else s.2)++(bif x.1 !=e.1 then [x] else []))
def yID (l:List dW) (e:dW):List dW:=bif (l.foldl (ycQ e) (false,[])).1 then (l.foldl (ycQ e) (false,[])).2 else (l.foldl (ycQ e) (false,[])).2++ [e]
def yII (a:dA) (l:List dW):dA:=(a.1,a.2.1,a.2.2.1,a.2.2.2.1,a.2.2.2.2.1,a.2.2.2.2.2.1,a.2.2.2.2.2.2.1,a.2.2.2.2.2.2.2.1,l,a.2.2.2.2.2.2.2.2.2)
def offA (a:dA):dA:=(a.1,a.2.1,a.2.2.1,a.2.2.2.1,a.2.2.2.2.1,a.2.2.2.2.2.1,a.2.2.2.2.2.2.1,a.2.2.2.2.2.2.2.1,a.2.2.2.2.2.2.2.2.1,-1,true,a.2.2.2.2.2.2.2.2.2.2.2)
abbrev noMem:dM:=([],[],false,[])
def isW (x:Int):Bool:=leb 0 x&&leb x 65535
def yal (s:List Int):Bool:=leb (s.length:Int) 12&&s.all isW
theorem y5C {x:Int}:isW x=true↔0≤x∧x≤65535:=by simp [isW,zjD]
theorem yabB {s:List Int}:yal s=true↔s.length≤12∧ ∀ x∈s,0≤x∧x≤65535:=by
 simp only [yal,Bool.and_eq_true,zjD,List.all_eq_true,y5C]
 constructor
 ·rintro ⟨h1,h2⟩; exact ⟨by omega,h2⟩
 ·rintro ⟨h1,h2⟩; exact ⟨by omega,h2⟩
theorem yaaC: ∀ {l:List Int},l.Pairwise (· < ·)↔ ∀ i,i+1 < l.length→l.getD i 0 < l.getD (i+1) 0
 | []=>by simp
 | [x]=>by simp
 | x::y::l=>by
  have ih:=yaaC (l:=y::l)
  constructor
  ·intro h i hi
   cases h with
   | cons h1 h2 =>
    cases i with
    | zero=>exact h1 y List.mem_cons_self
    | succ i=>exact ih.1 h2 i (by simpa using hi)
  ·intro h
   have h2:(y::l).Pairwise (· < ·):=ih.2 fun i hi=>h (i+1) (by simpa using hi)
   refine .cons (fun z hz=> ?_) h2
   have h3:x < y:=h 0 (by simp)
   rcases List.mem_cons.1 hz with rfl | hz
   ·exact h3
   ·cases h2 with
    | cons h4 _=>exact Int.lt_trans h3 (h4 z hz)
def yuq (n:Nat) (l:List Int):Bool:=l.all (fun x=>inb x n)&&decide (l.Pairwise (· < ·))
def yAN (n:Nat) (w:dW):Bool:=inb w.1 n&&yal w.2
def yu (m:dM):Bool:=m.1.all yal&&m.2.1.all (yAN m.1.length)&&yuq m.1.length m.2.2.2&&leb 1 (m.1.length:Int)&&leb (m.1.length:Int) 20&&leb (m.2.1.length:Int) 60
def yKa (n:Nat) (l:List Int) (i:Nat):Bool:= !(inb (l.getD i 0) n)||(decide (0 < i)&&leb (l.getD i 0) (l.getD (i - 1) 0))
theorem y7b (n:Nat) (l:List Int):(List.range l.length).any (yKa n l)= !(yuq n l):=by
 rw [Bool.eq_iff_iff,List.any_eq_true,Bool.not_eq_true',yuq,Bool.and_eq_false_iff,decide_eq_false_iff_not,yaaC,List.all_eq_false]
 simp only [List.mem_range,yKa,Bool.or_eq_true,Bool.not_eq_true',Bool.and_eq_true,decide_eq_true_eq,zjD]
 constructor
 ·rintro ⟨i,hi,h | ⟨h1,h2⟩⟩
  ·exact .inl ⟨l[i],List.getElem_mem hi,by rw [zkd hi]at h; simp [h]⟩
  ·refine .inr fun h3=> ?_
   have:=h3 (i - 1) (by omega)
   rw [show i - 1+1=i by omega]at this
   omega
 ·rintro (⟨x,hx,h⟩ | h)
  ·obtain ⟨i,hi,rfl⟩:=List.getElem_of_mem hx
   exact ⟨i,hi,.inl (by rw [zkd hi]; simpa using h)⟩
  ·refine Classical.byContradiction fun hc=>h fun i hi=> ?_
   refine Classical.byContradiction fun h4=>hc ⟨i+1,hi,.inr ⟨by omega,?_⟩⟩
   rw [Nat.add_sub_cancel]; omega
def yM3 (n:Int) (c:List dW) (s:List Int):List Int:=c.foldl (fun s w=>bif w.1==n then w.2 else s) s
def yGy (m:dM) (n:Int):Bool:=yu m&&(!m.2.2.1&&(inb n m.1.length&& !(m.2.2.2.any (· ==n))))
def yr (m:dM) (n:Int):List Int×Bool:=bif yGy m n then (yM3 n m.2.1 (nth m.1 n []),true) else ([],false)
theorem yNY {P:List Int→Prop} {n:Int}: ∀ {c:List dW} {s:List Int},P s→(∀ w∈c,P w.2)→P (yM3 n c s)
 | [],_,h,_=>h
 | w::c,s,h,hc=>yNY (c:=c) (zkk (hc w List.mem_cons_self) h) (fun x hx=>hc x (List.mem_cons_of_mem _ hx))
theorem yfH {α:Type} {P:α→Prop} {l:List α} {i:Int} {d:α} (h:inb i l.length=true) (hl: ∀ x∈l,P x):P (nth l i d):=by
 obtain ⟨h1,h2⟩:=zjC.1 h
 unfold nth
 rw [zkd (show i.toNat < l.length by omega)]
 exact hl _ (List.getElem_mem _)
theorem y5z {α:Type} {p:α→Bool} {l:List α} (h:leb 0 (yR p l)=false):yR p l= -1:=by
 unfold yR at h ⊢
 cases ha:l.any p
 ·rfl
 ·rw [ha,cond_true,zkw (show (0:Int)≤((l.takeWhile (fun x=> !p x)).length:Int) by omega)] at h; cases h
theorem y7p {α:Type} {p:α→Bool}: ∀ {l:List α},leb 0 (yR p l)=true→(l.take ((yR p l).toNat+1)).filter (fun x=> !p x)=l.take (yR p l).toNat
 | [],h=>by rw [y7o]at h; cases h
 | x::l,h=>by
  rw [yGt]at h ⊢
  cases hx:p x
  ·rw [hx]at h
   cases hl:leb 0 (yR p l)
   ·rw [hl]at h; cases h
   ·have h4:=zjD.1 hl
    simp only [cond_false,cond_true]
    rw [show (yR p l+1).toNat=(yR p l).toNat+1 by omega,List.take_succ_cons,List.take_succ_cons,List.filter_cons,hx,y7p hl]; rfl
  ·simp only [cond_true]
   show List.filter (fun x=> !p x) [x]= []
   rw [List.filter_cons,hx]; rfl
theorem yabY {α:Type} {p:α→Bool} {l:List α} (h:leb 0 (yR p l)=false):l.filter (fun x=> !p x)=l:=by
 rw [List.filter_eq_self]
 intro x hx
 unfold yR at h
 cases ha:l.any p
 ·have:=List.any_eq_false.1 ha x hx
  simpa using this
 ·rw [ha,cond_true,zkw (show (0:Int)≤((l.takeWhile (fun x=> !p x)).length:Int) by omega)] at h; cases h
def yQ (a:dA):dA:=(a.1,a.2.1,a.2.2.1,a.2.2.2.1,a.2.2.2.2.1,IntKind.i64.wrap (a.2.2.2.2.2.1+1),a.2.2.2.2.2.2)
def dataAt (s:Int):Int:=bif leb 0 s&&leb s 1099511627776 then s+6 else -1
def yff (a:dA) (m s:Int):Bool:=inb m a.2.2.1.length&&(!(nth a.2.2.1 m noMem).2.2.1&&(m !=a.2.2.2.1||ltb s a.2.2.2.2.1))
def yuR (a:dA) (m s:Int):List Int×Bool:=yr (nth a.2.2.1 m noMem) (dataAt s)
def yP (a:dA) (m s:Int):Bool:=yff a m s&&((yuR a m s).2&&((yuR a m s).1.length:Int)==1)
def yOf (a:dA) (m s:Int):Int:=bif yP a m s then nth (yuR a m s).1 0 0 else 0
def xw (a b:Int):Int:=IntKind.i64.wrap ((BitVec.ofInt IntKind.i64.bits a ^^^ BitVec.ofInt IntKind.i64.bits b).toNat:Int)
def yg3 (l:List Int):Int:=l.foldl xw 0
def bv (x:Int):BitVec 64:=BitVec.ofInt 64 x
theorem y88 (a b:Int):xw a b=(bv a ^^^ bv b).toInt:=by
 show IntKind.i64.wrap ((bv a ^^^ bv b).toNat:Int)=_
 rw [IntKind.wrap_i64,BitVec.toInt_eq_toNat_cond]
 have:=(bv a ^^^ bv b).isLt
 split<;>omega
theorem yNx (v:BitVec 64):bv v.toInt=v:=by unfold bv; simp
def y0h (l:List Int):BitVec 64:=l.foldl (fun v x=>v ^^^ bv x) 0#64
theorem y0g (l:List Int):yg3 l=(y0h l).toInt:=by
 have: ∀ (l:List Int) (v:BitVec 64),l.foldl xw v.toInt=(l.foldl (fun v x=>v ^^^ bv x) v).toInt:=by
  intro l
  induction l with
  | nil=>intro _; rfl
  | cons x l ih =>
   intro v
   rw [List.foldl_cons,List.foldl_cons,y88,yNx,ih]
 have h:=this l 0#64
 rwa [show (0#64:BitVec 64).toInt=0 from by decide]at h
theorem yabK (l:List Int) (x:Int):y0h (l++ [x])=y0h l ^^^ bv x:=by unfold y0h; rw [List.foldl_append]; rfl
theorem yacd {i:Int} {n:Nat} (h: ¬ (0≤i∧i < (n:Int))):inb i n=false:=by
 cases e:inb i n
 ·rfl
 ·exact absurd (zjC.1 e) h
def yB9 (l:List Int) (k:Int):Int:=bif inb k l.length then xw (yg3 l) (nth l k 0) else yg3 l
theorem yabL (u v:BitVec 64):u ^^^ v ^^^ v=u:=by rw [BitVec.xor_assoc,BitVec.xor_self,BitVec.xor_zero]
theorem yabv (l:List Int) (k:Int):(List.range l.length).foldl (fun n (i:Nat)=>bif (i:Int) !=k then xw n (nth l i 0) else n) 0=yB9 l k:=by
 have: ∀ n,n≤l.length→(List.range n).foldl (fun n (i:Nat)=>bif (i:Int) !=k then xw n (nth l i 0) else n) 0=(bif inb k n then y0h (l.take n) ^^^ bv (nth l k 0) else y0h (l.take n)).toInt:=by
  intro n
  induction n with
  | zero =>
   intro _
   rw [yacd (show ¬ (0≤k∧k < ((0:Nat):Int)) by omega)]
   rfl
  | succ n ih =>
   intro hn
   rw [List.range_succ,List.foldl_append,List.foldl_cons,List.foldl_nil,ih (by omega),← y7C l 0 (show n < l.length by omega),yabK]
   by_cases hk:(n:Int)=k
   ·subst hk
    rw [show ((n:Int) !=n)=false by simp,cond_false,yacd (show ¬ (0≤(n:Int)∧(n:Int) < (n:Int)) by omega),show inb (n:Int) (n+1)=true from zkl (Nat.lt_succ_self n),cond_false,cond_true,yabL]
   ·rw [show ((n:Int) !=k)=true from bne_iff_ne.2 hk,cond_true,show inb k (n+1)=inb k n by rw [Bool.eq_iff_iff,zjC,zjC]; omega,y88,yNx]
    cases inb k n
    ·rfl
    ·rw [cond_true,cond_true,BitVec.xor_assoc,BitVec.xor_comm (bv (nth l k 0)),← BitVec.xor_assoc]
 rw [this l.length (Nat.le_refl _),List.take_length]
 unfold yB9
 rw [y88,y0g,yNx]
 cases inb k l.length<;>rfl
theorem yabu {l:List Int} {k:Int} (h:inb k l.length=true) (h0:nth l k 0=0):yB9 l k=yg3 l:=by
 unfold yB9
 rw [h,h0,cond_true,y88,y0g,yNx,show bv 0=0#64 by decide,BitVec.xor_zero]
abbrev yK:dA:=(0,(0,0),[],0,0,0,0,0,[],0,false,false)
def yNw (k:Int) (i:Nat):Bool:=IntKind.i64.wrap ((BitVec.ofInt IntKind.i64.bits (k.fdiv (2 ^ (min (i:Int).toNat IntKind.i64.bits))) &&& BitVec.ofInt IntKind.i64.bits 1).toNat:Int)==1
def y9M (k:Int):Int:=bif leb 0 k&&leb k 1048575 then k else 0
def ybH (b:Nat→Bool) (c:List dW) (l:List (List Int)) (i:Nat):List (List Int):=bif b i then l.set (nth c i (0,[])).1.toNat (nth c i (0,[])).2 else l
def ybP (b:Nat→Bool) (c:List dW) (l:List (List Int)):List (List Int):=(List.range c.length).foldl (ybH b c) l
def ygU (m:dM) (k:Int):dM:=bif yu m then (ybP (fun i=>decide (i < 20)&&yNw (y9M k) i) m.2.1 m.1,[],m.2.2.1,m.2.2.2) else m
def yIe (ks:List Int) (i:Nat):Int:=bif decide (i < ks.length) then nth ks i 0 else 0
def ybf (l:List dM) (ks:List Int):List dM:=(List.range l.length).map (fun (i:Nat)=>ygU (nth l i noMem) (yIe ks i))
theorem yaw {m:dM} (h:yu m=true):m.1.all yal=true∧m.2.1.all (yAN m.1.length)=true∧yuq m.1.length m.2.2.2=true∧1≤m.1.length∧m.1.length≤20∧m.2.1.length≤60:=by
 simp only [yu,Bool.and_eq_true,zjD]at h
 exact ⟨h.1.1.1.1.1,h.1.1.1.1.2,h.1.1.1.2,by omega,by omega,by omega⟩
theorem yNI {m:dM} (h:yu m=true) {i:Nat} (hi:i < m.2.1.length):inb (nth m.2.1 i (0,[])).1 m.1.length=true∧yal (nth m.2.1 i (0,[])).2=true:=by
 have h1:=List.all_eq_true.1 (yaw h).2.1 m.2.1[i] (List.getElem_mem hi)
 rw [zkm,zkd hi]
 exact Bool.and_eq_true_iff.1 h1
theorem yzZ {b:Nat→Bool} {c:List dW} {l:List (List Int)} {i:Nat}:(ybH b c l i).length=l.length:=by
 unfold ybH; cases b i
 ·rfl
 ·exact List.length_set
theorem y1I {α β:Type} (P:β→Prop) (f:β→α→β) (h: ∀ s x,P s→P (f s x)): ∀ (l:List α) (s:β),P s→P (l.foldl f s)
 | [],_,hs=>hs
 | x::l,s,hs=>y1I P f h l (f s x) (h s x hs)
theorem yCE {b:Nat→Bool} {c:List dW} {l:List (List Int)}:(ybP b c l).length=l.length :=
 y1I (fun x=>x.length=l.length) _ (fun s x hs=>by rw [yzZ]; exact hs) _ l rfl
theorem yaaq (b:Nat→Bool) (c:List dW) (l:List (List Int)):ybP (fun i=>decide (i < 20)&&b i) c l=(List.range (min c.length 20)).foldl (ybH b c) l:=by
 have h1: ∀ n,n≤20→ ∀ l,(List.range n).foldl (ybH (fun i=>decide (i < 20)&&b i) c) l=(List.range n).foldl (ybH b c) l:=by
  intro n
  induction n with
  | zero=>intro _ _; rfl
  | succ n ih =>
   intro hn l
   rw [List.range_succ,List.foldl_append,List.foldl_append,ih (by omega)]
   simp only [List.foldl_cons,List.foldl_nil,ybH,show decide (n < 20)=true from decide_eq_true (by omega),Bool.true_and]
 have h2: ∀ n,20≤n→ ∀ l,(List.range n).foldl (ybH (fun i=>decide (i < 20)&&b i) c) l=(List.range 20).foldl (ybH b c) l:=by
  intro n
  induction n with
  | zero=>intro h; omega
  | succ n ih =>
   intro hn l
   by_cases h:20≤n
   ·rw [List.range_succ,List.foldl_append,ih h]
    simp only [List.foldl_cons,List.foldl_nil,ybH,show decide (n < 20)=false from decide_eq_false (by omega),Bool.false_and,cond_false]
   ·rw [h1 (n+1) (by omega),show n+1=20 by omega]
 unfold ybP
 by_cases h:c.length≤20
 ·rw [h1 _ h,Nat.min_eq_left h]
 ·rw [h2 _ (by omega),Nat.min_eq_right (by omega)]
theorem yaap {P:List Int→Prop} {b:Nat→Bool} {c:List dW} {l:List (List Int)} (hl: ∀ x∈l,P x) (hc: ∀ w∈c,P w.2): ∀ x∈ybP b c l,P x:=by
 have: ∀ (n:Nat),n≤c.length→ ∀ x∈(List.range n).foldl (ybH b c) l,P x:=by
  intro n
  induction n with
  | zero=>intro _; exact hl
  | succ n ih =>
   intro hn x hx
   rw [List.range_succ,List.foldl_append,List.foldl_cons,List.foldl_nil,ybH]at hx
   cases hb:b n
   ·rw [hb]at hx; exact ih (by omega) x hx
   ·rw [hb,cond_true]at hx
    rcases List.mem_or_eq_of_mem_set hx with h | h
    ·exact ih (by omega) x h
    ·rw [h,zkm,zkd (show n < c.length by omega)]
     exact hc _ (List.getElem_mem _)
 exact this _ (Nat.le_refl _)
def yBW (m:dM) (n:Int) (s:List Int):Bool:=yu m&&(!m.2.2.1&&(inb n m.1.length&&(yal s&&ltb (m.2.1.length:Int) 60)))
def y66 (l:List Int) (n:Int):List Int:=l.filter (· !=n)
def yhd (m:dM) (n:Int) (s:List Int):dM×Bool:=bif yBW m n s then ((m.1,m.2.1++ [(n,s)],m.2.2.1,y66 m.2.2.2 n),true) else (m,false)
def yfC (m:dM):dM:=bif yu m&& !m.2.2.1 then (ybP (fun _=>true) m.2.1 m.1,[],m.2.2.1,m.2.2.2) else m
def yyj (m:dM):dM:=(m.1,[],true,m.2.2.2)
end
section
def yj7:Code:=(Tryz.f36.body).getD .skip
def yq9:Env:=zj2 TT [] []
theorem yRP:FrOk Tryz.prog ⟨yq9,26,fun _=>none⟩ yj7:=zj6 yc yd trivial
def yES:Nat→Option Seg:=fun _=>none
def ydm:Shape:=⟨[(0,false,[.br tI]),(1,false,[.br tI]),(5,false,[.int .i64])],[],[]⟩
def ykK:Shape:=⟨[(0,false,[.br tI]),(1,false,[.br tI]),(5,false,[.ci .i64 0])],[],[]⟩
def ykv:Shape:=⟨[],[],[]⟩
def ylc:Shape:=⟨[(4,false,[.bool])],[],[]⟩
def yqZ (v0 v1:List Int) (v2:Int):Option ((ydm).X ⊕ ((ykv).X ⊕ (ylc).X)) :=
 bif (ltb v2 (v0.length:Int)) then
 bif (inb v2 v0.length) then
 bif (inb v2 v1.length) then
 bif ((nth v0 v2 0) !=(nth v1 v2 0)) then
 some (.inr (.inr (((false,()),()),(),())))
 else
 some (.inl (((v0,()),(v1,()),((IntKind.i64.wrap (v2+1)),()),()),(),()))
 else none
 else none
 else
 some (.inr (.inl ((),(),())))
def yb0 (x:(ydm).X):=yqZ x.1.1.1 x.1.2.1.1 x.1.2.2.1.1
def yBd (x:(ykK).X):(ydm).X:=(((x.1.1.1,()),(x.1.2.1.1,()),(0,()),()),(),())
def yC5:Code:=(zdD yj7 64 116).getD .skip
theorem yRd:zdD yj7 64 29=some (.block 0 (.loop yC5)):=by kernel_rfl
theorem yTb (x:(ydm).X):zg0 ⟨yq9,26,yES⟩ 0 yC5 116 ydm ykv ylc x=yb0 x:=by kernel_rfl
def yBp (x:(ykK).X):Nat:=18446744073709551616
def ysI (x:(ykK).X):Option ((ykv).X ⊕ (ylc).X):=zz yb0 (yBp x) (yBd x)
def yBH:Seg:=⟨ykK,ykv,ylc,ysI⟩
def yET:Nat→Option Seg:=fun q=>bif Nat.beq q 29 then some yBH else yES q
theorem yRQ:FrOk Tryz.prog ⟨yq9,26,yET⟩ yj7:=(yRP).loop (sg:=yBH) ydm yBd (by decide) yRd yb0 yBp (by decide) (fun _=>rfl) (fun x r _ h=>h) yTb
abbrev ygH:List Par:= [.rd tL,.rd tL]
abbrev yrt:List OT:= [⟨false,tB,.fz⟩]
def ymy (a0 a1:List Int):Option (ResD yrt×MutD ygH) :=
 bif ((a0.length:Int) !=(a1.length:Int)) then
 some ((false,()),())
 else
 zjY (ysI (((a0,()),(a1,()),((),()),()),(),())) (fun y0 =>
 some ((true,()),())) (fun y0 =>
 some ((y0.1.1.1,()),()))
theorem y1p (x:InD ygH):zjw ⟨yq9,26,yET⟩ Tryz.f36.results.toList yj7 ygH yrt x=ymy x.1 x.2.1:=by kernel_rfl
theorem yVA:ConOk Tryz.prog 36 ⟨ygH,yrt,fun x=>ymy x.1 x.2.1⟩:=zj1 (yRQ) Tryz.func36 (by kernel_rfl) (by kernel_rfl) Tryz.ntmps36.symm (by decide) (fun x r h=>(y1p x).trans h)
def yaj (a0 a1:List Int):Bool:=decide (a0=a1)
theorem yYW (a0 a1:List Int) (hk:zi1 ygH (a0,a1,())):ymy a0 a1=(fun n=>some ((n,()),())) (yaj a0 a1):=by
 have hb:a0.length * 8≤2 ^ 47:=hk.1.1
 have hl:a0.length=a1.length→ysI (((a0,()),(a1,()),((),()),()),(),())=some (bif (List.range a0.length).any (fun i=>a0.getD i 0 !=a1.getD i 0) then .inr (((false,()),()),(),()) else .inl ((),(),())):=fun hL =>
  ziN (step:=yb0) (fun i=>(((a0,()),(a1,()),((i:Int),()),()),(),())) a0.length (fun i=>a0.getD i 0 !=a1.getD i 0) _ _ (fun i hi=>by
   simp only [yb0,yqZ,zkl hi,zkl (hL ▸ hi),zkm,zj4 (show (i:Int) < a0.length by omega),cond_true,wr (show -9223372036854775808≤(i:Int)+1 by omega) (by omega),Int.natCast_add,Int.natCast_one]
   cases (a0.getD i 0 !=a1.getD i 0)<;>rfl) (by simp only [yb0,yqZ,zkx (Int.le_refl _),cond_false]) _ (by show _ < 18446744073709551616; omega)
 unfold ymy yaj
 by_cases h:a0.length=a1.length
 ·rw [show ((a0.length:Int) !=(a1.length:Int))=false by simp [h],zkt,hl h]
  by_cases e:a0=a1
  ·subst e
   have:(List.range a0.length).any (fun i=>a0.getD i 0 !=a0.getD i 0)=false:=by simp
   rw [this,decide_eq_true rfl]
   rfl
  ·have:(List.range a0.length).any (fun i=>a0.getD i 0 !=a1.getD i 0)=true:=by
    rcases Bool.eq_false_or_eq_true ((List.range a0.length).any (fun i=>a0.getD i 0 !=a1.getD i 0)) with h2 | h2
    ·exact h2
    ·refine absurd (List.ext_getElem h fun i h3 h4=> ?_) e
     rw [List.any_eq_false]at h2
     have:=h2 i (List.mem_range.2 h3)
     simpa [h3,h4] using this
   rw [this,decide_eq_false e]
   rfl
 ·rw [show ((a0.length:Int) !=(a1.length:Int))=true from bne_iff_ne.2 (by omega),zku,decide_eq_false (fun e=>h (congrArg _ e))]
theorem yqn (a:List Int):yaj a a=true:=by unfold yaj; simp
def ymg:Con:=⟨ygH,yrt,fun x=>(fun n=>some ((n,()),())) (yaj x.1 x.2.1)⟩
theorem yxJ:ConOk Tryz.prog 36 ymg:=(yVA).mono (fun x r hk h=>(yYW x.1 x.2.1 hk).trans h)
end
section
def yix:Code:=(Tryz.f56.body).getD .skip
def yog:Env:=zj2 TT [(36,ymg)] []
theorem yPU:FrOk Tryz.prog ⟨yog,42,fun _=>none⟩ yix:=zj6 yc yd ⟨yxJ,trivial⟩
def yCN:Nat→Option Seg:=fun _=>none
def ya2:Shape:=⟨[(0,false,[.br tW]),(1,false,[.br tW]),(5,false,[.int .i64])],[],[]⟩
def ye8:Shape:=⟨[(0,false,[.br tW]),(1,false,[.br tW]),(5,false,[.ci .i64 0])],[],[]⟩
def yeZ:Shape:=⟨[],[],[]⟩
def yjt:Shape:=⟨[(4,false,[.bool])],[],[]⟩
abbrev yoK (v0 v1:List dW) (v2:Int):(ya2).X:=(((v0,()),(v1,()),(v2,()),()),(),())
abbrev yNR (v0 v1:List dW):(ye8).X:=(((v0,()),(v1,()),((),()),()),(),())
abbrev yz6  :(yeZ).X:=((),(),())
def ypj (v0 v1:List dW) (v2:Int):Option ((ya2).X ⊕ ((yeZ).X ⊕ (yjt).X)) :=
 bif (ltb v2 (v0.length:Int)) then
 bif (inb v2 v0.length) then
 bif (inb v2 v1.length) then
 bif (!((nth v0 v2 (0,[])).1 !=(nth v1 v2 (0,[])).1)) then
 bif (inb v2 v0.length) then
 bif (inb v2 v1.length) then
 let r2:=yaj ((nth v0 v2 (0,[])).2) ((nth v1 v2 (0,[])).2)
 bif (!r2) then
 some (.inr (.inr (((false,()),()),(),())))
 else
 some (.inl (((v0,()),(v1,()),((IntKind.i64.wrap (v2+1)),()),()),(),()))
 else none
 else none
 else
 some (.inr (.inr (((false,()),()),(),())))
 else none
 else none
 else
 some (.inr (.inl ((),(),())))
def ybl (x:(ya2).X):=ypj x.1.1.1 x.1.2.1.1 x.1.2.2.1.1
def yzH (x:(ye8).X):(ya2).X:=(((x.1.1.1,()),(x.1.2.1.1,()),(0,()),()),(),())
def yAX:Code:=(zdD yix 64 116).getD .skip
theorem yPE:zdD yix 64 29=some (.block 0 (.loop yAX)):=by kernel_rfl
theorem yQu (x:(ya2).X):zg0 ⟨yog,42,yCN⟩ 0 yAX 116 ya2 yeZ yjt x=ybl x:=by kernel_rfl
def yzS (x:(ye8).X):Nat:=18446744073709551616
def yqx (x:(ye8).X):Option ((yeZ).X ⊕ (yjt).X):=zz ybl (yzS x) (yzH x)
def yAC:Seg:=⟨ye8,yeZ,yjt,yqx⟩
def yCO:Nat→Option Seg:=fun q=>bif Nat.beq q 29 then some yAC else yCN q
theorem yPV:FrOk Tryz.prog ⟨yog,42,yCO⟩ yix:=(yPU).loop (sg:=yAC) ya2 yzH (by decide) yPE ybl yzS (by decide) (fun _=>rfl) (fun x r _ h=>h) yQu
abbrev yiB:List Par:= [.rd tWs,.rd tWs]
abbrev yoo:List OT:= [⟨false,tB,.fz⟩]
def ydx (a0 a1:List dW):Option (ResD yoo×MutD yiB) :=
 bif ((a0.length:Int) !=(a1.length:Int)) then
 some ((false,()),())
 else
 zjY (yqx (((a0,()),(a1,()),((),()),()),(),())) (fun y2 =>
 some ((true,()),())) (fun y2 =>
 some ((y2.1.1.1,()),()))
theorem yW9 (x:InD yiB):zjw ⟨yog,42,yCO⟩ Tryz.f56.results.toList yix yiB yoo x=ydx x.1 x.2.1:=by kernel_rfl
theorem ySS:ConOk Tryz.prog 56 ⟨yiB,yoo,fun x=>ydx x.1 x.2.1⟩:=zj1 (yPV) Tryz.func56 (by kernel_rfl) (by kernel_rfl) Tryz.ntmps56.symm (by decide) (fun x r h=>(yW9 x).trans h)
def yDe:Con:=⟨yiB,yoo,fun x=>ydx x.1 x.2.1⟩
theorem yVV:ConOk Tryz.prog 56 yDe:=ySS
theorem yaa9 (l:List dW) (h:l.length≤1000000000):ydx l l=some ((true,()),()):=by
 have l1:yqx (yNR l l)=some (.inl yz6) :=
  zj8 (step:=ybl) l.length (fun i (_:Unit)=>yoK l l i) (fun _ _=>()) (fun _ _=>True) (fun _=> .inl yz6) (fun i s hi _=>⟨by
   simp only [ybl,yoK,ypj,zj4 (show (i:Int) < l.length by omega),cond_true,wr (show -9223372036854775808≤(i:Int)+1 by omega) (by omega),Int.natCast_add,Int.natCast_one,Int.toNat_natCast,zkl hi,yqn,bne_self_eq_false,Bool.not_true,Bool.not_false,cond_true,cond_false],trivial⟩) (fun s _=>by simp only [ybl,yoK,ypj,zkx (Int.le_refl _),cond_false]) () trivial 18446744073709551616 (by omega)
 unfold ydx
 rw [bne_self_eq_false,cond_false]
 exact (congrArg (fun z=>zjY z _ _) l1).trans rfl
end
section
def ydi:Code:=(Tryz.f167.body).getD .skip
def yh8:Env:=zj2 TT [(36,ymg)] []
theorem yUr:FrOk Tryz.prog ⟨yh8,93,fun _=>none⟩ ydi:=zj6 yc yd ⟨yxJ,trivial⟩
def yGS:Nat→Option Seg:=fun _=>none
def ycd:Shape:=⟨[(2,false,[.ptr 0 0]),(3,false,[.ptr 64 0]),(5,false,[.int .i64])],[(0,[.br tL,.br tW,.bool,.br tI]),(64,[.br tL,.br tW,.bool,.br tI])],[]⟩
def yhE:Shape:=⟨[(2,false,[.ptr 0 0]),(3,false,[.ptr 64 0]),(5,false,[.ci .i64 0])],[(0,[.br tL,.br tW,.bool,.br tI]),(64,[.br tL,.br tW,.bool,.br tI])],[]⟩
def yhp:Shape:=⟨[(2,false,[.ptr 0 0]),(3,false,[.ptr 64 0])],[(0,[.br tL,.br tW,.bool,.br tI]),(64,[.br tL,.br tW,.bool,.br tI])],[]⟩
def yl9:Shape:=⟨[(4,false,[.bool])],[],[]⟩
abbrev yth (v0:Int) (v1 v2:dM):(ycd).X:=((((),()),((),()),(v0,()),()),((v1.1,v1.2.1,v1.2.2.1,v1.2.2.2,()),(v2.1,v2.2.1,v2.2.2.1,v2.2.2.2,()),()),())
abbrev ySu (v0 v1:dM):(yhE).X:=((((),()),((),()),((),()),()),((v0.1,v0.2.1,v0.2.2.1,v0.2.2.2,()),(v1.1,v1.2.1,v1.2.2.1,v1.2.2.2,()),()),())
abbrev yDW (v0 v1:dM):(yhp).X:=((((),()),((),()),()),((v0.1,v0.2.1,v0.2.2.1,v0.2.2.2,()),(v1.1,v1.2.1,v1.2.2.1,v1.2.2.2,()),()),())
def ytF (v0:Int) (v1:List (List Int)) (v2:List dW) (v3:Bool) (v4:List Int) (v5:List (List Int)) (v6:List dW) (v7:Bool) (v8:List Int):Option ((ycd).X ⊕ ((yhp).X ⊕ (yl9).X)) :=
 bif (ltb v0 (v1.length:Int)) then
 bif (inb v0 v1.length) then
 bif (inb v0 v5.length) then
 let r3:=yaj (nth v1 v0 []) (nth v5 v0 [])
 bif (!r3) then
 some (.inr (.inr (((false,()),()),(),())))
 else
 some (.inl ((((),()),((),()),((IntKind.i64.wrap (v0+1)),()),()),((v1,v2,v3,v4,()),(v5,v6,v7,v8,()),()),()))
 else none
 else none
 else
 some (.inr (.inl ((((),()),((),()),()),((v1,v2,v3,v4,()),(v5,v6,v7,v8,()),()),())))
def ycD (x:(ycd).X):=ytF x.1.2.2.1.1 x.2.1.1.1 x.2.1.1.2.1 x.2.1.1.2.2.1 x.2.1.1.2.2.2.1 x.2.1.2.1.1 x.2.1.2.1.2.1 x.2.1.2.1.2.2.1 x.2.1.2.1.2.2.2.1
def yDp (x:(yhE).X):(ycd).X:=((((),()),((),()),(0,()),()),((x.2.1.1.1,x.2.1.1.2.1,x.2.1.1.2.2.1,x.2.1.1.2.2.2.1,()),(x.2.1.2.1.1,x.2.1.2.1.2.1,x.2.1.2.1.2.2.1,x.2.1.2.1.2.2.2.1,()),()),())
def yFh:Code:=(zdD ydi 64 116).getD .skip
theorem yTS:zdD ydi 64 29=some (.block 0 (.loop yFh)):=by kernel_rfl
theorem yV7 (x:(ycd).X):zg0 ⟨yh8,93,yGS⟩ 0 yFh 116 ycd yhp yl9 x=ycD x:=by kernel_rfl
def yDH (x:(yhE).X):Nat:=18446744073709551616
def yu1 (x:(yhE).X):Option ((yhp).X ⊕ (yl9).X):=zz ycD (yDH x) (yDp x)
def yEa:Seg:=⟨yhE,yhp,yl9,yu1⟩
def yw6:Nat→Option Seg:=fun q=>bif Nat.beq q 29 then some yEa else yGS q
theorem yUs:FrOk Tryz.prog ⟨yh8,93,yw6⟩ ydi:=(yUr).loop (sg:=yEa) ycd yDp (by decide) yTS ycD yDH (by decide) (fun _=>rfl) (fun x r _ h=>h) yV7
def yce:Shape:=⟨[(2,false,[.ptr 0 0]),(3,false,[.ptr 64 0]),(6,false,[.int .i64])],[(0,[.br tL,.br tW,.bool,.br tI]),(64,[.br tL,.br tW,.bool,.br tI])],[]⟩
def yhF:Shape:=⟨[(2,false,[.ptr 0 0]),(3,false,[.ptr 64 0]),(6,false,[.ci .i64 0])],[(0,[.br tL,.br tW,.bool,.br tI]),(64,[.br tL,.br tW,.bool,.br tI])],[]⟩
def yhq:Shape:=⟨[],[],[]⟩
def yma:Shape:=⟨[(4,false,[.bool])],[],[]⟩
abbrev yti (v0:Int) (v1 v2:dM):(yce).X:=((((),()),((),()),(v0,()),()),((v1.1,v1.2.1,v1.2.2.1,v1.2.2.2,()),(v2.1,v2.2.1,v2.2.2.1,v2.2.2.2,()),()),())
abbrev ySv (v0 v1:dM):(yhF).X:=((((),()),((),()),((),()),()),((v0.1,v0.2.1,v0.2.2.1,v0.2.2.2,()),(v1.1,v1.2.1,v1.2.2.1,v1.2.2.2,()),()),())
abbrev yDX  :(yhq).X:=((),(),())
def ytG (v0:Int) (v1:List (List Int)) (v2:List dW) (v3:Bool) (v4:List Int) (v5:List (List Int)) (v6:List dW) (v7:Bool) (v8:List Int):Option ((yce).X ⊕ ((yhq).X ⊕ (yma).X)) :=
 bif (ltb v0 (v2.length:Int)) then
 bif (inb v0 v2.length) then
 bif (inb v0 v6.length) then
 bif (!((nth v2 v0 (0,[])).1 !=(nth v6 v0 (0,[])).1)) then
 bif (inb v0 v2.length) then
 bif (inb v0 v6.length) then
 let r6:=yaj ((nth v2 v0 (0,[])).2) ((nth v6 v0 (0,[])).2)
 bif (!r6) then
 some (.inr (.inr (((false,()),()),(),())))
 else
 some (.inl ((((),()),((),()),((IntKind.i64.wrap (v0+1)),()),()),((v1,v2,v3,v4,()),(v5,v6,v7,v8,()),()),()))
 else none
 else none
 else
 some (.inr (.inr (((false,()),()),(),())))
 else none
 else none
 else
 some (.inr (.inl ((),(),())))
def ycE (x:(yce).X):=ytG x.1.2.2.1.1 x.2.1.1.1 x.2.1.1.2.1 x.2.1.1.2.2.1 x.2.1.1.2.2.2.1 x.2.1.2.1.1 x.2.1.2.1.2.1 x.2.1.2.1.2.2.1 x.2.1.2.1.2.2.2.1
def yDq (x:(yhF).X):(yce).X:=((((),()),((),()),(0,()),()),((x.2.1.1.1,x.2.1.1.2.1,x.2.1.1.2.2.1,x.2.1.1.2.2.2.1,()),(x.2.1.2.1.1,x.2.1.2.1.2.1,x.2.1.2.1.2.2.1,x.2.1.2.1.2.2.2.1,()),()),())
def yFi:Code:=(zdD ydi 64 244).getD .skip
theorem yTT:zdD ydi 64 61=some (.block 2 (.loop yFi)):=by kernel_rfl
theorem yV8 (x:(yce).X):zg0 ⟨yh8,93,yw6⟩ 2 yFi 244 yce yhq yma x=ycE x:=by kernel_rfl
def yDI (x:(yhF).X):Nat:=18446744073709551616
def yu2 (x:(yhF).X):Option ((yhq).X ⊕ (yma).X):=zz ycE (yDI x) (yDq x)
def yEb:Seg:=⟨yhF,yhq,yma,yu2⟩
def yGT:Nat→Option Seg:=fun q=>bif Nat.beq q 61 then some yEb else yw6 q
theorem yUt:FrOk Tryz.prog ⟨yh8,93,yGT⟩ ydi:=(yUs).loop (sg:=yEb) yce yDq (by decide) yTT ycE yDI (by decide) (fun _=>rfl) (fun x r _ h=>h) yV8
abbrev ym7:List Par:= [.rd tM,.rd tM]
abbrev yuc:List OT:= [⟨false,tB,.fz⟩]
def yfL (a0 a1:dM):Option (ResD yuc×MutD ym7) :=
 bif (!((a0.1.length:Int) !=(a1.1.length:Int))) then
 bif (!((a0.2.1.length:Int) !=(a1.2.1.length:Int))) then
 bif (!(!(a0.2.2.1==a1.2.2.1))) then
 let r1:=yaj a0.2.2.2 a1.2.2.2
 bif (!r1) then
 some ((false,()),())
 else
 zjY (yu1 ((((),()),((),()),((),()),()),((a0.1,a0.2.1,a0.2.2.1,a0.2.2.2,()),(a1.1,a1.2.1,a1.2.2.1,a1.2.2.2,()),()),())) (fun y3 =>
 zjY (yu2 ((((),()),((),()),((),()),()),((y3.2.1.1.1,y3.2.1.1.2.1,y3.2.1.1.2.2.1,y3.2.1.1.2.2.2.1,()),(y3.2.1.2.1.1,y3.2.1.2.1.2.1,y3.2.1.2.1.2.2.1,y3.2.1.2.1.2.2.2.1,()),()),())) (fun y6 =>
 some ((true,()),())) (fun y6 =>
 some ((y6.1.1.1,()),()))) (fun y3 =>
 some ((y3.1.1.1,()),()))
 else
 some ((false,()),())
 else
 some ((false,()),())
 else
 some ((false,()),())
theorem y46 (x:InD ym7):zjw ⟨yh8,93,yGT⟩ Tryz.f167.results.toList ydi ym7 yuc x=yfL x.1 x.2.1:=by kernel_rfl
theorem yZm:ConOk Tryz.prog 167 ⟨ym7,yuc,fun x=>yfL x.1 x.2.1⟩:=zj1 (yUt) Tryz.func167 (by kernel_rfl) (by kernel_rfl) Tryz.ntmps167.symm (by decide) (fun x r h=>(y46 x).trans h)
def yHx:Con:=⟨ym7,yuc,fun x=>yfL x.1 x.2.1⟩
theorem y31:ConOk Tryz.prog 167 yHx:=yZm
theorem yab4 (m:dM) (h1:m.1.length≤1000000000) (h2:m.2.1.length≤1000000000):yfL m m=some ((true,()),()):=by
 have l1:yu1 (ySu m m)=some (.inl (yDW m m)) :=
  zj8 (step:=ycD) m.1.length (fun i (_:Unit)=>yth i m m) (fun _ _=>()) (fun _ _=>True) (fun _=> .inl (yDW m m)) (fun i s hi _=>⟨by
   simp only [ycD,yth,ytF,zj4 (show (i:Int) < m.1.length by omega),cond_true,wr (show -9223372036854775808≤(i:Int)+1 by omega) (by omega),Int.natCast_add,Int.natCast_one,Int.toNat_natCast,zkl hi,yqn,Bool.not_true,cond_false],trivial⟩) (fun s _=>by simp only [ycD,yth,ytF,zkx (Int.le_refl _),cond_false]) () trivial 18446744073709551616 (by omega)
 have l2:yu2 (ySv m m)=some (.inl yDX) :=
  zj8 (step:=ycE) m.2.1.length (fun i (_:Unit)=>yti i m m) (fun _ _=>()) (fun _ _=>True) (fun _=> .inl yDX) (fun i s hi _=>⟨by
   simp only [ycE,yti,ytG,zj4 (show (i:Int) < m.2.1.length by omega),cond_true,wr (show -9223372036854775808≤(i:Int)+1 by omega) (by omega),Int.natCast_add,Int.natCast_one,Int.toNat_natCast,zkl hi,yqn,bne_self_eq_false,Bool.not_true,Bool.not_false,cond_true,cond_false],trivial⟩) (fun s _=>by simp only [ycE,yti,ytG,zkx (Int.le_refl _),cond_false]) () trivial 18446744073709551616 (by omega)
 unfold yfL
 simp only [bne_self_eq_false,beq_self_eq_true,yqn,Bool.not_true,Bool.not_false,cond_true,cond_false]
 refine (congrArg (fun z=>zjY z _ _) l1).trans ?_
 rw [zkh]
 exact (congrArg (fun z=>zjY z _ _) l2).trans rfl
end
section
def yj8:Code:=(Tryz.f71.body).getD .skip
def yra:Env:=zj2 TT [(167,yHx)] []
theorem yRR:FrOk Tryz.prog ⟨yra,27,fun _=>none⟩ yj8:=zj6 yc yd ⟨y31,trivial⟩
def yEU:Nat→Option Seg:=fun _=>none
def ybB:Shape:=⟨[(0,false,[.br tM]),(1,false,[.br tM]),(5,false,[.int .i64])],[],[]⟩
def ygi:Shape:=⟨[(0,false,[.br tM]),(1,false,[.br tM]),(5,false,[.ci .i64 0])],[],[]⟩
def yf7:Shape:=⟨[],[],[]⟩
def yld:Shape:=⟨[(4,false,[.bool])],[],[]⟩
abbrev yqJ (v0 v1:List dM) (v2:Int):(ybB).X:=(((v0,()),(v1,()),(v2,()),()),(),())
abbrev yP9 (v0 v1:List dM):(ygi).X:=(((v0,()),(v1,()),((),()),()),(),())
abbrev yBy  :(yf7).X:=((),(),())
def yq0 (v0 v1:List dM) (v2:Int):Option ((ybB).X ⊕ ((yf7).X ⊕ (yld).X)) :=
 bif (ltb v2 (v0.length:Int)) then
 bif (inb v2 v0.length) then
 bif (inb v2 v1.length) then
 bnd (yfL ((nth v0 v2 ([],[],false,[])).1,((nth v0 v2 ([],[],false,[])).2).1,(((nth v0 v2 ([],[],false,[])).2).2)) ((nth v1 v2 ([],[],false,[])).1,((nth v1 v2 ([],[],false,[])).2).1,(((nth v1 v2 ([],[],false,[])).2).2))) fun r2 =>
 bif (!r2.1.1) then
 some (.inr (.inr (((false,()),()),(),())))
 else
 some (.inl (((v0,()),(v1,()),((IntKind.i64.wrap (v2+1)),()),()),(),()))
 else none
 else none
 else
 some (.inr (.inl ((),(),())))
def yb1 (x:(ybB).X):=yq0 x.1.1.1 x.1.2.1.1 x.1.2.2.1.1
def yBe (x:(ygi).X):(ybB).X:=(((x.1.1.1,()),(x.1.2.1.1,()),(0,()),()),(),())
def yC6:Code:=(zdD yj8 64 116).getD .skip
theorem yRe:zdD yj8 64 29=some (.block 0 (.loop yC6)):=by kernel_rfl
theorem yTc (x:(ybB).X):zg0 ⟨yra,27,yEU⟩ 0 yC6 116 ybB yf7 yld x=yb1 x:=by kernel_rfl
def yBq (x:(ygi).X):Nat:=18446744073709551616
def ysJ (x:(ygi).X):Option ((yf7).X ⊕ (yld).X):=zz yb1 (yBq x) (yBe x)
def yBI:Seg:=⟨ygi,yf7,yld,ysJ⟩
def yEV:Nat→Option Seg:=fun q=>bif Nat.beq q 29 then some yBI else yEU q
theorem yRS:FrOk Tryz.prog ⟨yra,27,yEV⟩ yj8:=(yRR).loop (sg:=yBI) ybB yBe (by decide) yRe yb1 yBq (by decide) (fun _=>rfl) (fun x r _ h=>h) yTc
abbrev ykk:List Par:= [.rd tMs,.rd tMs]
abbrev yru:List OT:= [⟨false,tB,.fz⟩]
def yaY (a0 a1:List dM):Option (ResD yru×MutD ykk) :=
 bif ((a0.length:Int) !=(a1.length:Int)) then
 some ((false,()),())
 else
 zjY (ysJ (((a0,()),(a1,()),((),()),()),(),())) (fun y2 =>
 some ((true,()),())) (fun y2 =>
 some ((y2.1.1.1,()),()))
theorem y1q (x:InD ykk):zjw ⟨yra,27,yEV⟩ Tryz.f71.results.toList yj8 ykk yru x=yaY x.1 x.2.1:=by kernel_rfl
theorem yVB:ConOk Tryz.prog 71 ⟨ykk,yru,fun x=>yaY x.1 x.2.1⟩:=zj1 (yRS) Tryz.func71 (by kernel_rfl) (by kernel_rfl) Tryz.ntmps71.symm (by decide) (fun x r h=>(y1q x).trans h)
def yve:Con:=⟨ykk,yru,fun x=>yaY x.1 x.2.1⟩
theorem yIv:ConOk Tryz.prog 71 yve:=yVB
theorem y7A (l:List dM) (h:l.length≤1000000000) (hm: ∀ m∈l,m.1.length≤1000000000∧m.2.1.length≤1000000000):yaY l l=some ((true,()),()):=by
 have l1:ysJ (yP9 l l)=some (.inl yBy) :=
  zj8 (step:=yb1) l.length (fun i (_:Unit)=>yqJ l l i) (fun _ _=>()) (fun _ _=>True) (fun _=> .inl yBy) (fun i s hi _=>⟨by
   have hn:=yfH (P:=fun m:dM=>m.1.length≤1000000000∧m.2.1.length≤1000000000) (d:=noMem) (zkl hi) hm
   simp only [yb1,yqJ,yq0,zj4 (show (i:Int) < l.length by omega),cond_true,wr (show -9223372036854775808≤(i:Int)+1 by omega) (by omega),Int.natCast_add,Int.natCast_one,Int.toNat_natCast,zkl hi,zkr]
   rw [yab4 _ hn.1 hn.2]; rfl,trivial⟩) (fun s _=>by simp only [yb1,yqJ,yq0,zkx (Int.le_refl _),cond_false]) () trivial 18446744073709551616 (by omega)
 unfold yaY
 rw [bne_self_eq_false,cond_false]
 exact (congrArg (fun z=>zjY z _ _) l1).trans rfl
end
section
def yWh:Code:=(Tryz.f135.body).getD .skip
def yWj:Env:=zj2 TT [] []
theorem y5v:FrOk Tryz.prog ⟨yWj,15,fun _=>none⟩ yWh:=zj6 yc yd trivial
def y7I:Nat→Option Seg:=fun _=>none
abbrev yvT:List Par:= [.rd tI,.rd tI,.rd tI]
abbrev yCz:List OT:= [⟨false,tB,.fz⟩]
def yEA (a0 a1 a2:Int):Option (ResD yCz×MutD yvT) :=
 bif (leb a1 a0) then
 some (((leb a0 a2),()),())
 else
 some ((false,()),())
theorem yaal (x:InD yvT):zjw ⟨yWj,15,y7I⟩ Tryz.f135.results.toList yWh yvT yCz x=yEA x.1 x.2.1 x.2.2.1:=by kernel_rfl
theorem y8S:ConOk Tryz.prog 135 ⟨yvT,yCz,fun x=>yEA x.1 x.2.1 x.2.2.1⟩:=zj1 (y5v) Tryz.func135 (by kernel_rfl) (by kernel_rfl) Tryz.ntmps135.symm (by decide) (fun x r h=>(yaal x).trans h)
def ya (a0 a1 a2:Int):Bool :=
 bif (leb a1 a0) then
 (leb a0 a2)
 else
 false
def yq:Con:=⟨yvT,yCz,fun x=>(fun n=>some ((n,()),())) (ya x.1 x.2.1 x.2.2.1)⟩
theorem y9X (a0 a1 a2:Int):yEA a0 a1 a2=(fun n=>some ((n,()),())) (ya a0 a1 a2):=zkp (p:=fun (n:Bool)=>((n,()),())) (zkb (p:=fun (n:Bool)=>((n,()),())) rfl rfl)
theorem yy:ConOk Tryz.prog 135 yq:=(y8S).mono (fun x r _ h=>(y9X x.1 x.2.1 x.2.2.1).trans h)
theorem yzY {a b c:Int}:ya a b c=true↔b≤a∧a≤c:=by
 unfold ya
 cases h:leb b a
 ·have:=mt zkw (by rw [h]; simp: ¬ leb b a=true)
  simp [this]
 ·simp [zjD,zjD.1 h]
theorem in_t {a b c:Int} (h:b≤a) (h2:a≤c):ya a b c=true:=yzY.2 ⟨h,h2⟩
theorem ybr (x a b:Int):ya x a b=(leb a x&&leb x b):=by
 unfold ya; cases leb a x<;>rfl
theorem yvZ {x:Int} {n:Nat} (h:n≤1152921504606846976):ya x 0 (IntKind.i64.wrap ((n:Int) - 1))=inb x n:=by
 rw [wr (by omega) (by omega),Bool.eq_iff_iff,yzY,zjC]; omega
end
section
def yQE:Code:=(Tryz.f134.body).getD .skip
def yQW:Env:=zj2 TT [(135,yq)] []
theorem y1V:FrOk Tryz.prog ⟨yQW,11,fun _=>none⟩ yQE:=zj6 yc yd ⟨yy,trivial⟩
def y4B:Nat→Option Seg:=fun _=>none
abbrev ysQ:List Par:= [.rd tG]
abbrev yy4:List OT:= [⟨false,tB,.fz⟩]
def yCq (a0:dG):Option (ResD yy4×MutD ysQ) :=
 let r1:=ya a0.1 3 5
 bif r1 then
 let r2:=ya a0.2 1 8
 some ((r2,()),())
 else
 some ((false,()),())
theorem y9r (x:InD ysQ):zjw ⟨yQW,11,y4B⟩ Tryz.f134.results.toList yQE ysQ yy4 x=yCq x.1:=by kernel_rfl
theorem y6l:ConOk Tryz.prog 134 ⟨ysQ,yy4,fun x=>yCq x.1⟩:=zj1 (y1V) Tryz.func134 (by kernel_rfl) (by kernel_rfl) Tryz.ntmps134.symm (by decide) (fun x r h=>(y9r x).trans h)
def yf (a0:dG):Bool :=
 let r1:=ya a0.1 3 5
 bif r1 then
 let r2:=ya a0.2 1 8
 r2
 else
 false
def yik:Con:=⟨ysQ,yy4,fun x=>(fun n=>some ((n,()),())) (yf x.1)⟩
theorem y8E (a0:dG):yCq a0=(fun n=>some ((n,()),())) (yf a0):=zkp (p:=fun (n:Bool)=>((n,()),())) (zkb (p:=fun (n:Bool)=>((n,()),())) rfl rfl)
theorem yqj:ConOk Tryz.prog 134 yik:=(y6l).mono (fun x r _ h=>(y8E x.1).trans h)
theorem yk {a:Int×Int}:yf a=true↔(3≤a.1∧a.1≤5)∧1≤a.2∧a.2≤8:=by
 unfold yf
 cases h:ya a.1 3 5
 ·have: ¬ (3≤a.1∧a.1≤5):=fun e=>by rw [yzY.2 e]at h; simp at h
  simp [this]
 ·simp only [cond_true,yzY]
  exact ⟨fun e=>⟨yzY.1 h,e⟩,fun e=>e.2⟩
def yjf (a:dA) (i:Nat):Bool:= !(yu (nth a.2.2.1 i noMem))||((((nth a.2.2.1 i noMem).1.length:Int) !=6+a.2.1.2)||((nth a.2.2.1 i noMem).2.2.1&&(((i:Int) !=a.2.2.2.1)&& !a.2.2.2.2.2.2.2.2.2.2.2)))
def yp4 (a:dA):Bool:= !((List.range a.2.2.1.length).any (yjf a))&&(a.2.2.1.length:Int)==a.2.1.1
def yjY (g:dG) (l:List dW) (i:Nat):Bool:= !(leb 0 (nth l i (0,[])).1&&leb (nth l i (0,[])).1 (g.2 - 1))||(((nth l i (0,[])).2.length:Int) !=g.1 - 1||(!((nth l i (0,[])).2.all isW)||(decide (0 < i)&&leb (nth l i (0,[])).1 (nth l ((i - 1:Nat):Int) (0,[])).1)))
def yaA (g:dG) (l:List dW):Bool:= !((List.range l.length).any (yjY g l))
def yE (a:dA):Bool :=
 yf a.2.1&&((leb 1 a.1&&leb a.1 60000)&&(yp4 a&&(yaA a.2.1 a.2.2.2.2.2.2.2.2.1&&((leb (-1) a.2.2.2.1&&leb a.2.2.2.1 (a.2.1.1 - 1))&&((leb 0 a.2.2.2.2.1&&leb a.2.2.2.2.1 a.2.1.2)&&(!(a.2.2.2.1== -1&&a.2.2.2.2.1 !=0) &&
 ((leb 0 a.2.2.2.2.2.2.1&&leb a.2.2.2.2.2.2.1 60000)&&((leb a.2.2.2.2.2.2.1 a.2.2.2.2.2.1&&leb a.2.2.2.2.2.1 60000)&&(leb a.2.2.2.2.2.1 (a.2.2.2.2.2.2.1+4)&&((leb 0 a.2.2.2.2.2.2.2.1&&leb a.2.2.2.2.2.2.2.1 60000)&&(leb (-1) a.2.2.2.2.2.2.2.2.2.1&&leb a.2.2.2.2.2.2.2.2.2.1 1000)))))))))))
theorem yll {a:dA} (h:yE a=true):yf a.2.1=true:=(Bool.and_eq_true_iff.1 h).1
theorem y04 {a:dA} (h:yE a=true):yp4 a=true:=by simp only [yE,Bool.and_eq_true]at h; exact h.2.2.1
theorem yCY {a:dA} (h:yE a=true):(a.2.2.1.length:Int)=a.2.1.1:=by have:=y04 h; simp only [yp4,Bool.and_eq_true,beq_iff_eq]at this; exact this.2
theorem y7s {a:dA} (h:yp4 a=true) {i:Nat} (hi:i < a.2.2.1.length):yu (nth a.2.2.1 i noMem)=true∧((nth a.2.2.1 i noMem).1.length:Int)=6+a.2.1.2∧((nth a.2.2.1 i noMem).2.2.1=true→(i:Int)=a.2.2.2.1∨a.2.2.2.2.2.2.2.2.2.2.2=true):=by
 simp only [yp4,Bool.and_eq_true,Bool.not_eq_true',List.any_eq_false,List.mem_range]at h
 have:=h.1 i hi
 simp only [yjf,Bool.not_eq_true,Bool.or_eq_false_iff,Bool.not_eq_false',bne_eq_false_iff_eq,Bool.and_eq_false_iff]at this
 refine ⟨this.1,this.2.1,fun hf=> ?_⟩
 rcases this.2.2 with h1 | h1 | h1
 ·rw [hf]at h1; cases h1
 ·exact .inl h1
 ·exact .inr h1
theorem yTo: ∀ {l:List Int} {lo n:Int},l.Pairwise (· < ·)→(∀ x∈l,lo≤x∧x < n)→lo≤n→(l.length:Int)≤n - lo
 | [],lo,n,_,_,h=>by simp; omega
 | x::l,lo,n,hp,hx,h=>by
  cases hp with
  | cons h1 h2 =>
   have h3:=hx x List.mem_cons_self
   have:=yTo (l:=l) (lo:=x+1) (n:=n) h2 (fun y hy=>⟨h1 y hy,(hx y (List.mem_cons_of_mem _ hy)).2⟩) (by omega)
   rw [List.length_cons]; omega
theorem ys6 {n:Nat} {l:List Int}:yuq n l=true↔(∀ x∈l,0≤x∧x < n)∧l.Pairwise (· < ·):=by
 simp only [yuq,Bool.and_eq_true,List.all_eq_true,zjC,decide_eq_true_eq]
theorem yB8 {m:dM} (h1:m.1.all yal=true) (h2:m.2.1.all (yAN m.1.length)=true) (h3:yuq m.1.length m.2.2.2=true) (h4:1≤m.1.length) (h5:m.1.length≤20) (h6:m.2.1.length≤60):yu m=true:=by
 simp only [yu,h1,h2,h3,Bool.true_and,Bool.and_eq_true,zjD]
 omega
theorem yaa0 {m:dM} (b:Nat→Bool) (h:yu m=true):(ybP b m.2.1 m.1).all yal=true:=by
 obtain ⟨h1,h2,_⟩:=yaw h
 rw [List.all_eq_true]
 exact yaap (P:=fun x=>yal x=true) (fun x hx=>List.all_eq_true.1 h1 x hx) (fun w hw=>(Bool.and_eq_true_iff.1 (List.all_eq_true.1 h2 w hw)).2)
theorem y0f {m:dM} (n:Int) (s:List Int) (h:yu m=true):yu (yhd m n s).1=true:=by
 unfold yhd
 cases hc:yBW m n s
 ·exact h
 ·simp only [yBW,Bool.and_eq_true,Bool.not_eq_true',zjG]at hc
  obtain ⟨h1,h2,h3,h4,h5,h6⟩:=yaw h
  refine yB8 h1 ?_ ?_ h4 h5 (by show (m.2.1++ [(n,s)]).length≤60; rw [List.length_append]; simp only [List.length_cons,List.length_nil]; omega)
  ·show (m.2.1++ [(n,s)]).all (yAN m.1.length)=true
   rw [List.all_append,h2]
   simp [yAN,hc.2.2.1,hc.2.2.2.1]
  ·show yuq m.1.length (y66 m.2.2.2 n)=true
   obtain ⟨b1,b2⟩:=ys6.1 h3
   exact ys6.2 ⟨fun x hx=>b1 x (List.mem_filter.1 hx).1,b2.filter _⟩
theorem y7H (m:dM) (n:Int) (s:List Int):(yhd m n s).1.1=m.1∧(yhd m n s).1.2.2.1=m.2.2.1:=by
 unfold yhd
 cases yBW m n s<;>exact ⟨rfl,rfl⟩
theorem yXc {m:dM} (h:yu m=true):yu (yfC m)=true:=by
 unfold yfC
 cases hc:(yu m&& !m.2.2.1)
 ·exact h
 ·obtain ⟨h1,h2,h3,h4,h5,h6⟩:=yaw h
  refine yB8 (yaa0 _ h) rfl ?_ ?_ ?_ (Nat.zero_le _)
  ·show yuq (ybP _ m.2.1 m.1).length m.2.2.2=true; rw [yCE]; exact h3
  ·show 1≤(ybP _ m.2.1 m.1).length; rw [yCE]; exact h4
  ·show (ybP _ m.2.1 m.1).length≤20; rw [yCE]; exact h5
theorem y7m (m:dM):(yfC m).1.length=m.1.length∧(yfC m).2.2.1=m.2.2.1:=by
 unfold yfC
 cases (yu m&& !m.2.2.1)
 ·exact ⟨rfl,rfl⟩
 ·exact ⟨yCE,rfl⟩
theorem y5q {m:dM} (h:yu m=true):yu (yyj m)=true:=by
 obtain ⟨h1,h2,h3,h4,h5,h6⟩:=yaw h
 exact yB8 h1 rfl h3 h4 h5 (Nat.zero_le _)
def yan (l:List dM):Prop:= ∀ m∈l,yu m=true
theorem yAd {l:List dM} {i:Nat} {x:dM} (h:yan l) (hx:yu x=true):yan (l.set i x):=fun m hm=>by
 rcases List.mem_or_eq_of_mem_set hm with h1 | rfl
 ·exact h m h1
 ·exact hx
theorem ySV {l:List dM} {m:Int} (h:yan l) (hm:inb m l.length=true):yu (nth l m noMem)=true:=yfH (P:=fun x=>yu x=true) hm h
theorem yNv {a:dA} (h:yE a=true):yan a.2.2.1:=fun m hm=>by
 obtain ⟨i,hi,rfl⟩:=List.getElem_of_mem hm
 have:=(y7s (y04 h) hi).1
 rwa [zkm,zkd hi]at this
def y2v (g:dG):Bool:=decide ((-1000≤g.1∧g.1≤1000)∧ -1000≤g.2∧g.2≤1000)
theorem y7n {g:dG} (h:(yf g||y2v g)=true):(-1000≤g.1∧g.1≤1000)∧ -1000≤g.2∧g.2≤1000:=by
 rcases Bool.or_eq_true_iff.1 h with h | h
 ·have:=yk.1 h; omega
 ·exact of_decide_eq_true h
theorem yaaO {α:Type} (A:List α) (y:α) (t:List α) (d:α):(A++y::t).getD A.length d=y:=by
 rw [List.getD_eq_getElem?_getD,List.getElem?_append_right (Nat.le_refl _),Nat.sub_self]; rfl
theorem yaaS {α:Type} (A:List α) (y z:α) (t:List α):(A++y::t).set A.length z=A++z::t:=by
 rw [List.set_append_right _ _ (Nat.le_refl _),Nat.sub_self]; rfl
def y2y (l:List Int) (n:Int):List Int:=l.filter (fun x=>ltb x n)++n::l.filter (fun x=>ltb n x)
def spoil (m:dM) (n:Int):dM:=bif yu m&&(inb n m.1.length&& !(m.2.2.2.any (· ==n))) then (m.1,m.2.1,m.2.2.1,y2y m.2.2.2 n) else m
theorem y98 {l:List Int} {n:Int} (h:l.Pairwise (· < ·)) (hn:n∉l):l=l.filter (fun x=>ltb x n)++l.filter (fun x=>ltb n x):=by
 induction l with
 | nil=>rfl
 | cons x t ih =>
  obtain ⟨hx,ht⟩:=List.pairwise_cons.1 h
  simp only [List.mem_cons,not_or]at hn
  rw [List.filter_cons,List.filter_cons]
  by_cases hlt:x < n
  ·rw [zj4 hlt,zkx (show x≤n by omega)]
   simp only [if_true,Bool.false_eq_true,if_false,List.cons_append]
   rw [← ih ht hn.2]
  ·have h3:t.filter (fun x=>ltb x n)= []:=List.filter_eq_nil_iff.2 (fun y hy=>by rw [zkx (by have:=hx y hy; omega)]; simp)
   have h4:t.filter (fun x=>ltb n x)=t:=List.filter_eq_self.2 (fun y hy=>zj4 (by have:=hx y hy; omega))
   rw [zkx (show n≤x by omega),zj4 (show n < x by omega),h3,h4]; rfl
theorem yOc {m:dM} (n:Int) (h:yu m=true):yu (spoil m n)=true:=by
 unfold spoil
 cases hc:(yu m&&(inb n m.1.length&& !(m.2.2.2.any (· ==n))))
 ·exact h
 ·simp only [Bool.and_eq_true]at hc
  have hi:=zjC.1 hc.2.1
  obtain ⟨h1,h2,h3,h4,h5,h6⟩:=yaw h
  rw [ys6]at h3
  refine yB8 h1 h2 ?_ h4 h5 h6
  show yuq m.1.length (y2y m.2.2.2 n)=true
  rw [ys6]
  unfold y2y
  refine ⟨fun x hx=> ?_,?_⟩
  ·rcases List.mem_append.1 hx with g | g
   ·exact h3.1 x (List.mem_filter.1 g).1
   ·rcases List.mem_cons.1 g with rfl | g
    ·exact hi
    ·exact h3.1 x (List.mem_filter.1 g).1
  ·rw [List.pairwise_append,List.pairwise_cons]
   refine ⟨h3.2.filter _,⟨fun y hy=>zjG.1 (List.mem_filter.1 hy).2,h3.2.filter _⟩,fun x hx y hy=> ?_⟩
   have g1:=zjG.1 (List.mem_filter.1 hx).2
   rcases List.mem_cons.1 hy with rfl | hy
   ·exact g1
   ·exact Int.lt_trans g1 (zjG.1 (List.mem_filter.1 hy).2)
theorem yLp (m:dM) (n:Int):(spoil m n).1=m.1∧(spoil m n).2.2.1=m.2.2.1:=by
 unfold spoil
 cases (yu m&&(inb n m.1.length&& !(m.2.2.2.any (· ==n))))<;>exact ⟨rfl,rfl⟩
def ycU (g:dG) (s:Int):Bool:=yf g&&(leb 0 s&&leb s (g.2 - 1))
def yh (g:dG) (s:Int):Int:=bif ycU g s then g.1 - 1 - s.tmod g.1 else -1
def ygp (g:dG) (s i:Int):Int:=bif ycU g s&&(leb 0 i&&leb i (g.1 - 2)) then (yh g s+1+i).tmod g.1 else -1
theorem ybK {g:dG} {s:Int}:ycU g s=true↔yf g=true∧0≤s∧s≤g.2 - 1:=by simp [ycU,zjD]
theorem ytt {g:dG} {s:Int} (h:ycU g s=true):0≤yh g s∧yh g s≤g.1 - 1:=by
 have h1:=ybK.1 h
 have h2:=yk.1 h1.1
 unfold yh
 rw [h,cond_true,Int.tmod_eq_emod_of_nonneg h1.2.1]
 have:=Int.emod_nonneg s (show g.1≠0 by omega)
 have:=Int.emod_lt_of_pos s (show 0 < g.1 by omega)
 omega
theorem yaaF {g:dG} {s i:Int} (h:ycU g s=true) (h1:0≤i) (h2:i≤g.1 - 2):0≤ygp g s i∧ygp g s i≤g.1 - 1:=by
 have h3:=yk.1 (ybK.1 h).1
 have h4:=ytt h
 unfold ygp
 rw [h,zkw h1,zkw h2,Bool.and_self,Bool.and_self,cond_true,Int.tmod_eq_emod_of_nonneg (by omega)]
 have:=Int.emod_nonneg (yh g s+1+i) (show g.1≠0 by omega)
 have:=Int.emod_lt_of_pos (yh g s+1+i) (show 0 < g.1 by omega)
 omega
def yai (p:Nat→Bool):Nat→Int
 | 0=> -1
 | n+1=>bif p n then yai p n else n
def y2C (p:Nat→Bool) (n:Nat):Bool:=(List.range n).any (fun i=> !p i&&leb 0 (yai p i))
theorem y7t (p:Nat→Bool): ∀ n,yai p n= -1∨(0≤yai p n∧yai p n < n∧p (yai p n).toNat=false)
 | 0=> .inl rfl
 | n+1=>by
  unfold yai
  cases h:p n
  ·exact .inr ⟨by show (0:Int)≤n; omega,by show (n:Int) < _; omega,h⟩
  ·rcases y7t p n with h1 | h1
   ·exact .inl h1
   ·exact .inr ⟨h1.1,by show yai p n < _; omega,h1.2.2⟩
def yaJ (a:dA) (s:Int) (n:Nat):List Int:=(List.range n).map (fun (i:Nat)=>yOf a i s)
theorem yAM (a:dA) (s:Int) (n:Nat):(yaJ a s n).length=n:=by unfold yaJ; rw [List.length_map,List.length_range]
theorem y86 (a:dA) (s:Int) (n:Nat):yaJ a s n++ [yOf a n s]=yaJ a s (n+1):=by unfold yaJ; rw [List.range_succ,List.map_append]; rfl
theorem yaaA (a:dA) (s:Int) {i n:Nat} (h:i < n):nth (yaJ a s n) i 0=yOf a i s:=by
 unfold yaJ
 rw [zkm,zkd (by rw [List.length_map,List.length_range]; exact h)]; simp
def yax (a:dA) (s:Int):List Int×Bool :=
 bif y2C (fun (i:Nat)=>yP a i s) a.2.1.1.toNat then ([],false)
 else bif leb 0 (yai (fun (i:Nat)=>yP a i s) a.2.1.1.toNat) then ((yaJ a s a.2.1.1.toNat).set (yai (fun (i:Nat)=>yP a i s) a.2.1.1.toNat).toNat (yg3 (yaJ a s a.2.1.1.toNat)),true)
 else (yaJ a s a.2.1.1.toNat,true)
theorem y7G {a:dA} {s:Int} (h:(yax a s).2=true):(yax a s).1.length=a.2.1.1.toNat:=by
 unfold yax at h ⊢
 cases h1:y2C (fun (i:Nat)=>yP a i s) a.2.1.1.toNat
 ·cases leb 0 (yai (fun (i:Nat)=>yP a i s) a.2.1.1.toNat)
  ·exact yAM _ _ _
  ·simp only [cond_false,cond_true,List.length_set]; exact yAM _ _ _
 ·rw [h1]at h; cases h
theorem yabw (a:dA) (s:Int) (n:Nat) (h:leb 0 (yai (fun (i:Nat)=>yP a i s) n)=true):inb (yai (fun (i:Nat)=>yP a i s) n) (yaJ a s n).length=true∧yB9 (yaJ a s n) (yai (fun (i:Nat)=>yP a i s) n)=yg3 (yaJ a s n):=by
 rcases y7t (fun (i:Nat)=>yP a i s) n with h1 | h1
 ·rw [h1]at h; cases h
 ·have h2:inb (yai (fun (i:Nat)=>yP a i s) n) (yaJ a s n).length=true:=by rw [yAM,zjC]; exact ⟨h1.1,h1.2.1⟩
  refine ⟨h2,yabu h2 ?_⟩
  have h3:=yaaA a s (show (yai (fun (i:Nat)=>yP a i s) n).toNat < n by omega)
  rw [show (((yai (fun (i:Nat)=>yP a i s) n).toNat:Nat):Int)=yai (fun (i:Nat)=>yP a i s) n by omega]at h3
  rw [h3]
  unfold yOf
  have h4:yP a (yai (fun (i:Nat)=>yP a i s) n) s=false:=by
   have:=h1.2.2
   have this:yP a ((yai (fun (i:Nat)=>yP a i s) n).toNat:Nat) s=false:=h1.2.2
   rwa [show (((yai (fun (i:Nat)=>yP a i s) n).toNat:Nat):Int)=yai (fun (i:Nat)=>yP a i s) n by omega]at this
  rw [h4]; rfl
def yTp (a:dA) (s:Int):List Int×Bool:=bif (yax a s).2 then ((List.range (a.2.1.1 - 1).toNat).map (fun (i:Nat)=>nth (yax a s).1 (ygp a.2.1 s i) 0),true) else ([],false)
theorem yacq {x:Int} (h:isW x=true):(bv x).toNat < 2 ^ 16:=by
 have:=y5C.1 h
 unfold bv
 rw [BitVec.toNat_ofInt]
 omega
theorem yact {v:BitVec 64} (h:v.toNat < 2 ^ 16):isW v.toInt=true:=by
 rw [BitVec.toInt_eq_toNat_of_lt (by omega)]
 exact y5C.2 (by omega)
theorem yacp: ∀ (l:List Int),l.all isW=true→(y0h l).toNat < 2 ^ 16:=by
 intro l h
 have: ∀ (l:List Int) (v:BitVec 64),v.toNat < 2 ^ 16→l.all isW=true→(l.foldl (fun v x=>v ^^^ bv x) v).toNat < 2 ^ 16:=by
  intro l
  induction l with
  | nil=>intro v hv _; exact hv
  | cons x t ih =>
   intro v hv h
   simp only [List.all_cons,Bool.and_eq_true]at h
   refine ih _ ?_ h.2
   rw [BitVec.toNat_xor]
   exact Nat.xor_lt_two_pow hv (yacq h.1)
 exact this l 0#64 (by decide) h
theorem yabJ {l:List Int} (h:l.all isW=true):isW (yg3 l)=true:=by
 rw [y0g]; exact yact (yacp l h)
theorem yTn {l:List Int}:l.all isW=true↔ ∀ x∈l,isW x=true:=by simp
theorem yaaP {l:List Int} {i:Int} (h:l.all isW=true):isW (nth l i 0)=true:=by
 unfold nth
 rw [List.getD_eq_getElem?_getD]
 cases e:l[i.toNat]? with
 | none=>rfl
 | some x=>exact yTn.1 h x (List.mem_of_getElem? e)
theorem y67 {l:List Int} {i:Nat} {x:Int} (h:l.all isW=true) (hx:isW x=true):(l.set i x).all isW=true:=by
 rw [yTn]at h ⊢
 intro y hy
 rcases List.mem_or_eq_of_mem_set hy with h1 | rfl
 ·exact h y h1
 ·exact hx
theorem yaa8 {m:dM} {n:Int} (h:(yr m n).2=true):yal (yr m n).1=true:=by
 unfold yr at h ⊢
 cases hc:yGy m n
 ·rw [hc]at h; cases h
 ·simp only [yGy,Bool.and_eq_true]at hc
  obtain ⟨h1,h2,h3,_,_,_⟩:=yaw hc.1
  refine yNY (P:=fun s=>yal s=true) ?_ fun w hw=> ?_
  ·exact yfH (P:=fun s=>yal s=true) hc.2.2.1 (fun x hx=>List.all_eq_true.1 h1 x hx)
  ·have:=List.all_eq_true.1 h2 w hw
   simp only [yAN,Bool.and_eq_true]at this
   exact this.2
theorem yacb (a:dA) (m s:Int):isW (yOf a m s)=true:=by
 unfold yOf
 cases h:yP a m s
 ·rfl
 ·simp only [yP,Bool.and_eq_true]at h
  have:=yaa8 (m:=nth a.2.2.1 m noMem) (n:=dataAt s) h.2.1
  simp only [yal,Bool.and_eq_true]at this
  exact yaaP this.2
theorem yI0 (a:dA) (s:Int) (n:Nat):(yaJ a s n).all isW=true:=by
 rw [yTn]
 unfold yaJ
 intro x hx
 obtain ⟨i,_,rfl⟩:=List.mem_map.1 hx
 exact yacb a i s
theorem yabI (a:dA) (s:Int):(yax a s).1.all isW=true:=by
 unfold yax
 cases y2C (fun (i:Nat)=>yP a i s) a.2.1.1.toNat
 ·cases leb 0 (yai (fun (i:Nat)=>yP a i s) a.2.1.1.toNat)
  ·exact yI0 _ _ _
  ·exact y67 (yI0 _ _ _) (yabJ (yI0 _ _ _))
 ·rfl
theorem y7d (a:dA) (s:Int):(yTp a s).1.all isW=true:=by
 unfold yTp
 cases (yax a s).2
 ·rfl
 ·rw [yTn]
  intro x hx
  obtain ⟨i,_,rfl⟩:=List.mem_map.1 hx
  exact yaaP (yabI a s)
end
section
def yLM:Code:=(Tryz.f226.body).getD .skip
def yMt:Env:=zj2 TT [(134,yik),(135,yq)] []
theorem yUE:FrOk Tryz.prog ⟨yMt,60,fun _=>none⟩ yLM:=zj6 yc yd ⟨yqj,yy,trivial⟩
def yWG:Nat→Option Seg:=fun _=>none
abbrev ync:List Par:= [.rd tS]
abbrev yuj:List OT:= [⟨false,tB,.fz⟩]
def yxT (a0:dS):Option (ResD yuj×MutD ync) :=
 let r1:=yf (a0.2.2.2.1,a0.2.2.2.2.1)
 bif (!(!r1)) then
 let r2:=ya a0.1 1 60000
 bif (!(!r2)) then
 let r3:=ya a0.2.1 0 60000
 bif (!(!r3)) then
 let r4:=ya a0.2.2.1 0 (IntKind.i64.wrap (a0.2.2.2.1 - 1))
 bif (!(!r4)) then
 let r5:=ya a0.2.2.2.2.2.1 0 60000
 bif (!r5) then
 some ((false,()),())
 else
 let r6:=ya a0.2.2.2.2.2.2.1 (-1) (IntKind.i64.wrap (a0.2.2.2.1 - 1))
 bif r6 then
 let r7:=ya a0.2.2.2.2.2.2.2 0 a0.2.2.2.2.1
 bif r7 then
 bif (!(leb 0 a0.2.2.2.2.2.2.1)) then
 some (((a0.2.2.2.2.2.2.2==0),()),())
 else
 some ((true,()),())
 else
 some ((false,()),())
 else
 some ((false,()),())
 else
 some ((false,()),())
 else
 some ((false,()),())
 else
 some ((false,()),())
 else
 some ((false,()),())
theorem y5e (x:InD ync):zjw ⟨yMt,60,yWG⟩ Tryz.f226.results.toList yLM ync yuj x=yxT x.1:=by kernel_rfl
theorem yZu:ConOk Tryz.prog 226 ⟨ync,yuj,fun x=>yxT x.1⟩:=zj1 (yUE) Tryz.func226 (by kernel_rfl) (by kernel_rfl) Tryz.ntmps226.symm (by decide) (fun x r h=>(y5e x).trans h)
def yC (a0:dS):Bool :=
 let r1:=yf (a0.2.2.2.1,a0.2.2.2.2.1)
 bif (!(!r1)) then
 let r2:=ya a0.1 1 60000
 bif (!(!r2)) then
 let r3:=ya a0.2.1 0 60000
 bif (!(!r3)) then
 let r4:=ya a0.2.2.1 0 (IntKind.i64.wrap (a0.2.2.2.1 - 1))
 bif (!(!r4)) then
 let r5:=ya a0.2.2.2.2.2.1 0 60000
 bif (!r5) then
 false
 else
 let r6:=ya a0.2.2.2.2.2.2.1 (-1) (IntKind.i64.wrap (a0.2.2.2.1 - 1))
 bif r6 then
 let r7:=ya a0.2.2.2.2.2.2.2 0 a0.2.2.2.2.1
 bif r7 then
 bif (!(leb 0 a0.2.2.2.2.2.2.1)) then
 (a0.2.2.2.2.2.2.2==0)
 else
 true
 else
 false
 else
 false
 else
 false
 else
 false
 else
 false
 else
 false
def yxo:Con:=⟨ync,yuj,fun x=>(fun n=>some ((n,()),())) (yC x.1)⟩
theorem y22 (a0:dS):yxT a0=(fun n=>some ((n,()),())) (yC a0):=zkp (p:=fun (n:Bool)=>((n,()),())) (zkb (p:=fun (n:Bool)=>((n,()),())) (zkb (p:=fun (n:Bool)=>((n,()),())) (zkb (p:=fun (n:Bool)=>((n,()),())) (zkb (p:=fun (n:Bool)=>((n,()),())) (zkb (p:=fun (n:Bool)=>((n,()),())) rfl (zkb (p:=fun (n:Bool)=>((n,()),())) (zkb (p:=fun (n:Bool)=>((n,()),())) (zkb (p:=fun (n:Bool)=>((n,()),())) rfl rfl) rfl) rfl)) rfl) rfl) rfl) rfl)
theorem yLa:ConOk Tryz.prog 226 yxo:=(yZu).mono (fun x r _ h=>(y22 x.1).trans h)
abbrev yaB:dS:=(0,0,0,0,0,0,0,0)
theorem yaaz {s:dS}:yC s=true↔yf (s.2.2.2.1,s.2.2.2.2.1)=true∧(1≤s.1∧s.1≤60000)∧(0≤s.2.1∧s.2.1≤60000)∧(0≤s.2.2.1∧s.2.2.1≤s.2.2.2.1 - 1)∧(0≤s.2.2.2.2.2.1∧s.2.2.2.2.2.1≤60000)∧(-1≤s.2.2.2.2.2.2.1∧s.2.2.2.2.2.2.1≤s.2.2.2.1 - 1)∧(0≤s.2.2.2.2.2.2.2∧s.2.2.2.2.2.2.2≤s.2.2.2.2.1)∧(0≤s.2.2.2.2.2.2.1∨s.2.2.2.2.2.2.2=0):=by
 unfold yC
 cases hg:yf (s.2.2.2.1,s.2.2.2.2.1)
 ·simp
 have hg2:=yk.1 hg
 simp only at hg2
 rw [wr (show -9223372036854775808≤s.2.2.2.1 - 1 by omega) (by omega)]
 simp only [Bool.not_not,cond_true,true_and]
 simp only [← yzY]
 cases ya s.1 1 60000
 ·simp
 cases ya s.2.1 0 60000
 ·simp
 cases ya s.2.2.1 0 (s.2.2.2.1 - 1)
 ·simp
 cases ya s.2.2.2.2.2.1 0 60000
 ·simp
 cases ya s.2.2.2.2.2.2.1 (-1) (s.2.2.2.1 - 1)
 ·simp
 cases ya s.2.2.2.2.2.2.2 0 s.2.2.2.2.1
 ·simp
 cases hl:leb 0 s.2.2.2.2.2.2.1
 ·have:=mt zkw (by rw [hl]; simp: ¬ leb 0 s.2.2.2.2.2.2.1=true)
  simp [this]
 ·simp [zjD.1 hl]
def yGz (l:List Int):dS:=(nth l 1 0,nth l 2 0,nth l 3 0,nth l 4 0,nth l 5 0,nth l 6 0,IntKind.i64.wrap (nth l 7 0 - 1),nth l 8 0)
def yee (l:List Int):dS×Bool:=bif (l.length:Int)==9&&(nth l 0 0==21317&&yC (yGz l)) then (yGz l,true) else (yaB,false)
def yW1 (m:dM) (i:Int):dS:=(yee (yr m i).1).1
def yHq (m:dM) (id i:Int):Bool:=(yr m i).2&&((yee (yr m i).1).2&&((yW1 m i).1==id&&(yW1 m i).2.1.tmod 2==i))
def yp0 (b:dS×Bool) (ok:Bool) (s:dS):dS×Bool:=bif ok&&(!b.2||ltb b.1.2.1 s.2.1) then (s,true) else b
def yaW (m:dM) (id:Int):dS×Bool:=(List.range 2).foldl (fun s (i:Nat)=>yp0 s (yHq m id i) (yW1 m i)) (yaB,false)
def yoT (m:dM) (i id:Int):Bool:= !m.2.2.1&&((yaW m id).2&&(yaW m id).1.2.2.1==i)
def yam (l:List dM) (id:Int):dS×Bool:=(List.range l.length).foldl (fun s (i:Nat)=>yp0 s (yoT (nth l i noMem) i id) (yaW (nth l i noMem) id).1) (yaB,false)
def ynE (l:List dM) (id:Int) (s:Int×Int×Bool) (i:Nat):Int×Int×Bool:=bif yoT (nth l i noMem) i id then s else bif s.1== -1||s.1==i then ((i:Int),0,s.2.2) else (s.1,s.2.1,true)
def yjc (b:dS) (l:List dM) (id:Int) (s:Int×Int×Bool):dA:=(id,(b.2.2.2.1,b.2.2.2.2.1),l,s.1,s.2.1,b.2.2.2.2.2.1,b.2.2.2.2.2.1,b.2.1,[],-1,false,s.2.2)
def yMD (l:List dM) (id:Int):dA:=yjc (yam l id).1 l id ((List.range l.length).foldl (ynE l id) ((yam l id).1.2.2.2.2.2.2.1,(yam l id).1.2.2.2.2.2.2.2,false))
def ycm (l:List dM) (id:Int):dA×Bool:=bif (yam l id).2&&((l.length:Int)==(yam l id).1.2.2.2.1&&yE (yMD l id)) then (yMD l id,true) else (yK,false)
theorem yabO (b:dS×Bool) (s:dS):yp0 b false s=b:=rfl
theorem yaaw {m:dM} {i:Int} (h:(yr m i).2=true):yu m=true:=by
 unfold yr at h
 cases hc:yGy m i
 ·rw [hc]at h; cases h
 ·exact (Bool.and_eq_true_iff.1 hc).1
theorem yabP {m:dM} {id i:Int} (h:yu m=false):yHq m id i=false:=by
 unfold yHq
 cases hr:(yr m i).2
 ·rfl
 ·rw [yaaw hr]at h; cases h
theorem yabN {m:dM} {id:Int} (h:(yaW m id).2=true):yu m=true:=by
 cases hm:yu m
 ·unfold yaW at h
  simp only [yabP hm,yabO]at h
  exact h
 ·rfl
end
section
def yJj:Code:=(Tryz.f140.body).getD .skip
def yJ4:Env:=zj2 TT [(226,yxo)] []
theorem yR2:FrOk Tryz.prog ⟨yJ4,25,fun _=>none⟩ yJj:=zj6 yc yd ⟨yLa,trivial⟩
def yTF:Nat→Option Seg:=fun _=>none
abbrev ykn:List Par:= [.rd tS]
abbrev yrC:List OT:= [⟨false,tL,(.ow .fz)⟩]
def yvC (a0:dS):Option (ResD yrC×MutD ykn) :=
 let r1:=yC a0
 bif (!r1) then
 some ((([]:List Int),()),())
 else
 some ((([21317,a0.1,a0.2.1,a0.2.2.1,a0.2.2.2.1,a0.2.2.2.2.1,a0.2.2.2.2.2.1,(IntKind.i64.wrap (a0.2.2.2.2.2.2.1+1)),a0.2.2.2.2.2.2.2]:List Int),()),())
theorem y1y (x:InD ykn):zjw ⟨yJ4,25,yTF⟩ Tryz.f140.results.toList yJj ykn yrC x=yvC x.1:=by kernel_rfl
theorem yVJ:ConOk Tryz.prog 140 ⟨ykn,yrC,fun x=>yvC x.1⟩:=zj1 (yR2) Tryz.func140 (by kernel_rfl) (by kernel_rfl) Tryz.ntmps140.symm (by decide) (fun x r h=>(y1y x).trans h)
def yJ (a0:dS):(List Int) :=
 let r1:=yC a0
 bif (!r1) then
 ([]:List Int)
 else
 ([21317,a0.1,a0.2.1,a0.2.2.1,a0.2.2.2.1,a0.2.2.2.2.1,a0.2.2.2.2.2.1,(IntKind.i64.wrap (a0.2.2.2.2.2.2.1+1)),a0.2.2.2.2.2.2.2]:List Int)
def ymi:Con:=⟨ykn,yrC,fun x=>(fun n=>some ((n,()),())) (yJ x.1)⟩
theorem yY2 (a0:dS):yvC a0=(fun n=>some ((n,()),())) (yJ a0):=zkp (p:=fun (n:(List Int))=>((n,()),())) (zkb (p:=fun (n:(List Int))=>((n,()),())) rfl rfl)
theorem yxL:ConOk Tryz.prog 140 ymi:=(yVJ).mono (fun x r _ h=>(yY2 x.1).trans h)
abbrev ye (a:dA):Bool:=a.2.2.2.2.2.2.2.2.2.2.1
def yAy (a:dA) (f:Int) (d:Bool):dA:=(a.1,a.2.1,a.2.2.1,a.2.2.2.1,a.2.2.2.2.1,a.2.2.2.2.2.1,a.2.2.2.2.2.2.1,a.2.2.2.2.2.2.2.1,a.2.2.2.2.2.2.2.2.1,f,d,a.2.2.2.2.2.2.2.2.2.2.2)
def opA (a:dA):Bool×dA:=bif ye a then (false,a) else bif a.2.2.2.2.2.2.2.2.2.1==0 then (false,yAy a (-1) true) else bif ltb 0 a.2.2.2.2.2.2.2.2.2.1 then (true,yAy a (IntKind.i64.wrap (a.2.2.2.2.2.2.2.2.2.1 - 1)) (ye a)) else (true,a)
def setMem (a:dA) (m:Int) (x:dM):dA:=(a.1,a.2.1,a.2.2.1.set m.toNat x,a.2.2.2)
def ydM (a:dA) (m n:Int) (s:List Int):dA:=bif (nth a.2.2.1 m noMem).2.2.1 then a else bif (opA a).1 then setMem (opA a).2 m (yhd (nth a.2.2.1 m noMem) n s).1 else (opA a).2
def yM (a:dA) (i:Nat):dA:=bif (nth a.2.2.1 i noMem).2.2.1 then a else bif (opA a).1 then setMem (opA a).2 i (yfC (nth a.2.2.1 i noMem)) else (opA a).2
def yz (a:dA):dA:=(List.range a.2.2.1.length).foldl yM a
def yacK (a:dA) (i:Int):dS:=(a.1,a.2.2.2.2.2.2.2.1,i,a.2.1.1,a.2.1.2,a.2.2.2.2.2.2.1,a.2.2.2.1,a.2.2.2.2.1)
def yaS (a:dA) (i:Nat):dA:=ydM a i (a.2.2.2.2.2.2.2.1.tmod 2) (yJ (yacK a i))
def ygV (a:dA):dA:=(a.1,a.2.1,a.2.2.1,a.2.2.2.1,a.2.2.2.2.1,a.2.2.2.2.2.1,a.2.2.2.2.2.2.1,IntKind.i64.wrap (a.2.2.2.2.2.2.2.1+1),a.2.2.2.2.2.2.2.2)
def markA (a:dA):dA:=yz ((List.range a.2.2.1.length).foldl yaS (ygV a))
theorem yaT (a:dA):(opA a).2.2.2.1=a.2.2.1:=by
 unfold opA
 cases ye a
 ·cases (a.2.2.2.2.2.2.2.2.2.1==0)
  ·cases ltb 0 a.2.2.2.2.2.2.2.2.2.1<;>rfl
  ·rfl
 ·rfl
theorem y6Z {a:dA} (h:ye a=false):ye (opA a).2= !(opA a).1:=by
 unfold opA
 rw [h]
 cases (a.2.2.2.2.2.2.2.2.2.1==0)
 ·cases ltb 0 a.2.2.2.2.2.2.2.2.2.1
  ·exact h
  ·rfl
 ·rfl
theorem yaaR {a:dA} (h:ye a=true):opA a=(false,a):=by unfold opA; rw [h]; rfl
theorem yuD (a:dA) (m n:Int) (s:List Int):(ydM a m n s).2.2.1.length=a.2.2.1.length:=by
 unfold ydM
 cases (nth a.2.2.1 m noMem).2.2.1
 ·cases (opA a).1
  ·show (opA a).2.2.2.1.length=_; rw [yaT]
  ·show ((opA a).2.2.2.1.set m.toNat _).length=_; rw [List.length_set,yaT]
 ·rfl
theorem yqt (a:dA) (i:Nat):(yM a i).2.2.1.length=a.2.2.1.length:=by
 unfold yM
 cases (nth a.2.2.1 i noMem).2.2.1
 ·cases (opA a).1
  ·show (opA a).2.2.2.1.length=_; rw [yaT]
  ·show ((opA a).2.2.2.1.set _ _).length=_; rw [List.length_set,yaT]
 ·rfl
theorem ys9 {one:dA→Nat→dA} (h: ∀ a i,(one a i).2.2.1.length=a.2.2.1.length): ∀ (l:List Nat) (a:dA),(l.foldl one a).2.2.1.length=a.2.2.1.length
 | [],_=>rfl
 | x::l,a=>by rw [List.foldl_cons,ys9 h l,h]
theorem yIZ (a:dA):(yz a).2.2.1.length=a.2.2.1.length:=ys9 yqt _ _
theorem yZ0 {a:dA} (h:ye a=true) (m n:Int) (s:List Int):ydM a m n s=a:=by
 unfold ydM
 rw [yaaR h]
 cases (nth a.2.2.1 m noMem).2.2.1<;>rfl
theorem yTk {a:dA} (i:Nat) (h:ye a=true):yM a i=a:=by
 unfold yM
 rw [yaaR h]
 cases (nth a.2.2.1 i noMem).2.2.1<;>rfl
theorem yRu {one:dA→Nat→dA} (hs: ∀ a i,ye a=true→one a i=a): ∀ (l:List Nat) (a:dA),ye a=true→l.foldl one a=a
 | [],_,_=>rfl
 | x::l,a,h=>by rw [List.foldl_cons,hs a x h]; exact yRu hs l a h
theorem y7B {a:dA} (h:ye a=true):yz a=a:=yRu (fun _ i h=>yTk i h) _ a h
theorem yab2 {a:dA} (h:ye a=false) (m n:Int) (s:List Int):ye (ydM a m n s)=(!(nth a.2.2.1 m noMem).2.2.1&& !(opA a).1):=by
 have:=y6Z h
 unfold ydM
 cases (nth a.2.2.1 m noMem).2.2.1
 ·cases ho:(opA a).1
  ·rw [ho]at this; exact this
  ·rw [ho]at this; exact this
 ·exact h
theorem yaaa {a:dA} (h:ye a=false) (i:Nat):ye (yM a i)=(!(nth a.2.2.1 i noMem).2.2.1&& !(opA a).1):=by
 have:=y6Z h
 unfold yM
 cases (nth a.2.2.1 i noMem).2.2.1
 ·cases ho:(opA a).1
  ·rw [ho]at this; exact this
  ·rw [ho]at this; exact this
 ·exact h
theorem yId {one:dA→Nat→dA} (hs: ∀ a i,ye a=true→one a i=a): ∀ (k i:Nat) (s:dA),goE (fun i s=>bif ye (one s i) then (.inr (one s i):dA ⊕ dA) else .inl (one s i)) id k i s=(List.range' i k).foldl one s
 | 0,_,_=>rfl
 | k+1,i,s=>by
  rw [List.range'_succ,List.foldl_cons,goE]
  cases hd:ye (one s i)
  ·exact yId hs k (i+1) (one s i)
  ·exact (yRu hs _ _ hd).symm
def ybG (a:dA) (m:Int):dA:=(a.1,a.2.1,a.2.2.1.set m.toNat (yyj (nth a.2.2.1 m noMem)),m,0,a.2.2.2.2.2)
def yzN (a:dA) (m:Int):dA:=(a.1,a.2.1,a.2.2.1.set m.toNat (yyj (nth a.2.2.1 m noMem)),a.2.2.2.1,a.2.2.2.2.1,a.2.2.2.2.2.1,a.2.2.2.2.2.2.1,a.2.2.2.2.2.2.2.1,a.2.2.2.2.2.2.2.2.1,a.2.2.2.2.2.2.2.2.2.1,a.2.2.2.2.2.2.2.2.2.2.1,true)
def failOne (a:dA) (m:Int):dA:=bif a.2.2.2.1== -1||a.2.2.2.1==m then (bif !(ye a)&&(!a.2.2.2.2.2.2.2.2.2.2.2&&ltb a.2.2.2.2.2.2.2.1 60000) then markA (ybG a m) else ybG a m) else yzN a m
theorem y92 {a:dA} {m n:Int} {s:List Int} (h:yan a.2.2.1) (hm:inb m a.2.2.1.length=true):yan (ydM a m n s).2.2.1:=by
 unfold ydM
 cases (nth a.2.2.1 m noMem).2.2.1
 ·cases (opA a).1
  ·show yan (opA a).2.2.2.1; rw [yaT]; exact h
  ·show yan ((opA a).2.2.2.1.set m.toNat _); rw [yaT]; exact yAd h (y0f _ _ (ySV h hm))
 ·exact h
theorem yaab {a:dA} {i:Nat} (h:yan a.2.2.1) (hi:i < a.2.2.1.length):yan (yM a i).2.2.1:=by
 unfold yM
 cases (nth a.2.2.1 i noMem).2.2.1
 ·cases (opA a).1
  ·show yan (opA a).2.2.2.1; rw [yaT]; exact h
  ·show yan ((opA a).2.2.2.1.set _ _); rw [yaT]; exact yAd h (yXc (ySV h (zkl hi)))
 ·exact h
theorem yRt {one:dA→Nat→dA} (hl: ∀ a i,(one a i).2.2.1.length=a.2.2.1.length) (ho: ∀ a i,yan a.2.2.1→i < a.2.2.1.length→yan (one a i).2.2.1): ∀ (n:Nat) (a:dA),n≤a.2.2.1.length→yan a.2.2.1→yan ((List.range n).foldl one a).2.2.1
 | 0,_,_,h=>h
 | n+1,a,hn,h=>by
  rw [List.range_succ,List.foldl_append]
  exact ho _ _ (yRt hl ho n a (by omega) h) (by rw [ys9 hl]; exact hn)
theorem yLq {a:dA} (h:yan a.2.2.1):yan (yz a).2.2.1:=yRt yqt (fun _ _=>yaab) _ a (Nat.le_refl _) h
theorem y7r {a:dA} (h:yan a.2.2.1):yan (markA a).2.2.1 :=
 yLq (yRt (one:=yaS) (fun _ _=>yuD _ _ _ _) (fun _ _ h hi=>y92 h (zkl hi)) _ (ygV a) (Nat.le_refl _) h)
theorem yIh (a:dA):(markA a).2.2.1.length=a.2.2.1.length:=(yIZ _).trans (ys9 (one:=yaS) (fun _ _=>yuD _ _ _ _) _ (ygV a))
theorem yN6 (a:dA):(opA a).2.2.2.2.2.2.2.2.2.1=a.2.2.2.2.2.2.2.2.1:=by
 unfold opA
 cases ye a
 ·cases (a.2.2.2.2.2.2.2.2.2.1==0)
  ·cases ltb 0 a.2.2.2.2.2.2.2.2.2.1<;>rfl
  ·rfl
 ·rfl
theorem y7z (a:dA) (m n:Int) (s:List Int):(ydM a m n s).2.2.2.2.2.2.2.2.1=a.2.2.2.2.2.2.2.2.1:=by
 unfold ydM
 cases (nth a.2.2.1 m noMem).2.2.1
 ·cases (opA a).1
  ·exact yN6 a
  ·exact yN6 a
 ·rfl
theorem y85 (a:dA) (i:Nat):(yM a i).2.2.2.2.2.2.2.2.1=a.2.2.2.2.2.2.2.2.1:=by
 unfold yM
 cases (nth a.2.2.1 i noMem).2.2.1
 ·cases (opA a).1
  ·exact yN6 a
  ·exact yN6 a
 ·rfl
theorem yNz {one:dA→Nat→dA} (h: ∀ a i,(one a i).2.2.2.2.2.2.2.2.1=a.2.2.2.2.2.2.2.2.1): ∀ (l:List Nat) (a:dA),(l.foldl one a).2.2.2.2.2.2.2.2.1=a.2.2.2.2.2.2.2.2.1
 | [],_=>rfl
 | x::l,a=>by rw [List.foldl_cons,yNz h l,h]
theorem yGx (a:dA):(yz a).2.2.2.2.2.2.2.2.1=a.2.2.2.2.2.2.2.2.1:=yNz y85 _ _
theorem y2B (a:dA):(markA a).2.2.2.2.2.2.2.2.1=a.2.2.2.2.2.2.2.2.1:=(yGx _).trans (yNz (one:=yaS) (fun _ _=>y7z _ _ _ _) _ (ygV a))
theorem y9b {a:dA} (h:yE a=true):a.2.2.1.length≤5:=by
 have h1:=yk.1 (yll h)
 have h2:=yCY h
 omega
theorem yWp {a:dA} {m:Int} (h:yan a.2.2.1) (hm:inb m a.2.2.1.length=true):yan (ybG a m).2.2.1∧(ybG a m).2.2.1.length=a.2.2.1.length:=⟨yAd h (y5q (ySV h hm)),List.length_set⟩
def ycO (n:Int):dM:=bif leb 1 n&&leb n 20 then (List.replicate n.toNat [],[],false,[]) else noMem
theorem yK0 {n:Int} (h1:1≤n) (h2:n≤20):yu (ycO n)=true:=by
 unfold ycO
 rw [zkw h1,zkw h2]
 refine yB8 ?_ rfl rfl ?_ ?_ (Nat.zero_le _)
 ·show (List.replicate n.toNat ([]:List Int)).all yal=true
  rw [List.all_eq_true]
  intro x hx
  rw [(List.mem_replicate.1 hx).2]; rfl
 ·show 1≤(List.replicate n.toNat ([]:List Int)).length; rw [List.length_replicate]; omega
 ·show (List.replicate n.toNat ([]:List Int)).length≤20; rw [List.length_replicate]; omega
def spareNew (a:dA):dA:=(a.1,a.2.1,a.2.2.1.set a.2.2.2.1.toNat (ycO (6+a.2.1.2)),a.2.2.2.1,0,a.2.2.2.2.2)
theorem yabM {a:dA} (h:yE a=true): -1≤a.2.2.2.1∧a.2.2.2.1≤a.2.1.1 - 1:=by
 simp only [yE,Bool.and_eq_true,zjD]at h
 exact h.2.2.2.2.1
def ycR (a:dA):dA:=(a.1,a.2.1,a.2.2.1,a.2.2.2.1,a.2.2.2.2.1,a.2.2.2.2.2.1,a.2.2.2.2.2.1,a.2.2.2.2.2.2.2)
def checkA (a:dA):dA:=bif ye (yz a) then yz a else markA (ycR (yz a))
theorem yaaU {a:dA} (h:yan a.2.2.1):yan (checkA a).2.2.1:=by
 unfold checkA
 cases ye (yz a)
 ·exact y7r (a:=ycR (yz a)) (yLq h)
 ·exact yLq h
theorem yKr (a:dA):(checkA a).2.2.1.length=a.2.2.1.length:=by
 unfold checkA
 cases ye (yz a)
 ·exact (yIh (ycR (yz a))).trans (yIZ a)
 ·exact yIZ a
theorem yWl (a:dA):(checkA a).2.2.2.2.2.2.2.2.1=a.2.2.2.2.2.2.2.2.1:=by
 unfold checkA
 cases ye (yz a)
 ·exact (y2B (ycR (yz a))).trans (yGx a)
 ·exact yGx a
def yacw (id:Int) (g:dG) (i:Int):dS:=(id,0,i,g.1,g.2,0,-1,0)
def yM2 (m:dM) (s:Nat):dM:=(m.1.set (s+6) [0],m.2)
def yD1 (id:Int) (g:dG) (i:Int):dM:=((ycO (6+g.2)).1.set 0 (yJ (yacw id g i)),(ycO (6+g.2)).2)
def yO (id:Int) (g:dG) (i:Int):dM:=(List.range g.2.toNat).foldl yM2 (yD1 id g i)
def yHb (a:dA) (m:dM):dA:=(a.1,a.2.1,a.2.2.1++ [m],a.2.2.2)
def yHc (id:Int) (g:dG):dA:=(id,g,[],-1,0,0,0,0,[],-1,false,false)
def yCX (id:Int) (g:dG):dA:=bif yf g&&(leb 1 id&&leb id 60000) then (List.range g.1.toNat).foldl (fun a (i:Nat)=>yHb a (yO id g i)) (yHc id g) else yK
theorem yaat (l:List Nat) (m:dM):(l.foldl yM2 m).1.length=m.1.length:=by
 induction l generalizing m with
 | nil=>rfl
 | cons x t ih=>rw [List.foldl_cons,ih]; show (m.1.set _ _).length=_; rw [List.length_set]
def yG (a:dA):Int×(Int×Int)×Int×Int×Int×Int×Int×List dW×Bool:=(a.1,a.2.1,a.2.2.2.1,a.2.2.2.2.1,a.2.2.2.2.2.1,a.2.2.2.2.2.2.1,a.2.2.2.2.2.2.2.1,a.2.2.2.2.2.2.2.2.1,a.2.2.2.2.2.2.2.2.2.2.2)
theorem yNj (a:dA):yG (opA a).2=yG a:=by
 unfold opA
 cases ye a
 ·cases (a.2.2.2.2.2.2.2.2.2.1==0)
  ·cases ltb 0 a.2.2.2.2.2.2.2.2.2.1<;>rfl
  ·rfl
 ·rfl
theorem yxN (a:dA) (m n:Int) (s:List Int):yG (ydM a m n s)=yG a:=by
 unfold ydM
 cases (nth a.2.2.1 m noMem).2.2.1
 ·cases (opA a).1
  ·exact yNj a
  ·exact yNj a
 ·rfl
theorem y99 (a:dA) (i:Nat):yG (yM a i)=yG a:=by
 unfold yM
 cases (nth a.2.2.1 i noMem).2.2.1
 ·cases (opA a).1
  ·exact yNj a
  ·exact yNj a
 ·rfl
theorem yDz {one:dA→Nat→dA} (h: ∀ a i,yG (one a i)=yG a): ∀ (l:List Nat) (a:dA),yG (l.foldl one a)=yG a
 | [],_=>rfl
 | x::l,a=>by rw [List.foldl_cons,yDz h l,h]
theorem yoe (a:dA):yG (yz a)=yG a:=yDz y99 _ _
theorem yh6 (a:dA):yG (markA a)=yG (ygV a):=(yoe _).trans (yDz (one:=yaS) (fun _ _=>yxN _ _ _ _) _ _)
theorem ydb {a b:dA} (h:yG a=yG b):a.2.1=b.2.1:=congrArg (fun x=>x.2.1) h
theorem y07 {a b:dA} (h:yG a=yG b):a.2.2.2.2.1=b.2.2.2.2.1:=congrArg (fun x=>x.2.2.2.1) h
theorem y08 {a b:dA} (h:yG a=yG b):a.2.2.2.2.2.2.2.2.1=b.2.2.2.2.2.2.2.2.1:=congrArg (fun x=>x.2.2.2.2.2.2.2.1) h
def yaG (d:List dW) (x:dA):Prop:=x.2.2.1.length≤5∧yan x.2.2.1∧x.2.2.2.2.2.2.2.2.1=d
theorem yYH {a:dA} (h:yE a=true):yaG a.2.2.2.2.2.2.2.2.1 a:=⟨y9b h,yNv h,rfl⟩
theorem yYI {d:List dW} {a:dA} {m n:Int} {s:List Int} (h:yaG d a) (hm:inb m a.2.2.1.length=true):yaG d (ydM a m n s):=⟨by rw [yuD]; exact h.1,y92 h.2.1 hm,(y7z _ _ _ _).trans h.2.2⟩
theorem yabz {d:List dW} {a:dA} (h:yaG d a):yaG d (yz a):=⟨by rw [yIZ]; exact h.1,yLq h.2.1,(yGx _).trans h.2.2⟩
theorem yabx {d:List dW} {a:dA} (h:yaG d a):yaG d (markA a):=⟨by rw [yIh]; exact h.1,y7r h.2.1,(y2B _).trans h.2.2⟩
theorem yNX {d:List dW} {a:dA} (h:yaG d a):yaG d (checkA a):=⟨by rw [yKr]; exact h.1,yaaU h.2.1,(yWl _).trans h.2.2⟩
def yabC (b:dA):dA:=(b.1,b.2.1,b.2.2.1,b.2.2.2.1,IntKind.i64.wrap (b.2.2.2.2.1+1),b.2.2.2.2.2)
def yag (a:dA):dA:=ydM a a.2.2.2.1 (dataAt a.2.2.2.2.1) [nth (yax a a.2.2.2.2.1).1 a.2.2.2.1 0]
def stepOne (a:dA):Int×dA:=bif (yax a a.2.2.2.2.1).2 then (bif ye (yag a) then (6,yag a) else (0,yabC (yag a))) else (5,a)
theorem yaby {d:List dW} {a:dA} (h:yaG d a) (hl:inb a.2.2.2.1 a.2.2.1.length=true):yaG d (stepOne a).2:=by
 unfold stepOne
 have hp:yaG d (yag a):=yYI h hl
 cases (yax a a.2.2.2.2.1).2
 ·exact h
 ·cases ye (yag a)
  ·exact hp
  ·exact hp
def yIi (lost:Int) (br:Bool) (S:Int) (i:Nat) (m:dM):Prop:=yu m=true∧(m.1.length:Int)=6+S∧(m.2.2.1=true→(i:Int)=lost∨br=true)
def yNJ (lost:Int) (br:Bool) (S:Int) (l:List dM):Prop:= ∀ i,i < l.length→yIi lost br S i (nth l i noMem)
theorem yDS {lost S:Int} {br:Bool} {l:List dM} {i:Nat} {x:dM} (h:yNJ lost br S l) (hx:i < l.length→yIi lost br S i x):yNJ lost br S (l.set i x):=fun j hj=>by
 rw [List.length_set]at hj
 by_cases e:j=i
 ·subst e
  rw [zkm,zkd (by rw [List.length_set]; exact hj),List.getElem_set_self]; exact hx hj
 ·have:=h j hj
  rw [zkm,zkd hj]at this
  rw [zkm,zkd (by rw [List.length_set]; exact hj),List.getElem_set_ne (fun e'=>e e'.symm)]; exact this
theorem yaa4 {a:dA}:yp4 a=true↔yNJ a.2.2.2.1 a.2.2.2.2.2.2.2.2.2.2.2 a.2.1.2 a.2.2.1∧(a.2.2.1.length:Int)=a.2.1.1:=by
 constructor
 ·intro h
  refine ⟨fun i hi=>y7s h hi,?_⟩
  simp only [yp4,Bool.and_eq_true,beq_iff_eq]at h; exact h.2
 ·rintro ⟨h1,h2⟩
  simp only [yp4,Bool.and_eq_true,beq_iff_eq,Bool.not_eq_true',List.any_eq_false,List.mem_range]
  refine ⟨fun i hi=> ?_,h2⟩
  obtain ⟨g1,g2,g3⟩:=h1 i hi
  unfold yjf
  rw [g1,show (((nth a.2.2.1 i noMem).1.length:Int) !=6+a.2.1.2)=false from bne_eq_false_iff_eq.2 g2]
  cases hf:(nth a.2.2.1 i noMem).2.2.1
  ·simp
  ·rcases g3 hf with e | e
   ·rw [show ((i:Int) !=a.2.2.2.1)=false from bne_eq_false_iff_eq.2 e]; simp
   ·rw [e]; simp
def fuz (a:dA):Int:=a.2.2.2.2.2.2.2.2.2.1
def yH (a:dA):Prop:=(yNJ a.2.2.2.1 a.2.2.2.2.2.2.2.2.2.2.2 a.2.1.2 a.2.2.1∧(a.2.2.1.length:Int)=a.2.1.1)∧ -1≤fuz a∧fuz a≤1000
def ydt (a:dA):Prop:=yf a.2.1=true∧(1≤a.1∧a.1≤60000)∧yaA a.2.1 a.2.2.2.2.2.2.2.2.1=true∧(-1≤a.2.2.2.1∧a.2.2.2.1≤a.2.1.1 - 1)∧(0≤a.2.2.2.2.1∧a.2.2.2.2.1≤a.2.1.2)∧(a.2.2.2.1= -1→a.2.2.2.2.1=0) ∧
 (0≤a.2.2.2.2.2.2.1∧a.2.2.2.2.2.2.1≤60000)∧(a.2.2.2.2.2.2.1≤a.2.2.2.2.2.1∧a.2.2.2.2.2.1≤60000)∧a.2.2.2.2.2.1≤a.2.2.2.2.2.2.1+4∧0≤a.2.2.2.2.2.2.2.1∧a.2.2.2.2.2.2.2.1≤60000
theorem yBV {a:dA}:yE a=true↔ydt a∧yH a:=by
 unfold yE ydt yH fuz
 simp only [Bool.and_eq_true,zjD,yaa4,Bool.not_eq_true',Bool.and_eq_false_iff,beq_eq_false_iff_ne,bne_eq_false_iff_eq]
 constructor
 ·rintro ⟨h1,h2,h3,h4,h5,h6,h7,h8,h9,h10,h11,h12⟩
  exact ⟨⟨h1,h2,h4,h5,h6,fun e=>h7.resolve_left (fun g=>g e),h8,h9,h10,h11.1,h11.2⟩,h3,h12⟩
 ·rintro ⟨⟨h1,h2,h4,h5,h6,h7,h8,h9,h10,h11,h11'⟩,h3,h12⟩
  exact ⟨h1,h2,h3,h4,h5,h6,(Decidable.em (a.2.2.2.1= -1)).elim (fun e=> .inr (h7 e)) (fun e=> .inl e),h8,h9,h10,⟨h11,h11'⟩,h12⟩
theorem yaaE {a b:dA} (h:yG b=yG a) (ha:ydt a):ydt b:=by
 unfold yG at h
 simp only [Prod.mk.injEq]at h
 obtain ⟨h1,h2,h3,h4,h5,h6,h7,h8,h9⟩:=h
 unfold ydt at *
 rw [h1,h2,h3,h4,h5,h6,h7,h8]; exact ha
theorem yaci {a b:dA} (h:yG b=yG a) (hl:b.2.2.1.length=a.2.2.1.length) (hm:yNJ a.2.2.2.1 a.2.2.2.2.2.2.2.2.2.2.2 a.2.1.2 b.2.2.1) (hn:(a.2.2.1.length:Int)=a.2.1.1) (hf: -1≤fuz b∧fuz b≤1000):yH b:=by
 unfold yG at h
 simp only [Prod.mk.injEq]at h
 obtain ⟨h1,h2,h3,h4,h5,h6,h7,h8,h9⟩:=h
 unfold yH
 rw [h2,h3,h9,hl]; exact ⟨⟨hm,hn⟩,hf⟩
theorem yacx {a:dA} (h: -1≤fuz a∧fuz a≤1000): -1≤fuz (opA a).2∧fuz (opA a).2≤1000:=by
 unfold opA
 cases ye a
 ·cases h0:(a.2.2.2.2.2.2.2.2.2.1==0)
  ·cases h1:ltb 0 a.2.2.2.2.2.2.2.2.2.1
   ·exact h
   ·have:=zjG.1 h1
    unfold fuz at h
    show -1≤IntKind.i64.wrap (a.2.2.2.2.2.2.2.2.2.1 - 1)∧IntKind.i64.wrap (a.2.2.2.2.2.2.2.2.2.1 - 1)≤1000
    rw [wr (by omega) (by omega)]; omega
  ·show -1≤(-1:Int)∧(-1:Int)≤1000; omega
 ·exact h
theorem yTr {a:dA} (h:yH a):yH (opA a).2:=yaci (yNj a) (by rw [yaT]) (by rw [yaT]; exact h.1.1) h.1.2 (yacx h.2)
theorem yCD {a:dA} {m:Int} {x:dM} (h:yH a) (hm:inb m a.2.2.1.length=true) (hx:yIi a.2.2.2.1 a.2.2.2.2.2.2.2.2.2.2.2 a.2.1.2 m.toNat (nth a.2.2.1 m noMem)→yIi a.2.2.2.1 a.2.2.2.2.2.2.2.2.2.2.2 a.2.1.2 m.toNat x):yH (setMem a m x):=by
 have hm:=zjC.1 hm
 refine ⟨⟨yDS h.1.1 (fun hi=>hx ?_),by show ((a.2.2.1.set m.toNat x).length:Int)=_; rw [List.length_set]; exact h.1.2⟩,h.2⟩
 have:=h.1.1 m.toNat hi
 rwa [Int.toNat_of_nonneg hm.1]at this
theorem yaa3 {lost S:Int} {br:Bool} {i:Nat} {m:dM} (n:Int) (s:List Int) (h:yIi lost br S i m):yIi lost br S i (yhd m n s).1 :=
 ⟨y0f n s h.1,by rw [(y7H m n s).1]; exact h.2.1,by rw [(y7H m n s).2]; exact h.2.2⟩
theorem yaa2 {lost S:Int} {br:Bool} {i:Nat} {m:dM} (h:yIi lost br S i m):yIi lost br S i (yfC m) :=
 ⟨yXc h.1,by rw [(y7m m).1]; exact h.2.1,by rw [(y7m m).2]; exact h.2.2⟩
theorem yIf {a:dA} {m n:Int} {s:List Int} (h:yH a) (hm:inb m a.2.2.1.length=true):yH (ydM a m n s):=by
 unfold ydM
 cases (nth a.2.2.1 m noMem).2.2.1
 ·cases (opA a).1
  ·exact yTr h
  ·exact yCD (yTr h) (by rw [yaT]; exact hm) (fun g=>by rw [yaT]at g; exact yaa3 _ _ g)
 ·exact h
theorem y9P {a:dA} {i:Nat} (h:yH a) (hi:i < a.2.2.1.length):yH (yM a i):=by
 unfold yM
 cases (nth a.2.2.1 i noMem).2.2.1
 ·cases (opA a).1
  ·exact yTr h
  ·exact yCD (yTr h) (by rw [yaT]; exact zkl hi) (fun g=>by rw [yaT]at g; exact yaa2 g)
 ·exact h
theorem yoG {P:dA→Prop} {one:dA→Nat→dA} (hl: ∀ a i,(one a i).2.2.1.length=a.2.2.1.length) (ho: ∀ a i,P a→i < a.2.2.1.length→P (one a i)): ∀ (n:Nat) (a:dA),n≤a.2.2.1.length→P a→P ((List.range n).foldl one a)
 | 0,_,_,h=>h
 | n+1,a,hn,h=>by
  rw [List.range_succ,List.foldl_append]
  exact ho _ _ (yoG hl ho n a (by omega) h) (by rw [ys9 hl]; exact hn)
theorem yDR {a:dA} (h:yH a):yH (yz a):=yoG (P:=yH) (one:=yM) yqt (fun _ _=>y9P) _ a (Nat.le_refl _) h
theorem yKY {a:dA} (h:yH a):yH (markA a) :=
 yDR (yoG (P:=yH) (one:=yaS) (fun _ _=>yuD _ _ _ _) (fun _ _ h hi=>yIf h (zkl hi)) _ (ygV a) (Nat.le_refl _) h)
theorem y2z {a:dA} (h:yH a):yH (checkA a):=by
 unfold checkA
 cases ye (yz a)
 ·exact yKY (a:=ycR (yz a)) (yDR h)
 ·exact yDR h
def ylM (a:dA):Prop:=ye a=false∧fuz a= -1
theorem yaaQ {a:dA} (h:ylM a):opA a=(true,a):=by
 unfold opA
 rw [h.1,show a.2.2.2.2.2.2.2.2.2.1= -1 from h.2]; rfl
theorem yNG {a:dA} (h:ylM a) (m n:Int) (s:List Int):ylM (ydM a m n s):=by
 unfold ydM
 rw [yaaQ h]
 cases (nth a.2.2.1 m noMem).2.2.1<;>exact h
theorem y9L {a:dA} (h:ylM a) (i:Nat):ylM (yM a i):=by
 unfold yM
 rw [yaaQ h]
 cases (nth a.2.2.1 i noMem).2.2.1<;>exact h
theorem yKS {a:dA} (h:ylM a):ylM (yz a):=yoG (P:=ylM) (one:=yM) yqt (fun _ i h _=>y9L h i) _ a (Nat.le_refl _) h
theorem yabs {a:dA} (h:ylM a):ylM (markA a) :=
 yKS (yoG (P:=ylM) (one:=yaS) (fun _ _=>yuD _ _ _ _) (fun _ _ h _=>yNG h _ _ _) _ (ygV a) (Nat.le_refl _) h)
theorem y06 {a:dA} (h:ylM a):checkA a=markA (ycR (yz a)):=by
 unfold checkA
 rw [(yKS h).1]; rfl
def Wk (k:Int) (a:dA):Prop:=ydt a∧yH a∧ylM a∧a.2.2.2.2.2.2.2.2.2.2.2=false∧a.2.2.2.2.2.2.2.1≤k
theorem yabE {k:Int} {a:dA} (h:Wk k a):yE a=true:=yBV.2 ⟨h.1,h.2.1⟩
theorem yeI {k j:Int} {a:dA} (h:Wk k a) (hj:k≤j):Wk j a:=⟨h.1,h.2.1,h.2.2.1,h.2.2.2.1,Int.le_trans h.2.2.2.2 hj⟩
theorem yGA {k:Int} {a b:dA} (hc:yG b=yG a) (hk:yH b) (hf:ylM b) (h:Wk k a):Wk k b:=by
 refine ⟨yaaE hc h.1,hk,hf,?_⟩
 unfold yG at hc
 simp only [Prod.mk.injEq]at hc
 obtain ⟨_,_,_,_,_,_,h7,_,h9⟩:=hc
 rw [h7,h9]; exact h.2.2.2
theorem yacG {k:Int} {a:dA} {m n:Int} {s:List Int} (h:Wk k a) (hm:inb m a.2.2.1.length=true):Wk k (ydM a m n s):=yGA (yxN _ _ _ _) (yIf h.2.1 hm) (yNG h.2.2.1 _ _ _) h
theorem yaco {k:Int} {a:dA} (h:Wk k a):Wk k (yz a):=yGA (yoe _) (yDR h.2.1) (yKS h.2.2.1) h
theorem yab6 {k:Int} {a:dA} (h:Wk k a) (hk:k+1≤60000):Wk (k+1) (ygV a):=by
 obtain ⟨⟨c1,c2,c3,c4,c5,c6,c7,c8,c9,c10,c11⟩,h2,h3,h4,h5⟩:=h
 have e:IntKind.i64.wrap (a.2.2.2.2.2.2.2.1+1)=a.2.2.2.2.2.2.2.1+1:=wr (by omega) (by omega)
 refine ⟨⟨c1,c2,c3,c4,c5,c6,c7,c8,c9,?_,?_⟩,h2,h3,h4,?_⟩
 ·show 0≤IntKind.i64.wrap (a.2.2.2.2.2.2.2.1+1); omega
 ·show IntKind.i64.wrap (a.2.2.2.2.2.2.2.1+1)≤_; omega
 ·show IntKind.i64.wrap (a.2.2.2.2.2.2.2.1+1)≤_; omega
theorem y69 {k:Int} {a:dA} (h:Wk k a) (hk:k+1≤60000):Wk (k+1) (markA a):=yGA (yh6 _) (yKY h.2.1) (yabs h.2.2.1) (yab6 h hk)
theorem yabG {k:Int} {a:dA} (h:Wk k a):Wk k (ycR a):=by
 obtain ⟨⟨c1,c2,c3,c4,c5,c6,c7,c8,c9,c10,c11⟩,h2,h3,h4,h5⟩:=h
 refine ⟨⟨c1,c2,c3,c4,c5,c6,⟨?_,?_⟩,⟨Int.le_refl _,c8.2⟩,?_,c10,c11⟩,h2,h3,h4,h5⟩
 ·show 0≤a.2.2.2.2.2.1; omega
 ·show a.2.2.2.2.2.1≤60000; omega
 ·show a.2.2.2.2.2.1≤a.2.2.2.2.2.1+4; omega
theorem yaae {k:Int} {a:dA} (h:Wk k a) (hk:k+1≤60000):Wk (k+1) (checkA a):=by
 rw [y06 h.2.2.1]; exact y69 (yabG (yaco h)) hk
theorem yabF {k:Int} {a:dA} {m:Int} {x:dM} (h:Wk k a) (hm:inb m a.2.2.1.length=true) (hx:yIi a.2.2.2.1 a.2.2.2.2.2.2.2.2.2.2.2 a.2.1.2 m.toNat (nth a.2.2.1 m noMem)→yIi a.2.2.2.1 a.2.2.2.2.2.2.2.2.2.2.2 a.2.1.2 m.toNat x):Wk k (setMem a m x) :=
 yGA (a:=a) (b:=setMem a m x) rfl (yCD h.2.1 hm hx) h.2.2.1 h
theorem yacm {k m:Int} {a:dA} (h:Wk k a) (hl:a.2.2.2.1= -1) (hm:inb m a.2.2.1.length=true) (hk:k+1≤60000):Wk (k+1) (failOne a m):=by
 have hmi:=zjC.1 hm
 have hw:Wk k (ybG a m):=by
  obtain ⟨⟨c1,c2,c3,c4,c5,c6,c7,c8,c9,c10,c11⟩,⟨⟨g1,g2⟩,g3⟩,f,b,t⟩:=h
  refine ⟨⟨c1,c2,c3,⟨?_,?_⟩,⟨Int.le_refl _,by show (0:Int)≤a.2.1.2; omega⟩,fun e=>rfl,c7,c8,c9,c10,c11⟩,⟨⟨?_,?_⟩,g3⟩,f,b,t⟩
  ·show -1≤m; omega
  ·show m≤a.2.1.1 - 1; omega
  ·show yNJ m a.2.2.2.2.2.2.2.2.2.2.2 a.2.1.2 (a.2.2.1.set m.toNat (yyj (nth a.2.2.1 m noMem)))
   refine yDS (fun i hi=> ?_) (fun hi=> ?_)
   ·obtain ⟨e1,e2,e3⟩:=g1 i hi
    refine ⟨e1,e2,fun e=> ?_⟩
    rcases e3 e with e | e
    ·omega
    ·exact .inr e
   ·have:=g1 m.toNat hi
    rw [Int.toNat_of_nonneg hmi.1]at this
    exact ⟨y5q this.1,this.2.1,fun _=> .inl (Int.toNat_of_nonneg hmi.1)⟩
  ·show ((a.2.2.1.set m.toNat (yyj (nth a.2.2.1 m noMem))).length:Int)=a.2.1.1
   rw [List.length_set]; exact g2
 unfold failOne
 rw [show (a.2.2.2.1== -1)=true from beq_iff_eq.2 hl,h.2.2.1.1,h.2.2.2.1]
 cases ltb a.2.2.2.2.2.2.2.1 60000
 ·exact yeI hw (by omega)
 ·exact y69 hw hk
theorem yab8 {k:Int} {a:dA} (h:Wk k a) (hl:inb a.2.2.2.1 a.2.2.1.length=true) (hk:k+1≤60000):Wk (k+1) (markA (spareNew a)):=by
 have hmi:=zjC.1 hl
 refine y69 ?_ hk
 obtain ⟨⟨c1,c2,c3,c4,c5,c6,c7,c8,c9,c10,c11⟩,⟨⟨g1,g2⟩,g3⟩,f,b,t⟩:=h
 have hg:=yk.1 c1
 refine ⟨⟨c1,c2,c3,c4,⟨Int.le_refl _,by show (0:Int)≤a.2.1.2; omega⟩,fun e=>rfl,c7,c8,c9,c10,c11⟩,⟨⟨yDS g1 (fun hi=>⟨yK0 (by omega) (by omega),?_,fun e=> ?_⟩),?_⟩,g3⟩,f,b,t⟩
 ·unfold ycO
  rw [zkw (show 1≤6+a.2.1.2 by omega),zkw (show 6+a.2.1.2≤20 by omega)]
  show ((List.replicate (6+a.2.1.2).toNat ([]:List Int)).length:Int)=6+a.2.1.2
  rw [List.length_replicate]; omega
 ·unfold ycO at e
  rw [zkw (show 1≤6+a.2.1.2 by omega),zkw (show 6+a.2.1.2≤20 by omega)] at e
  cases e
 ·show ((a.2.2.1.set a.2.2.2.1.toNat (ycO (6+a.2.1.2))).length:Int)=a.2.1.1
  rw [List.length_set]; exact g2
theorem yacn {k:Int} {a:dA} (h:Wk k a) (hl:inb a.2.2.2.1 a.2.2.1.length=true) (hb:a.2.2.2.2.1 < a.2.1.2):Wk k (stepOne a).2:=by
 have hp:Wk k (yag a):=yacG h hl
 have e:=yxN a a.2.2.2.1 (dataAt a.2.2.2.2.1) [nth (yax a a.2.2.2.2.1).1 a.2.2.2.1 0]
 have e1:(yag a).2.2.2.2.1=a.2.2.2.2.1:=y07 e
 have e2:(yag a).2.1=a.2.1:=ydb e
 have e3:(yag a).2.2.2.1=a.2.2.2.1:=congrArg (fun x=>x.2.2.1) e
 unfold stepOne
 cases (yax a a.2.2.2.2.1).2
 ·exact h
 ·generalize yag a=R at hp e1 e2 e3 ⊢
  rw [hp.2.2.1.1]
  have hmi:=zjC.1 hl
  obtain ⟨⟨c1,c2,c3,c4,c5,c6,c7,c8,c9,c10,c11⟩,g2,g3,g4,g5⟩:=hp
  have hg:=yk.1 c1
  have e4:IntKind.i64.wrap (R.2.2.2.2.1+1)=R.2.2.2.2.1+1:=wr (by omega) (by omega)
  refine ⟨⟨c1,c2,c3,c4,⟨?_,?_⟩,fun e=> ?_,c7,c8,c9,c10,c11⟩,g2,g3,g4,g5⟩
  ·show 0≤IntKind.i64.wrap (R.2.2.2.2.1+1); omega
  ·show IntKind.i64.wrap (R.2.2.2.2.1+1)≤R.2.1.2; rw [e4,e1,e2]; omega
  ·have:R.2.2.2.1= -1:=e
   omega
def ygR (a:dA):Prop:=a.2.2.1.length≤1000000000∧(∀ m∈a.2.2.1,m.1.length≤1000000000∧m.2.1.length≤1000000000)∧a.2.2.2.2.2.2.2.2.1.length≤1000000000
theorem y9R {d:List dW} {a:dA} (h:yaG d a) (hd:d.length≤1000000000):ygR a:=by
 refine ⟨by have:=h.1; omega,fun m hm=> ?_,by rw [h.2.2]; exact hd⟩
 obtain ⟨_,_,_,_,h5,h6⟩:=yaw (h.2.1 m hm)
 omega
theorem yabj {a b:dA} (h:yG a=yG b):a.2.2.2.1=b.2.2.2.1:=congrArg (fun x=>x.2.2.1) h
theorem y93 (s:dS):yal (yJ s)=true:=by
 unfold yJ
 cases h:yC s
 ·rfl
 ·unfold yC at h
  simp only [ybr]at h
  cases hg:yf (s.2.2.2.1,s.2.2.2.2.1)
  ·rw [hg]at h; cases h
  have hge:=yk.1 hg
  simp only at hge
  rw [hg,wr (show -9223372036854775808≤s.2.2.2.1 - 1 by omega) (by omega)] at h
  cases h2:(leb 1 s.1&&leb s.1 60000)
  ·rw [h2]at h; cases h
  cases h3:(leb 0 s.2.1&&leb s.2.1 60000)
  ·rw [h2,h3]at h; cases h
  cases h4:(leb 0 s.2.2.1&&leb s.2.2.1 (s.2.2.2.1 - 1))
  ·rw [h2,h3,h4]at h; cases h
  cases h5:(leb 0 s.2.2.2.2.2.1&&leb s.2.2.2.2.2.1 60000)
  ·rw [h2,h3,h4,h5]at h; cases h
  cases h6:(leb (-1) s.2.2.2.2.2.2.1&&leb s.2.2.2.2.2.2.1 (s.2.2.2.1 - 1))
  ·rw [h2,h3,h4,h5,h6]at h; cases h
  cases h7:(leb 0 s.2.2.2.2.2.2.2&&leb s.2.2.2.2.2.2.2 s.2.2.2.2.1)
  ·rw [h2,h3,h4,h5,h6,h7]at h; cases h
  simp only [Bool.and_eq_true,zjD]at h2 h3 h4 h5 h6 h7
  rw [yabB]
  refine ⟨by show (9:Nat)≤12; omega,?_⟩
  have hw:IntKind.i64.wrap (s.2.2.2.2.2.2.1+1)=s.2.2.2.2.2.2.1+1:=wr (by omega) (by omega)
  simp only [Bool.not_true,cond_false,hw,List.mem_cons,List.not_mem_nil,or_false]
  rintro x (rfl | rfl | rfl | rfl | rfl | rfl | rfl | rfl | rfl)<;>omega
theorem yaa6 {g:dG} (id i:Int) (hg:yf g=true):yu (yO id g i)=true∧((yO id g i).1.length:Int)=6+g.2∧(yO id g i).2=([],false,[]):=by
 have hge:=yk.1 hg
 have hm:ycO (6+g.2)=(List.replicate (6+g.2).toNat [],[],false,[]):=by
  unfold ycO
  rw [zkw (show 1≤6+g.2 by omega),zkw (show 6+g.2≤20 by omega)]; rfl
 have key: ∀ (l:List Nat) (m:dM),m.1.all yal=true∧m.2=([],false,[])→(l.foldl yM2 m).1.all yal=true∧(l.foldl yM2 m).2=([],false,[]):=by
  intro l
  induction l with
  | nil=>intro m h; exact h
  | cons x t ih =>
   intro m h
   refine ih _ ⟨?_,h.2⟩
   rw [List.all_eq_true]
   intro y hy
   rcases List.mem_or_eq_of_mem_set hy with h1 | rfl
   ·exact List.all_eq_true.1 h.1 y h1
   ·rfl
 have ht:(yD1 id g i).1.all yal=true∧(yD1 id g i).2=([],false,[]):=by
  unfold yD1
  rw [hm]
  refine ⟨?_,rfl⟩
  rw [List.all_eq_true]
  intro y hy
  rcases List.mem_or_eq_of_mem_set hy with h1 | rfl
  ·rw [List.eq_of_mem_replicate h1]; rfl
  ·exact y93 _
 have hl:((yO id g i).1.length:Int)=6+g.2:=by
  unfold yO
  rw [yaat]
  unfold yD1
  rw [hm]
  show (((List.replicate (6+g.2).toNat ([]:List Int)).set 0 _).length:Int)=_
  rw [List.length_set,List.length_replicate]; omega
 obtain ⟨h1,h2⟩:=key (List.range g.2.toNat) _ ht
 refine ⟨yB8 h1 ?_ ?_ ?_ ?_ ?_,hl,h2⟩
 ·show List.all ((yO id g i).2).1 _=true
  rw [show (yO id g i).2=([],false,[]) from h2]; rfl
 ·show yuq _ ((yO id g i).2).2.2=true
  rw [show (yO id g i).2=([],false,[]) from h2,ys6]
  exact ⟨fun x hx=>absurd hx List.not_mem_nil,List.Pairwise.nil⟩
 ·show 1≤(yO id g i).1.length; omega
 ·show (yO id g i).1.length≤20; omega
 ·show ((yO id g i).2).1.length≤60
  rw [show (yO id g i).2=([],false,[]) from h2]; exact Nat.zero_le _
theorem yabg {id:Int} {g:dG} (hg:yf g=true) (h1:1≤id) (h2:id≤60000):yCX id g=(id,g,(List.range g.1.toNat).map (fun (i:Nat)=>yO id g i),-1,0,0,0,0,[],-1,false,false):=by
 unfold yCX
 rw [hg,zkw h1,zkw h2]
 have: ∀ (n:Nat),(List.range n).foldl (fun a (i:Nat)=>yHb a (yO id g i)) (yHc id g)=(id,g,(List.range n).map (fun (i:Nat)=>yO id g i),-1,0,0,0,0,[],-1,false,false):=by
  intro n
  induction n with
  | zero=>rfl
  | succ n ih=>rw [List.range_succ,List.foldl_append,ih,List.map_append]; rfl
 exact this _
theorem yacF {id:Int} {g:dG} (hg:yf g=true) (h1:1≤id) (h2:id≤60000):Wk 0 (yCX id g):=by
 have hge:=yk.1 hg
 rw [yabg hg h1 h2]
 have hl:((List.range g.1.toNat).map (fun (i:Nat)=>yO id g i)).length=g.1.toNat:=by rw [List.length_map,List.length_range]
 refine ⟨⟨hg,⟨h1,h2⟩,?_,⟨Int.le_refl _,?_⟩,⟨Int.le_refl _,?_⟩,fun _=>rfl,?_,?_,?_,?_,?_⟩,⟨⟨fun i hi=> ?_,?_⟩,?_,?_⟩,⟨rfl,rfl⟩,rfl,Int.le_refl _⟩
 ·rfl
 ·show (-1:Int)≤g.1 - 1; omega
 ·show (0:Int)≤g.2; omega
 ·show (0:Int)≤0∧(0:Int)≤60000; omega
 ·show (0:Int)≤0∧(0:Int)≤60000; omega
 ·show (0:Int)≤0+4; omega
 ·show (0:Int)≤0; omega
 ·show (0:Int)≤60000; omega
 ·have hi':i < ((List.range g.1.toNat).map (fun (i:Nat)=>yO id g i)).length:=hi
  show yIi (-1) false g.2 i (nth ((List.range g.1.toNat).map (fun (i:Nat)=>yO id g i)) i noMem)
  rw [zkm,zkd hi',List.getElem_map,List.getElem_range]
  obtain ⟨k1,k2,k3⟩:=yaa6 id i hg
  refine ⟨k1,k2,fun e=> ?_⟩
  rw [show (yO id g i).2=([],false,[]) from k3]at e
  cases e
 ·show (((List.range g.1.toNat).map (fun (i:Nat)=>yO id g i)).length:Int)=g.1
  rw [hl]; omega
 ·show (-1:Int)≤ -1; omega
 ·show (-1:Int)≤1000; omega
theorem yab9 {k m n:Int} {a:dA} (h:Wk k a) (hm:inb m a.2.2.1.length=true):Wk k (setMem a m (spoil (nth a.2.2.1 m noMem) n)) :=
 yabF h hm (fun g=>⟨yOc n g.1,by rw [(yLp _ _).1]; exact g.2.1,by rw [(yLp _ _).2]; exact g.2.2⟩)
theorem yabi {α:Type} {c:Bool} {x y:α} (h:c=true):(bif !c then x else y)=y:=by subst h; rfl
theorem y9c {α:Type} {c:Bool} {x y:α} (h:c=false):(bif !c then x else y)=x:=by subst h; rfl
def Lo (d:List dW) (a:dA):Prop:=yaG d a∧yf a.2.1=true∧(a.2.2.1.length:Int)=a.2.1.1∧ -1≤a.2.2.2.1∧a.2.2.2.1≤a.2.1.1 - 1
theorem yacv {a:dA} (h:yE a=true):Lo a.2.2.2.2.2.2.2.2.1 a:=⟨yYH h,yll h,yCY h,yabM h⟩
theorem yacJ {d:List dW} {a b:dA} (hg:b.2.1=a.2.1) (hl:b.2.2.1.length=a.2.2.1.length) (ht:b.2.2.2.1=a.2.2.2.1) (hn:yaG d b) (h:Lo d a):Lo d b:=⟨hn,by rw [hg]; exact h.2.1,by rw [hg,hl]; exact h.2.2.1,by rw [hg,ht]; exact h.2.2.2⟩
theorem yaaL {d:List dW} {a:dA} (h:Lo d a):Lo d (markA a):=yacJ ((ydb (yh6 a)).trans rfl) (yIh a) ((yabj (yh6 a)).trans rfl) (yabx h.1) h
theorem yacj {d:List dW} {a:dA} {m:Int} (h:Lo d a) (hm:inb m a.2.2.1.length=true):Lo d (failOne a m):=by
 obtain ⟨f1,f2⟩:=yWp h.1.2.1 hm
 have hmi:=zjC.1 hm
 have h3:=h.2.2.1
 have hL:Lo d (ybG a m):=⟨⟨by rw [f2]; exact h.1.1,f1,h.1.2.2⟩,h.2.1,by rw [f2]; exact h.2.2.1,by show -1≤m; omega,by show m≤a.2.1.1 - 1; omega⟩
 have hB:Lo d (yzN a m):=⟨⟨by rw [show (yzN a m).2.2.1=(ybG a m).2.2.1 from rfl,f2]; exact h.1.1,f1,h.1.2.2⟩,h.2.1,by rw [show (yzN a m).2.2.1=(ybG a m).2.2.1 from rfl,f2]; exact h.2.2.1,h.2.2.2⟩
 unfold failOne
 cases (a.2.2.2.1== -1||a.2.2.2.1==m)
 ·exact hB
 ·cases (!(ye a)&&(!a.2.2.2.2.2.2.2.2.2.2.2&&ltb a.2.2.2.2.2.2.2.1 60000))
  ·exact hL
  ·exact yaaL hL
theorem yab0 {d:List dW} {a:dA} (h:Lo d a):Lo d (markA (spareNew a)):=by
 have hg:=yk.1 h.2.1
 have e:(spareNew a).2.2.1.length=a.2.2.1.length:=List.length_set
 exact yaaL (a:=spareNew a) ⟨⟨by rw [e]; exact h.1.1,yAd h.1.2.1 (yK0 (by omega) (by omega)),h.1.2.2⟩,h.2.1,by rw [e]; exact h.2.2.1,h.2.2.2⟩
end
section
def yLH:Code:=(Tryz.f25.body).getD .skip
def yMo:Env:=zj2 TT [(56,yDe),(71,yve)] []
theorem yUq:FrOk Tryz.prog ⟨yMo,87,fun _=>none⟩ yLH:=zj6 yc yd ⟨yVV,yIv,trivial⟩
def yWB:Nat→Option Seg:=fun _=>none
abbrev ym6:List Par:= [.rd tA,.rd tA]
abbrev yub:List OT:= [⟨false,tB,.fz⟩]
def yaH (a0 a1:dA):Option (ResD yub×MutD ym6) :=
 bif (a0.1==a1.1) then
 bif ((a0.2.1.1==a1.2.1.1)&&((a0.2.1.2==a1.2.1.2)&&true)) then
 bnd (yaY a0.2.2.1 a1.2.2.1) fun r1 =>
 bif r1.1.1 then
 bif (a0.2.2.2.1==a1.2.2.2.1) then
 bif (a0.2.2.2.2.1==a1.2.2.2.2.1) then
 bif (a0.2.2.2.2.2.1==a1.2.2.2.2.2.1) then
 bif (a0.2.2.2.2.2.2.1==a1.2.2.2.2.2.2.1) then
 bif (a0.2.2.2.2.2.2.2.1==a1.2.2.2.2.2.2.2.1) then
 bnd (ydx a0.2.2.2.2.2.2.2.2.1 a1.2.2.2.2.2.2.2.2.1) fun r2 =>
 bif r2.1.1 then
 bif (a0.2.2.2.2.2.2.2.2.2.1==a1.2.2.2.2.2.2.2.2.2.1) then
 bif (a0.2.2.2.2.2.2.2.2.2.2.1==a1.2.2.2.2.2.2.2.2.2.2.1) then
 some (((a0.2.2.2.2.2.2.2.2.2.2.2==a1.2.2.2.2.2.2.2.2.2.2.2),()),())
 else
 some ((false,()),())
 else
 some ((false,()),())
 else
 some ((false,()),())
 else
 some ((false,()),())
 else
 some ((false,()),())
 else
 some ((false,()),())
 else
 some ((false,()),())
 else
 some ((false,()),())
 else
 some ((false,()),())
 else
 some ((false,()),())
 else
 some ((false,()),())
theorem y45 (x:InD ym6):zjw ⟨yMo,87,yWB⟩ Tryz.f25.results.toList yLH ym6 yub x=yaH x.1 x.2.1:=by kernel_rfl
theorem yZl:ConOk Tryz.prog 25 ⟨ym6,yub,fun x=>yaH x.1 x.2.1⟩:=zj1 (yUq) Tryz.func25 (by kernel_rfl) (by kernel_rfl) Tryz.ntmps25.symm (by decide) (fun x r h=>(y45 x).trans h)
def yHw:Con:=⟨ym6,yub,fun x=>yaH x.1 x.2.1⟩
theorem y30:ConOk Tryz.prog 25 yHw:=yZl
theorem yOb (a:dA) (h:ygR a):yaH a a=some ((true,()),()):=by
 unfold yaH
 rw [y7A _ h.1 h.2.1,yaa9 _ h.2.2]
 simp only [beq_self_eq_true,Bool.and_self,zkc,cond_true]
end
section
def yLF:Code:=(Tryz.f100.body).getD .skip
def yMm:Env:=zj2 TT [] []
theorem yUm:FrOk Tryz.prog ⟨yMm,6,fun _=>none⟩ yLF:=zj6 yc yd trivial
def yWz:Nat→Option Seg:=fun _=>none
abbrev ym4:List Par:= [.rd tG]
abbrev yt8:List OT:= [⟨false,tI,.fz⟩]
def yxP (a0:dG):Option (ResD yt8×MutD ym4) :=
 some (((IntKind.i64.wrap (6+a0.2)),()),())
theorem y42 (x:InD ym4):zjw ⟨yMm,6,yWz⟩ Tryz.f100.results.toList yLF ym4 yt8 x=yxP x.1:=by kernel_rfl
theorem yZi:ConOk Tryz.prog 100 ⟨ym4,yt8,fun x=>yxP x.1⟩:=zj1 (yUm) Tryz.func100 (by kernel_rfl) (by kernel_rfl) Tryz.ntmps100.symm (by decide) (fun x r h=>(y42 x).trans h)
def yuv (a0:dG):Int :=
 (IntKind.i64.wrap (6+a0.2))
def yHu:Con:=⟨ym4,yt8,fun x=>(fun n=>some ((n,()),())) (yuv x.1)⟩
theorem y2S (a0:dG):yxP a0=(fun n=>some ((n,()),())) (yuv a0):=zkp (p:=fun (n:Int)=>((n,()),())) rfl
theorem y3Y:ConOk Tryz.prog 100 yHu:=(yZi).mono (fun x r _ h=>(y2S x.1).trans h)
end
section
def yOr:Code:=(Tryz.f126.body).getD .skip
def yO2:Env:=zj2 TT [] []
theorem yXq:FrOk Tryz.prog ⟨yO2,15,fun _=>none⟩ yOr:=zj6 yc yd trivial
def y0u:Nat→Option Seg:=fun _=>none
abbrev ypH:List Par:= [.rd tI,.rd tI,.rd tI]
abbrev ywr:List OT:= [⟨false,tB,.fz⟩]
def yAq (a0 a1 a2:Int):Option (ResD ywr×MutD ypH) :=
 bif (leb a1 a0) then
 some (((leb a0 a2),()),())
 else
 some ((false,()),())
theorem y7X (x:InD ypH):zjw ⟨yO2,15,y0u⟩ Tryz.f126.results.toList yOr ypH ywr x=yAq x.1 x.2.1 x.2.2.1:=by kernel_rfl
theorem y3o:ConOk Tryz.prog 126 ⟨ypH,ywr,fun x=>yAq x.1 x.2.1 x.2.2.1⟩:=zj1 (yXq) Tryz.func126 (by kernel_rfl) (by kernel_rfl) Tryz.ntmps126.symm (by decide) (fun x r h=>(y7X x).trans h)
def yg (a0 a1 a2:Int):Bool :=
 bif (leb a1 a0) then
 (leb a0 a2)
 else
 false
def yF:Con:=⟨ypH,ywr,fun x=>(fun n=>some ((n,()),())) (yg x.1 x.2.1 x.2.2.1)⟩
theorem y5Q (a0 a1 a2:Int):yAq a0 a1 a2=(fun n=>some ((n,()),())) (yg a0 a1 a2):=zkp (p:=fun (n:Bool)=>((n,()),())) (zkb (p:=fun (n:Bool)=>((n,()),())) rfl rfl)
theorem yS:ConOk Tryz.prog 126 yF:=(y3o).mono (fun x r _ h=>(y5Q x.1 x.2.1 x.2.2.1).trans h)
theorem yah (a b c:Int):yg a b c=ya a b c:=by kernel_rfl
end
section
def yQA:Code:=(Tryz.f122.body).getD .skip
def yQS:Env:=zj2 TT [(126,yF)] []
theorem y1L:FrOk Tryz.prog ⟨yQS,11,fun _=>none⟩ yQA:=zj6 yc yd ⟨yS,trivial⟩
def y4x:Nat→Option Seg:=fun _=>none
abbrev ysN:List Par:= [.rd tG]
abbrev yyY:List OT:= [⟨false,tB,.fz⟩]
def yCn (a0:dG):Option (ResD yyY×MutD ysN) :=
 let r1:=yg a0.1 3 5
 bif r1 then
 let r2:=yg a0.2 1 8
 some ((r2,()),())
 else
 some ((false,()),())
theorem y9l (x:InD ysN):zjw ⟨yQS,11,y4x⟩ Tryz.f122.results.toList yQA ysN yyY x=yCn x.1:=by kernel_rfl
theorem y6f:ConOk Tryz.prog 122 ⟨ysN,yyY,fun x=>yCn x.1⟩:=zj1 (y1L) Tryz.func122 (by kernel_rfl) (by kernel_rfl) Tryz.ntmps122.symm (by decide) (fun x r h=>(y9l x).trans h)
def ygq (a0:dG):Bool :=
 let r1:=yg a0.1 3 5
 bif r1 then
 let r2:=yg a0.2 1 8
 r2
 else
 false
def yus:Con:=⟨ysN,yyY,fun x=>(fun n=>some ((n,()),())) (ygq x.1)⟩
theorem y8y (a0:dG):yCn a0=(fun n=>some ((n,()),())) (ygq a0):=zkp (p:=fun (n:Bool)=>((n,()),())) (zkb (p:=fun (n:Bool)=>((n,()),())) rfl rfl)
theorem yEu:ConOk Tryz.prog 122 yus:=(y6f).mono (fun x r _ h=>(y8y x.1).trans h)
theorem y2w (a:Int×Int):ygq a=yf a:=by kernel_rfl
end
section
def yOq:Code:=(Tryz.f131.body).getD .skip
def yO1:Env:=zj2 TT [(126,yF)] []
theorem yXp:FrOk Tryz.prog ⟨yO1,26,fun _=>none⟩ yOq:=zj6 yc yd ⟨yS,trivial⟩
def y0t:Nat→Option Seg:=fun _=>none
abbrev ypG:List Par:= [.rd tG,.rd tI,.rd tI]
abbrev ywq:List OT:= [⟨false,tB,.fz⟩]
def yAp (a0:dG) (a1 a2:Int):Option (ResD ywq×MutD ypG) :=
 let r1:=yg a1 (-1) (IntKind.i64.wrap (a0.1 - 1))
 bif r1 then
 let r2:=yg a2 0 a0.2
 bif r2 then
 bif (!(a2==0)) then
 some (((a1 !=(-1)),()),())
 else
 some ((true,()),())
 else
 some ((false,()),())
 else
 some ((false,()),())
theorem y7W (x:InD ypG):zjw ⟨yO1,26,y0t⟩ Tryz.f131.results.toList yOq ypG ywq x=yAp x.1 x.2.1 x.2.2.1:=by kernel_rfl
theorem y3n:ConOk Tryz.prog 131 ⟨ypG,ywq,fun x=>yAp x.1 x.2.1 x.2.2.1⟩:=zj1 (yXp) Tryz.func131 (by kernel_rfl) (by kernel_rfl) Tryz.ntmps131.symm (by decide) (fun x r h=>(y7W x).trans h)
def yg9 (a0:dG) (a1 a2:Int):Bool :=
 let r1:=yg a1 (-1) (IntKind.i64.wrap (a0.1 - 1))
 bif r1 then
 let r2:=yg a2 0 a0.2
 bif r2 then
 bif (!(a2==0)) then
 (a1 !=(-1))
 else
 true
 else
 false
 else
 false
def yzq:Con:=⟨ypG,ywq,fun x=>(fun n=>some ((n,()),())) (yg9 x.1 x.2.1 x.2.2.1)⟩
theorem y5P (a0:dG) (a1 a2:Int):yAp a0 a1 a2=(fun n=>some ((n,()),())) (yg9 a0 a1 a2):=zkp (p:=fun (n:Bool)=>((n,()),())) (zkb (p:=fun (n:Bool)=>((n,()),())) (zkb (p:=fun (n:Bool)=>((n,()),())) (zkb (p:=fun (n:Bool)=>((n,()),())) rfl rfl) rfl) rfl)
theorem yM9:ConOk Tryz.prog 131 yzq:=(y3n).mono (fun x r _ h=>(y5P x.1 x.2.1 x.2.2.1).trans h)
end
section
def yGD:Code:=(Tryz.f116.body).getD .skip
def yHa:Env:=zj2 TT [(122,yus),(126,yF)] []
theorem yPT:FrOk Tryz.prog ⟨yHa,14,fun _=>none⟩ yGD:=zj6 yc yd ⟨yEu,yS,trivial⟩
def yQR:Nat→Option Seg:=fun _=>none
abbrev yiA:List Par:= [.rd tG,.rd tI]
abbrev yon:List OT:= [⟨false,tB,.fz⟩]
def ytw (a0:dG) (a1:Int):Option (ResD yon×MutD yiA) :=
 let r1:=ygq a0
 bif r1 then
 let r2:=yg a1 0 (IntKind.i64.wrap (a0.2 - 1))
 some ((r2,()),())
 else
 some ((false,()),())
theorem yW8 (x:InD yiA):zjw ⟨yHa,14,yQR⟩ Tryz.f116.results.toList yGD yiA yon x=ytw x.1 x.2.1:=by kernel_rfl
theorem ySR:ConOk Tryz.prog 116 ⟨yiA,yon,fun x=>ytw x.1 x.2.1⟩:=zj1 (yPT) Tryz.func116 (by kernel_rfl) (by kernel_rfl) Tryz.ntmps116.symm (by decide) (fun x r h=>(yW8 x).trans h)
def ybJ (a0:dG) (a1:Int):Bool :=
 let r1:=ygq a0
 bif r1 then
 let r2:=yg a1 0 (IntKind.i64.wrap (a0.2 - 1))
 r2
 else
 false
def yln:Con:=⟨yiA,yon,fun x=>(fun n=>some ((n,()),())) (ybJ x.1 x.2.1)⟩
theorem yVk (a0:dG) (a1:Int):ytw a0 a1=(fun n=>some ((n,()),())) (ybJ a0 a1):=zkp (p:=fun (n:Bool)=>((n,()),())) (zkb (p:=fun (n:Bool)=>((n,()),())) rfl rfl)
theorem yvy:ConOk Tryz.prog 116 yln:=(ySR).mono (fun x r _ h=>(yVk x.1 x.2.1).trans h)
theorem yWr (g:dG) (s:Int):ybJ g s=ycU g s:=by
 unfold ybJ ycU
 rw [y2w]
 cases hg:yf g
 ·rfl
 have:=yk.1 hg
 rw [yah,ybr,wr (by omega) (by omega)]; rfl
end
section
def yOp:Code:=(Tryz.f179.body).getD .skip
def yO0:Env:=zj2 TT [(126,yF)] []
theorem yXo:FrOk Tryz.prog ⟨yO0,5,fun _=>none⟩ yOp:=zj6 yc yd ⟨yS,trivial⟩
def y0s:Nat→Option Seg:=fun _=>none
abbrev ypF:List Par:= [.rd tI]
abbrev ywp:List OT:= [⟨false,tB,.fz⟩]
def yAo (a0:Int):Option (ResD ywp×MutD ypF) :=
 let r1:=yg a0 0 65535
 some ((r1,()),())
theorem y7V (x:InD ypF):zjw ⟨yO0,5,y0s⟩ Tryz.f179.results.toList yOp ypF ywp x=yAo x.1:=by kernel_rfl
theorem y3m:ConOk Tryz.prog 179 ⟨ypF,ywp,fun x=>yAo x.1⟩:=zj1 (yXo) Tryz.func179 (by kernel_rfl) (by kernel_rfl) Tryz.ntmps179.symm (by decide) (fun x r h=>(y7V x).trans h)
def yap (a0:Int):Bool :=
 let r1:=yg a0 0 65535
 r1
def yKy:Con:=⟨ypF,ywp,fun x=>(fun n=>some ((n,()),())) (yap x.1)⟩
theorem y5O (a0:Int):yAo a0=(fun n=>some ((n,()),())) (yap a0):=zkp (p:=fun (n:Bool)=>((n,()),())) rfl
theorem y6L:ConOk Tryz.prog 179 yKy:=(y3m).mono (fun x r _ h=>(y5O x.1).trans h)
end
section
def ymQ:Code:=(Tryz.f228.body).getD .skip
def ytU:Env:=zj2 TT [(179,yKy)] []
theorem yUo:FrOk Tryz.prog ⟨ytU,15,fun _=>none⟩ ymQ:=zj6 yc yd ⟨y6L,trivial⟩
def yGQ:Nat→Option Seg:=fun _=>none
def yep:Shape:=⟨[(5,false,[.br tI]),(6,false,[.int .i64]),(7,false,[.int .i64])],[],[]⟩
def ylY:Shape:=⟨[(5,false,[.br tI]),(6,false,[.int .i64]),(7,false,[.ci .i64 0])],[],[]⟩
def ylW:Shape:=⟨[],[],[]⟩
def yl8:Shape:=⟨[(2,false,[.bool])],[],[]⟩
def ytE (v0:List Int) (v1 v2:Int):Option ((yep).X ⊕ ((ylW).X ⊕ (yl8).X)) :=
 bif (ltb v2 v1) then
 bif (inb v2 v0.length) then
 let r2:=yap (nth v0 v2 0)
 bif (!r2) then
 some (.inr (.inr (((false,()),()),(),())))
 else
 some (.inl (((v0,()),(v1,()),((IntKind.i64.wrap (v2+1)),()),()),(),()))
 else none
 else
 some (.inr (.inl ((),(),())))
def ycC (x:(yep).X):=ytE x.1.1.1 x.1.2.1.1 x.1.2.2.1.1
def yDo (x:(ylY).X):(yep).X:=(((x.1.1.1,()),(x.1.2.1.1,()),(0,()),()),(),())
def yFg:Code:=(zdD ymQ 64 52).getD .skip
theorem yTR:zdD ymQ 64 13=some (.block 0 (.loop yFg)):=by kernel_rfl
theorem yV6 (x:(yep).X):zg0 ⟨ytU,15,yGQ⟩ 0 yFg 52 yep ylW yl8 x=ycC x:=by kernel_rfl
def yDG (x:(ylY).X):Nat:=18446744073709551616
def yu0 (x:(ylY).X):Option ((ylW).X ⊕ (yl8).X):=zz ycC (yDG x) (yDo x)
def yD9:Seg:=⟨ylY,ylW,yl8,yu0⟩
def yGR:Nat→Option Seg:=fun q=>bif Nat.beq q 13 then some yD9 else yGQ q
theorem yUp:FrOk Tryz.prog ⟨ytU,15,yGR⟩ ymQ:=(yUo).loop (sg:=yD9) yep yDo (by decide) yTR ycC yDG (by decide) (fun _=>rfl) (fun x r _ h=>h) yV6
abbrev yie:List Par:= [.rd tL]
abbrev yua:List OT:= [⟨false,tB,.fz⟩]
def yo2 (a0:List Int):Option (ResD yua×MutD yie) :=
 zjY (yu0 (((a0,()),((a0.length:Int),()),((),()),()),(),())) (fun y2 =>
 some ((true,()),())) (fun y2 =>
 some ((y2.1.1.1,()),()))
theorem y44 (x:InD yie):zjw ⟨ytU,15,yGR⟩ Tryz.f228.results.toList ymQ yie yua x=yo2 x.1:=by kernel_rfl
theorem yZk:ConOk Tryz.prog 228 ⟨yie,yua,fun x=>yo2 x.1⟩:=zj1 (yUp) Tryz.func228 (by kernel_rfl) (by kernel_rfl) Tryz.ntmps228.symm (by decide) (fun x r h=>(y44 x).trans h)
def yaf (a0:List Int):Bool:=a0.all yap
theorem y2U (a0:List Int) (hk:zi1 yie (a0,())):yo2 a0=(fun n=>some ((n,()),())) (yaf a0):=by
 have hb:a0.length * 8≤2 ^ 47:=hk.1.1
 have hl:yu0 (((a0,()),((a0.length:Int),()),((),()),()),(),())=some (bif a0.all yap then .inl ((),(),()) else .inr (((false,()),()),(),())) :=
  zjF (step:=ycC) a0 0 (fun i=>(((a0,()),((a0.length:Int),()),((i:Int),()),()),(),())) yap _ _ (fun i hi=>by
   simp only [ycC,ytE,zkl hi,zkm,zj4 (show (i:Int) < a0.length by omega),cond_true,wr (show -9223372036854775808≤(i:Int)+1 by omega) (by omega),Int.natCast_add,Int.natCast_one]
   cases yap (a0.getD i 0)<;>rfl) (by simp only [ycC,ytE,zkx (Int.le_refl _),cond_false]) _ (by show _ < 18446744073709551616; omega)
 unfold yo2 yaf
 rw [hl]
 cases a0.all yap<;>rfl
def yoC:Con:=⟨yie,yua,fun x=>(fun n=>some ((n,()),())) (yaf x.1)⟩
theorem yAe:ConOk Tryz.prog 228 yoC:=(yZk).mono (fun x r hk h=>(y2U x.1 hk).trans h)
end
section
def yOn:Code:=(Tryz.f144.body).getD .skip
def yOY:Env:=zj2 TT [(228,yoC)] []
theorem yXm:FrOk Tryz.prog ⟨yOY,15,fun _=>none⟩ yOn:=zj6 yc yd ⟨yAe,trivial⟩
def y0q:Nat→Option Seg:=fun _=>none
abbrev ypD:List Par:= [.rd tG,.rd tL]
abbrev ywn:List OT:= [⟨false,tB,.fz⟩]
def yAm (a0:dG) (a1:List Int):Option (ResD ywn×MutD ypD) :=
 bif ((a1.length:Int)==(IntKind.i64.wrap (a0.1 - 1))) then
 let r1:=yaf a1
 some ((r1,()),())
 else
 some ((false,()),())
theorem y7T (x:InD ypD):zjw ⟨yOY,15,y0q⟩ Tryz.f144.results.toList yOn ypD ywn x=yAm x.1 x.2.1:=by kernel_rfl
theorem y3k:ConOk Tryz.prog 144 ⟨ypD,ywn,fun x=>yAm x.1 x.2.1⟩:=zj1 (yXm) Tryz.func144 (by kernel_rfl) (by kernel_rfl) Tryz.ntmps144.symm (by decide) (fun x r h=>(y7T x).trans h)
def yqb (a0:dG) (a1:List Int):Bool :=
 bif ((a1.length:Int)==(IntKind.i64.wrap (a0.1 - 1))) then
 let r1:=yaf a1
 r1
 else
 false
def yKx:Con:=⟨ypD,ywn,fun x=>(fun n=>some ((n,()),())) (yqb x.1 x.2.1)⟩
theorem y5M (a0:dG) (a1:List Int):yAm a0 a1=(fun n=>some ((n,()),())) (yqb a0 a1):=zkp (p:=fun (n:Bool)=>((n,()),())) (zkb (p:=fun (n:Bool)=>((n,()),())) rfl rfl)
theorem y6K:ConOk Tryz.prog 144 yKx:=(y3k).mono (fun x r _ h=>(y5M x.1 x.2.1).trans h)
end
section
def ymP:Code:=(Tryz.f132.body).getD .skip
def ytT:Env:=zj2 TT [(116,yln),(144,yKx)] []
theorem yUk:FrOk Tryz.prog ⟨ytT,44,fun _=>none⟩ ymP:=zj6 yc yd ⟨yvy,y6K,trivial⟩
def yGO:Nat→Option Seg:=fun _=>none
def ycc:Shape:=⟨[(1,false,[.ptr 0 0]),(6,false,[.br tW]),(7,false,[.int .i64]),(8,false,[.int .i64])],[(0,[.int .i64,.int .i64,.int .i64,.br tM,.int .i64,.int .i64,.int .i64,.int .i64,.int .i64,.br tW,.int .i64,.bool,.bool])],[]⟩
def yhD:Shape:=⟨[(1,false,[.ptr 0 0]),(6,false,[.br tW]),(7,false,[.int .i64]),(8,false,[.ci .i64 0])],[(0,[.int .i64,.int .i64,.int .i64,.br tM,.int .i64,.int .i64,.int .i64,.int .i64,.int .i64,.br tW,.int .i64,.bool,.bool])],[]⟩
def yho:Shape:=⟨[],[],[]⟩
def yhP:Shape:=⟨[(2,false,[.bool])],[],[]⟩
abbrev ytg (v0:List dW) (v1 v2:Int) (v3:dA):(ycc).X:=((((),()),(v0,()),(v1,()),(v2,()),()),((v3.1,v3.2.1.1,v3.2.1.2,v3.2.2.1,v3.2.2.2.1,v3.2.2.2.2.1,v3.2.2.2.2.2.1,v3.2.2.2.2.2.2.1,v3.2.2.2.2.2.2.2.1,v3.2.2.2.2.2.2.2.2.1,v3.2.2.2.2.2.2.2.2.2.1,v3.2.2.2.2.2.2.2.2.2.2.1,v3.2.2.2.2.2.2.2.2.2.2.2,()),()),())
abbrev ySt (v0:List dW) (v1:Int) (v2:dA):(yhD).X:=((((),()),(v0,()),(v1,()),((),()),()),((v2.1,v2.2.1.1,v2.2.1.2,v2.2.2.1,v2.2.2.2.1,v2.2.2.2.2.1,v2.2.2.2.2.2.1,v2.2.2.2.2.2.2.1,v2.2.2.2.2.2.2.2.1,v2.2.2.2.2.2.2.2.2.1,v2.2.2.2.2.2.2.2.2.2.1,v2.2.2.2.2.2.2.2.2.2.2.1,v2.2.2.2.2.2.2.2.2.2.2.2,()),()),())
abbrev ySh  :(yho).X:=((),(),())
abbrev ySE (v0:Bool):(yhP).X:=(((v0,()),()),(),())
def ytD (v0:List dW) (v1 v2 v3 v4 v5:Int) (v6:List dM) (v7 v8 v9 v10 v11:Int) (v12:List dW) (v13:Int) (v14 v15:Bool):Option ((ycc).X ⊕ ((yho).X ⊕ (yhP).X)) :=
 bif (ltb v2 v1) then
 bif (inb v2 v0.length) then
 let r4:=ybJ (v4,v5) ((nth v0 v2 (0,[])).1)
 bif (!(!r4)) then
 bif (ltb 0 v2) then
 bif (inb (IntKind.i64.wrap (v2 - 1)) v12.length) then
 bif (!(leb ((nth v0 v2 (0,[])).1) ((nth v12 (IntKind.i64.wrap (v2 - 1)) (0,[])).1))) then
 let r5:=yqb (v4,v5) ((nth v0 v2 (0,[])).2)
 bif (!r5) then
 some (.inr (.inr (((false,()),()),(),())))
 else
 some (.inl ((((),()),(v0,()),(v1,()),((IntKind.i64.wrap (v2+1)),()),()),((v3,v4,v5,v6,v7,v8,v9,v10,v11,v12,v13,v14,v15,()),()),()))
 else
 some (.inr (.inr (((false,()),()),(),())))
 else none
 else
 let r6:=yqb (v4,v5) ((nth v0 v2 (0,[])).2)
 bif (!r6) then
 some (.inr (.inr (((false,()),()),(),())))
 else
 some (.inl ((((),()),(v0,()),(v1,()),((IntKind.i64.wrap (v2+1)),()),()),((v3,v4,v5,v6,v7,v8,v9,v10,v11,v12,v13,v14,v15,()),()),()))
 else
 some (.inr (.inr (((false,()),()),(),())))
 else none
 else
 some (.inr (.inl ((),(),())))
def ycB (x:(ycc).X):=ytD x.1.2.1.1 x.1.2.2.1.1 x.1.2.2.2.1.1 x.2.1.1.1 x.2.1.1.2.1 x.2.1.1.2.2.1 x.2.1.1.2.2.2.1 x.2.1.1.2.2.2.2.1 x.2.1.1.2.2.2.2.2.1 x.2.1.1.2.2.2.2.2.2.1 x.2.1.1.2.2.2.2.2.2.2.1 x.2.1.1.2.2.2.2.2.2.2.2.1 x.2.1.1.2.2.2.2.2.2.2.2.2.1 x.2.1.1.2.2.2.2.2.2.2.2.2.2.1 x.2.1.1.2.2.2.2.2.2.2.2.2.2.2.1 x.2.1.1.2.2.2.2.2.2.2.2.2.2.2.2.1
def yDn (x:(yhD).X):(ycc).X:=((((),()),(x.1.2.1.1,()),(x.1.2.2.1.1,()),(0,()),()),((x.2.1.1.1,x.2.1.1.2.1,x.2.1.1.2.2.1,x.2.1.1.2.2.2.1,x.2.1.1.2.2.2.2.1,x.2.1.1.2.2.2.2.2.1,x.2.1.1.2.2.2.2.2.2.1,x.2.1.1.2.2.2.2.2.2.2.1,x.2.1.1.2.2.2.2.2.2.2.2.1,x.2.1.1.2.2.2.2.2.2.2.2.2.1,x.2.1.1.2.2.2.2.2.2.2.2.2.2.1,x.2.1.1.2.2.2.2.2.2.2.2.2.2.2.1,x.2.1.1.2.2.2.2.2.2.2.2.2.2.2.2.1,()),()),())
def yFf:Code:=(zdD ymP 64 52).getD .skip
theorem yTQ:zdD ymP 64 13=some (.block 0 (.loop yFf)):=by kernel_rfl
theorem yV5 (x:(ycc).X):zg0 ⟨ytT,44,yGO⟩ 0 yFf 52 ycc yho yhP x=ycB x:=by kernel_rfl
def yDF (x:(yhD).X):Nat:=18446744073709551616
def yuZ (x:(yhD).X):Option ((yho).X ⊕ (yhP).X):=zz ycB (yDF x) (yDn x)
def yD8:Seg:=⟨yhD,yho,yhP,yuZ⟩
def yGP:Nat→Option Seg:=fun q=>bif Nat.beq q 13 then some yD8 else yGO q
theorem yUl:FrOk Tryz.prog ⟨ytT,44,yGP⟩ ymP:=(yUk).loop (sg:=yD8) ycc yDn (by decide) yTQ ycB yDF (by decide) (fun _=>rfl) (fun x r _ h=>h) yV5
abbrev yfl:List Par:= [.rd tA]
abbrev ynt:List OT:= [⟨false,tB,.fz⟩]
def yo1 (a0:dA):Option (ResD ynt×MutD yfl) :=
 zjY (yuZ ((((),()),(a0.2.2.2.2.2.2.2.2.1,()),((a0.2.2.2.2.2.2.2.2.1.length:Int),()),((),()),()),((a0.1,a0.2.1.1,a0.2.1.2,a0.2.2.1,a0.2.2.2.1,a0.2.2.2.2.1,a0.2.2.2.2.2.1,a0.2.2.2.2.2.2.1,a0.2.2.2.2.2.2.2.1,a0.2.2.2.2.2.2.2.2.1,a0.2.2.2.2.2.2.2.2.2.1,a0.2.2.2.2.2.2.2.2.2.2.1,a0.2.2.2.2.2.2.2.2.2.2.2,()),()),())) (fun y6 =>
 some ((true,()),())) (fun y6 =>
 some ((y6.1.1.1,()),()))
theorem y41 (x:InD yfl):zjw ⟨ytT,44,yGP⟩ Tryz.f132.results.toList ymP yfl ynt x=yo1 x.1:=by kernel_rfl
theorem yZh:ConOk Tryz.prog 132 ⟨yfl,ynt,fun x=>yo1 x.1⟩:=zj1 (yUl) Tryz.func132 (by kernel_rfl) (by kernel_rfl) Tryz.ntmps132.symm (by decide) (fun x r h=>(y41 x).trans h)
def ynQ (a0:dA):Bool:=yaA a0.2.1 a0.2.2.2.2.2.2.2.2.1
def yCh (a0:dA):Bool:=yf a0.2.1
theorem yKX (l:List Int):yaf l=l.all isW:=by
 unfold yaf
 rw [show yap=isW from funext fun x=>by unfold yap; rw [yah,ybr]; rfl]
theorem y2R (a0:dA) (hk:zi1 yfl (a0,())) (hq:yCh a0=true):yo1 a0=(fun n=>some ((n,()),())) (ynQ a0):=by
 have hb:a0.2.2.2.2.2.2.2.2.1.length * 32≤2 ^ 47:=hk.1.2.2.2.2.2.2.2.2.1.1
 have hg:=yk.1 hq
 have hq':yf a0.2.1=true:=hq
 have h1:yuZ (ySt a0.2.2.2.2.2.2.2.2.1 a0.2.2.2.2.2.2.2.2.1.length a0)=some (bif (List.range a0.2.2.2.2.2.2.2.2.1.length).any (yjY a0.2.1 a0.2.2.2.2.2.2.2.2.1) then .inr (ySE false) else .inl ySh) :=
  ziN (step:=ycB) (fun i=>ytg a0.2.2.2.2.2.2.2.2.1 a0.2.2.2.2.2.2.2.2.1.length i a0) a0.2.2.2.2.2.2.2.2.1.length (yjY a0.2.1 a0.2.2.2.2.2.2.2.2.1) _ _ (fun i hi=>by
   simp only [ycB,ytg,ytD,zj4 (show (i:Int) < a0.2.2.2.2.2.2.2.2.1.length by omega),cond_true,wr (show -9223372036854775808≤(i:Int)+1 by omega) (by omega),Int.natCast_add,Int.natCast_one,Int.toNat_natCast,zkl hi,zkr,ybJ,yqb,y2w,hq',yah,ybr,yKX,wr (show -9223372036854775808≤a0.2.1.2 - 1 by omega) (by omega),wr (show -9223372036854775808≤a0.2.1.1 - 1 by omega) (by omega),yjY,bne]
   rcases Nat.eq_zero_or_pos i with rfl | h0
   ·cases (leb 0 (nth a0.2.2.2.2.2.2.2.2.1 ((0:Nat):Int) (0,[])).1&&leb (nth a0.2.2.2.2.2.2.2.2.1 ((0:Nat):Int) (0,[])).1 (a0.2.1.2 - 1))<;>cases (((nth a0.2.2.2.2.2.2.2.2.1 ((0:Nat):Int) (0,[])).2.length:Int)==a0.2.1.1 - 1)<;>cases ((nth a0.2.2.2.2.2.2.2.2.1 ((0:Nat):Int) (0,[])).2.all isW)<;>rfl
   ·rw [show IntKind.i64.wrap ((i:Int) - 1)=((i - 1:Nat):Int) by rw [wr (by omega) (by omega)]; omega,zkl (show i - 1 < a0.2.2.2.2.2.2.2.2.1.length by omega),zj4 (show (0:Int) < i by omega),decide_eq_true h0]
    cases (leb 0 (nth a0.2.2.2.2.2.2.2.2.1 (i:Int) (0,[])).1&&leb (nth a0.2.2.2.2.2.2.2.2.1 (i:Int) (0,[])).1 (a0.2.1.2 - 1))<;>cases (((nth a0.2.2.2.2.2.2.2.2.1 (i:Int) (0,[])).2.length:Int)==a0.2.1.1 - 1)<;>cases ((nth a0.2.2.2.2.2.2.2.2.1 (i:Int) (0,[])).2.all isW)<;>cases leb (nth a0.2.2.2.2.2.2.2.2.1 (i:Int) (0,[])).1 (nth a0.2.2.2.2.2.2.2.2.1 ((i - 1:Nat):Int) (0,[])).1<;>rfl) (by simp only [ycB,ytg,ytD,zkx (Int.le_refl _),cond_false]) _ (by show _ < 18446744073709551616; omega)
 unfold yo1 ynQ yaA
 rw [h1]
 cases (List.range a0.2.2.2.2.2.2.2.2.1.length).any (yjY a0.2.1 a0.2.2.2.2.2.2.2.2.1)<;>rfl
def yuz (a0:dA):Option (ResD ynt×MutD yfl):=bif yCh a0 then (fun n=>some ((n,()),())) (ynQ a0) else none
theorem y4a (a0:dA) (h:yCh a0=true):yuz a0=(fun n=>some ((n,()),())) (ynQ a0):=by unfold yuz; rw [h]; rfl
def yHt:Con:=⟨yfl,ynt,fun x=>yuz x.1⟩
theorem y3X:ConOk Tryz.prog 132 yHt:=(yZh).mono (fun x r hk h=>zks h (fun hq=>y2R x.1 hk hq))
end
section
def yOo:Code:=(Tryz.f220.body).getD .skip
def yOZ:Env:=zj2 TT [(126,yF)] []
theorem yXn:FrOk Tryz.prog ⟨yOZ,11,fun _=>none⟩ yOo:=zj6 yc yd ⟨yS,trivial⟩
def y0r:Nat→Option Seg:=fun _=>none
abbrev ypE:List Par:= [.rd tM,.rd tI]
abbrev ywo:List OT:= [⟨false,tB,.fz⟩]
def yAn (a0:dM) (a1:Int):Option (ResD ywo×MutD ypE) :=
 let r1:=yg a1 0 (IntKind.i64.wrap ((a0.1.length:Int) - 1))
 some ((r1,()),())
theorem y7U (x:InD ypE):zjw ⟨yOZ,11,y0r⟩ Tryz.f220.results.toList yOo ypE ywo x=yAn x.1 x.2.1:=by kernel_rfl
theorem y3l:ConOk Tryz.prog 220 ⟨ypE,ywo,fun x=>yAn x.1 x.2.1⟩:=zj1 (yXn) Tryz.func220 (by kernel_rfl) (by kernel_rfl) Tryz.ntmps220.symm (by decide) (fun x r h=>(y7U x).trans h)
def ybM (a0:dM) (a1:Int):Bool :=
 let r1:=yg a1 0 (IntKind.i64.wrap ((a0.1.length:Int) - 1))
 r1
def yrR:Con:=⟨ypE,ywo,fun x=>(fun n=>some ((n,()),())) (ybM x.1 x.2.1)⟩
theorem y5N (a0:dM) (a1:Int):yAn a0 a1=(fun n=>some ((n,()),())) (ybM a0 a1):=zkp (p:=fun (n:Bool)=>((n,()),())) rfl
theorem yCa:ConOk Tryz.prog 220 yrR:=(y3l).mono (fun x r _ h=>(y5N x.1 x.2.1).trans h)
end
end
end Go.Tf
