/- Functions of the program, and what they come to. -/
import Derived.Test.YtgmadfpnljibhaaGreatExactFlushAllTt
namespace Go.Tf
noncomputable section
open Go.Proofs
set_option synthInstance.maxHeartbeats 400000
set_option synthInstance.maxSize 10000
set_option linter.unusedVariables false
set_option linter.unusedSimpArgs false
set_option maxRecDepth 100000
section
def yPF:Code:=(Tryz.f135.body).getD .skip
def yPK:Env:=zki TT [] []
theorem yXZ:FrOk Tryz.prog ⟨yPK,15,fun _=>none⟩ yPF:=zkp yb yc trivial
def y0a:Nat→Option Seg:=fun _=>none
abbrev ysG:List Par:= [.rd tI,.rd tI,.rd tI]
abbrev yyF:List OT:= [⟨false,tB,.fz⟩]
def yAC (a0 a1 a2:Int):Option (ResD yyF×MutD ysG) :=
 bif (leb a1 a0) then
 some (((leb a0 a2),()),())
 else
 some ((false,()),())
theorem y3c (x:InD ysG):zjH ⟨yPK,15,y0a⟩ Tryz.f135.results.toList yPF ysG yyF x=yAC x.1 x.2.1 x.2.2.1:=by kernel_rfl
theorem y1s:ConOk Tryz.prog 135 ⟨ysG,yyF,fun x=>yAC x.1 x.2.1 x.2.2.1⟩:=zkh (yXZ) Tryz.func135 (by kernel_rfl) (by kernel_rfl) Tryz.ntmps135.symm (by decide) (fun x r h=>(y3c x).trans h)
def ya (a0 a1 a2:Int):Bool :=
 bif (leb a1 a0) then
 (leb a0 a2)
 else
 false
def yn:Con:=⟨ysG,yyF,fun x=>(fun n=>some ((n,()),())) (ya x.1 x.2.1 x.2.2.1)⟩
theorem y2T (a0 a1 a2:Int):yAC a0 a1 a2=(fun n=>some ((n,()),())) (ya a0 a1 a2):=zkS (p:=fun (n:Bool)=>((n,()),())) (zkx (p:=fun (n:Bool)=>((n,()),())) rfl rfl)
theorem yr:ConOk Tryz.prog 135 yn:=(y1s).mono (fun x r _ h=>(y2T x.1 x.2.1 x.2.2.1).trans h)
theorem ysL {a b c:Int}:ya a b c=true↔b≤a∧a≤c:=by
 unfold ya
 cases h:leb b a
 ·have:=mt zk0 (by rw [h]; simp: ¬ leb b a=true)
  simp [this]
 ·simp [zjQ,zjQ.1 h]
theorem y55 {a b c:Int} (h:b≤a) (h2:a≤c):ya a b c=true:=ysL.2 ⟨h,h2⟩
theorem y54 {a b c:Int} (h: ¬ (b≤a∧a≤c)):ya a b c=false:=by
 cases e:ya a b c
 ·rfl
 ·exact absurd (ysL.1 e) h
def yB {α:Type} (p:α→Bool) (l:List α):Int:=bif l.any p then ((l.takeWhile (fun x=> !p x)).length:Int) else -1
theorem yZW {α:Type} (p:α→Bool):yB p []= -1:=rfl
theorem ywl {α:Type} (p:α→Bool) (x:α) (l:List α):yB p (x::l)=bif p x then 0 else bif leb 0 (yB p l) then yB p l+1 else -1:=by
 unfold yB
 rw [List.any_cons,List.takeWhile_cons]
 cases p x
 ·cases l.any p
  ·rfl
  ·simp only [Bool.false_or,Bool.not_false,if_true,cond_true,cond_false,List.length_cons]
   rw [zk0 (show (0:Int)≤((l.takeWhile (fun x=> !p x)).length:Int) by omega),cond_true]; omega
 ·simp
theorem yua {α:Type} {p:α→Bool} {d:α}: ∀ {l:List α},leb 0 (yB p l)=true→inb (yB p l) l.length=true∧p (nth l (yB p l) d)=true
 | [],h=>by rw [yZW]at h; cases h
 | x::l,h=>by
  rw [ywl]at h ⊢
  cases hx:p x
  ·rw [hx]at h
   cases hl:leb 0 (yB p l)
   ·rw [hl]at h; cases h
   ·obtain ⟨h1,h2⟩:=yua (d:=d) hl
    have h3:=zjP.1 h1
    have h4:=zjQ.1 hl
    simp only [cond_false,cond_true,List.length_cons]
    refine ⟨zjP.2 (by omega),?_⟩
    unfold nth at h2 ⊢
    rw [show (yB p l+1).toNat=(yB p l).toNat+1 by omega,List.getD_cons_succ]
    exact h2
  ·simp only [cond_true,List.length_cons]
   refine ⟨zjP.2 (by omega),?_⟩
   exact hx
theorem yMv {A B α:Type} {step:A→Option (A ⊕ B)} (l:List α) (d:α) (f:Nat→A) (p:α→Bool) (b:Int→B) (c:B)
  (h: ∀ i,i < l.length→step (f i)=some (bif p (l.getD i d) then .inr (b i) else .inl (f (i+1)))) (e:step (f l.length)=some (.inr c)) (fuel:Nat) (hf:l.length < fuel) :
  zr step fuel (f 0)=some (bif leb 0 (yB p l) then b (yB p l) else c):=by
 have: ∀ (t q:List α) (fuel:Nat),q++t=l→t.length < fuel→zr step fuel (f q.length)=some (bif leb 0 (yB p t) then b (q.length+yB p t) else c):=by
  intro t
  induction t with
  | nil =>
   intro q fuel hq hf
   obtain ⟨fuel,rfl⟩: ∃ m,fuel=m+1:=⟨fuel - 1,by omega⟩
   rw [List.append_nil]at hq
   subst hq
   simp only [zr,e]; rfl
  | cons x t ih =>
   intro q fuel hq hf
   obtain ⟨fuel,rfl⟩: ∃ m,fuel=m+1:=⟨fuel - 1,by omega⟩
   have hx:l.getD q.length d=x:=by
    subst hq
    rw [zcq (by simp)]; simp
   have hs:=h q.length (by rw [← hq]; simp)
   rw [hx]at hs
   rw [ywl]
   cases hp:p x
   ·rw [hp]at hs
    have:=ih (q++ [x]) fuel (by rw [← hq]; simp) (by simp at hf; omega)
    simp only [List.length_append,List.length_cons,List.length_nil]at this
    simp only [zr,hs,cond_false]
    rw [show q.length+1=q.length+(0+1) by omega,this]
    cases hl:leb 0 (yB p t)
    ·rfl
    ·have:=zjQ.1 hl
     rw [cond_true,cond_true,zk0 (show 0≤yB p t+1 by omega),cond_true]
     congr 2; omega
   ·rw [hp]at hs
    simp only [zr,hs,cond_true]
    rw [zk0 (Int.le_refl 0),cond_true,Int.add_zero]
 have:=this l [] fuel rfl hf
 simpa using this
theorem yII {α β:Type} (f:α→β): ∀ (l:List α) (s:List β),l.foldl (fun s i=>s++ [f i]) s=s++l.map f
 | [],s=>by simp
 | x::l,s=>by rw [List.foldl_cons,yII f l]; simp
theorem yt9 {α:Type} (l:List α):l.foldl (fun s i=>s++ [i]) []=l:=by
 have:=yII id l []
 simpa using this
theorem y4a {α:Type} (l:List α) (d:α) {i:Nat} (h:i < l.length):l.take i++ [nth l i d]=l.take (i+1):=by rw [zjW,zcq h,List.take_append_getElem h]
def ybY (e:dW) (s:Bool×List dW) (x:dW):Bool×List dW:=(s.1||leb e.1 x.1,(bif !s.1&&leb e.1 x.1 then s.2++ [e] else s.2)++(bif x.1 !=e.1 then [x] else []))
def yIx (l:List dW) (e:dW):List dW:=bif (l.foldl (ybY e) (false,[])).1 then (l.foldl (ybY e) (false,[])).2 else (l.foldl (ybY e) (false,[])).2++ [e]
def yI5 (a:dA) (l:List dW):dA:=(a.1,a.2.1,a.2.2.1,a.2.2.2.1,a.2.2.2.2.1,a.2.2.2.2.2.1,a.2.2.2.2.2.2.1,a.2.2.2.2.2.2.2.1,l,a.2.2.2.2.2.2.2.2.2)
theorem yTa {α:Type} (f:α→Nat) (c:Nat): ∀ l:List α,(l.map (fun x=>c+f x)).sum=c * l.length+(l.map f).sum
 | []=>by simp
 | x::l=>by rw [List.map_cons,List.sum_cons,yTa f c l,List.map_cons,List.sum_cons,List.length_cons,Nat.mul_add]; omega
theorem yW1 {α:Type} {u:α→Int→Int} {m:α→Nat} {l:List α} {k:Int} (hu: ∀ x∈l,∀ k,0≤k→k≤1048576→0≤u x k→(m x:Int)≤k∧u x k≤k - m x) (h0:0≤k) (h1:k≤1048576) (hl:l.length≤17592186044416)
  (h:0≤(bif ltb (IntKind.i64.wrap (k - (l.length:Int))) 0 then (-1) else (szG u l (IntKind.i64.wrap (k - (l.length:Int)))).getD (-1))) :
  ((l.length+(l.map m).sum:Nat):Int)≤k - (bif ltb (IntKind.i64.wrap (k - (l.length:Int))) 0 then (-1) else (szG u l (IntKind.i64.wrap (k - (l.length:Int)))).getD (-1))∧(bif ltb (IntKind.i64.wrap (k - (l.length:Int))) 0 then (-1) else (szG u l (IntKind.i64.wrap (k - (l.length:Int)))).getD (-1))≤k:=by
 rw [wr (show -9223372036854775808≤k - (l.length:Int) by omega) (by omega)] at h ⊢
 by_cases h2:k - (l.length:Int) < 0
 ·rw [zjI h2]at h; exact absurd (show (0:Int)≤ -1 from h) (by omega)
 ·rw [zkm (Int.not_lt.1 h2),cond_false]at h ⊢
  cases hg:szG u l (k - (l.length:Int)) with
  | none=>rw [hg]at h; exact absurd (show (0:Int)≤ -1 from h) (by omega)
  | some r =>
   have:=zke hu (by omega) (by omega) hg
   rw [Option.getD_some]
   omega
def yr9 (m:dM):Nat:=(m.1.map (fun x:List Int=>x.length)).sum+(m.2.1.map (fun x:dW=>1+x.2.length)).sum+1+m.2.2.2.length
def yo7 (l:List dM):Nat:=(l.map yr9).sum
def yb0 (l:List dW):Nat:=(l.map (fun x:dW=>1+x.2.length)).sum
def ybw (a:dA):Nat:=yo7 a.2.2.1+yb0 a.2.2.2.2.2.2.2.2.1
abbrev yh:dM:=([],[],false,[])
def isW (x:Int):Bool:=leb 0 x&&leb x 65535
def ybA (s:List Int):Bool:=leb (s.length:Int) 12&&s.all isW
theorem y4T {x:Int}:isW x=true↔0≤x∧x≤65535:=by simp [isW,zjQ]
theorem yGN {s:List Int}:ybA s=true↔s.length≤12∧ ∀ x∈s,0≤x∧x≤65535:=by
 simp only [ybA,Bool.and_eq_true,zjQ,List.all_eq_true,y4T]
 constructor
 ·rintro ⟨h1,h2⟩; exact ⟨by omega,h2⟩
 ·rintro ⟨h1,h2⟩; exact ⟨by omega,h2⟩
theorem y3q: ∀ {l:List Int},l.Pairwise (· < ·)↔ ∀ i,i+1 < l.length→l.getD i 0 < l.getD (i+1) 0
 | []=>by simp
 | [x]=>by simp
 | x::y::l=>by
  have ih:=y3q (l:=y::l)
  constructor
  ·intro h i hi
   cases h with
   | cons h1 h2 =>
    cases i with
    | zero=>exact h1 y List.mem_cons_self
    | succ i=>exact ih.1 h2 i (by simpa using hi)
  ·intro h
   have h2:(y::l).Pairwise (· < ·):=ih.2 fun i hi=>h (i+1) (by simpa using hi)
   refine .cons (fun z hz=> ?_) h2
   have h3:x < y:=h 0 (by simp)
   rcases List.mem_cons.1 hz with rfl | hz
   ·exact h3
   ·cases h2 with
    | cons h4 _=>exact Int.lt_trans h3 (h4 z hz)
def yvZ (n:Nat) (l:List Int):Bool:=l.all (fun x=>inb x n)&&decide (l.Pairwise (· < ·))
def yyA (n:Nat) (w:dW):Bool:=inb w.1 n&&ybA w.2
def yu (m:dM):Bool:=m.1.all ybA&&m.2.1.all (yyA m.1.length)&&yvZ m.1.length m.2.2.2&&leb 1 (m.1.length:Int)&&leb (m.1.length:Int) 20&&leb (m.2.1.length:Int) 60
def yFV (n:Nat) (l:List Int) (i:Nat):Bool:= !(inb (l.getD i 0) n)||(decide (0 < i)&&leb (l.getD i 0) (l.getD (i - 1) 0))
theorem yZR (n:Nat) (l:List Int):(List.range l.length).any (yFV n l)= !(yvZ n l):=by
 rw [Bool.eq_iff_iff,List.any_eq_true,Bool.not_eq_true',yvZ,Bool.and_eq_false_iff,decide_eq_false_iff_not,y3q,List.all_eq_false]
 simp only [List.mem_range,yFV,Bool.or_eq_true,Bool.not_eq_true',Bool.and_eq_true,decide_eq_true_eq,zjQ]
 constructor
 ·rintro ⟨i,hi,h | ⟨h1,h2⟩⟩
  ·exact .inl ⟨l[i],List.getElem_mem hi,by rw [zcq hi]at h; simp [h]⟩
  ·refine .inr fun h3=> ?_
   have:=h3 (i - 1) (by omega)
   rw [show i - 1+1=i by omega]at this
   omega
 ·rintro (⟨x,hx,h⟩ | h)
  ·obtain ⟨i,hi,rfl⟩:=List.getElem_of_mem hx
   exact ⟨i,hi,.inl (by rw [zcq hi]; simpa using h)⟩
  ·refine Classical.byContradiction fun hc=>h fun i hi=> ?_
   refine Classical.byContradiction fun h4=>hc ⟨i+1,hi,.inr ⟨by omega,?_⟩⟩
   rw [Nat.add_sub_cancel]; omega
theorem yff (x a b:Int):ya x a b=(leb a x&&leb x b):=by
 unfold ya; cases leb a x<;>rfl
theorem ywn {x:Int} {n:Nat} (h:n≤1152921504606846976):ya x 0 (IntKind.i64.wrap ((n:Int) - 1))=inb x n:=by
 rw [wr (by omega) (by omega),Bool.eq_iff_iff,ysL,zjP]; omega
def yMP (n:Int) (c:List dW) (s:List Int):List Int:=c.foldl (fun s w=>bif w.1==n then w.2 else s) s
def yXt (m:dM) (n:Int):Bool:=yu m&&(!m.2.2.1&&(inb n m.1.length&& !(m.2.2.2.any (· ==n))))
def ynI (m:dM) (n:Int):List Int×Bool:=bif yXt m n then (yMP n m.2.1 (nth m.1 n []),true) else ([],false)
theorem yVj {P:List Int→Prop} {n:Int}: ∀ {c:List dW} {s:List Int},P s→(∀ w∈c,P w.2)→P (yMP n c s)
 | [],_,h,_=>h
 | w::c,s,h,hc=>yVj (c:=c) (zkM (hc w List.mem_cons_self) h) (fun x hx=>hc x (List.mem_cons_of_mem _ hx))
theorem yYJ {α:Type} {P:α→Prop} {l:List α} {i:Int} {d:α} (h:inb i l.length=true) (hl: ∀ x∈l,P x):P (nth l i d):=by
 obtain ⟨h1,h2⟩:=zjP.1 h
 unfold nth
 rw [zcq (show i.toNat < l.length by omega)]
 exact hl _ (List.getElem_mem _)
theorem yNr {α:Type} {p:α→Bool} {l:List α} (h:leb 0 (yB p l)=false):yB p l= -1:=by
 unfold yB at h ⊢
 cases ha:l.any p
 ·rfl
 ·rw [ha,cond_true,zk0 (show (0:Int)≤((l.takeWhile (fun x=> !p x)).length:Int) by omega)] at h; cases h
theorem yZX {α:Type} {p:α→Bool}: ∀ {l:List α},leb 0 (yB p l)=true→(l.take ((yB p l).toNat+1)).filter (fun x=> !p x)=l.take (yB p l).toNat
 | [],h=>by rw [yZW]at h; cases h
 | x::l,h=>by
  rw [ywl]at h ⊢
  cases hx:p x
  ·rw [hx]at h
   cases hl:leb 0 (yB p l)
   ·rw [hl]at h; cases h
   ·have h4:=zjQ.1 hl
    simp only [cond_false,cond_true]
    rw [show (yB p l+1).toNat=(yB p l).toNat+1 by omega,List.take_succ_cons,List.take_succ_cons,List.filter_cons,hx,yZX hl]; rfl
  ·simp only [cond_true]
   show List.filter (fun x=> !p x) [x]= []
   rw [List.filter_cons,hx]; rfl
theorem y4o {α:Type} {p:α→Bool} {l:List α} (h:leb 0 (yB p l)=false):l.filter (fun x=> !p x)=l:=by
 rw [List.filter_eq_self]
 intro x hx
 unfold yB at h
 cases ha:l.any p
 ·have:=List.any_eq_false.1 ha x hx
  simpa using this
 ·rw [ha,cond_true,zk0 (show (0:Int)≤((l.takeWhile (fun x=> !p x)).length:Int) by omega)] at h; cases h
def yap (a:dA):dA:=(a.1,a.2.1,a.2.2.1,a.2.2.2.1,a.2.2.2.2.1,IntKind.i64.wrap (a.2.2.2.2.2.1+1),a.2.2.2.2.2.2)
def ysI (s:Int):Int:=bif leb 0 s&&leb s 1099511627776 then s+6 else -1
def yf3 (a:dA) (m s:Int):Bool:=inb m a.2.2.1.length&&(!(nth a.2.2.1 m yh).2.2.1&&(m !=a.2.2.2.1||ltb s a.2.2.2.2.1))
def yrQ (a:dA) (m s:Int):List Int×Bool:=ynI (nth a.2.2.1 m yh) (ysI s)
def yF (a:dA) (m s:Int):Bool:=yf3 a m s&&((yrQ a m s).2&&((yrQ a m s).1.length:Int)==1)
def yNo (a:dA) (m s:Int):Int:=bif yF a m s then nth (yrQ a m s).1 0 0 else 0
def xw (a b:Int):Int:=IntKind.i64.wrap ((BitVec.ofInt IntKind.i64.bits a ^^^ BitVec.ofInt IntKind.i64.bits b).toNat:Int)
def yfm (l:List Int):Int:=l.foldl xw 0
def y4e (a:dA) (s:Int):Bool:=(List.range a.2.2.1.length).all (fun (i:Nat)=>yF a i s)
def y4F (a:dA) (s:Int):Int×Bool:=bif y4e a s then (yfm ((List.range a.2.2.1.length).map (fun (i:Nat)=>yNo a i s)),true) else (0,false)
def y52 (a:dA):Bool:=(List.range (min a.2.1.2.toNat 20)).all (fun (s:Nat)=> !((y4F a s).2&&(y4F a s).1 !=0))
def bv (x:Int):BitVec 64:=BitVec.ofInt 64 x
theorem yW2 (a b:Int):xw a b=(bv a ^^^ bv b).toInt:=by
 show IntKind.i64.wrap ((bv a ^^^ bv b).toNat:Int)=_
 rw [IntKind.wrap_i64,BitVec.toInt_eq_toNat_cond]
 have:=(bv a ^^^ bv b).isLt
 split<;>omega
theorem yDg (v:BitVec 64):bv v.toInt=v:=by unfold bv; simp
theorem y50 (a b:Int):bv (xw a b)=bv a ^^^ bv b:=by rw [yW2,yDg]
theorem y5Q {x:Int} (h: -9223372036854775808≤x) (h2:x≤9223372036854775807):(bv x).toInt=x:=by
 unfold bv
 rw [BitVec.toInt_ofInt,Int.bmod_def]
 simp only [Nat.reducePow]at *
 omega
def yZP (l:List Int):BitVec 64:=l.foldl (fun v x=>v ^^^ bv x) 0#64
theorem y28 (l:List Int):yfm l=(yZP l).toInt:=by
 have: ∀ (l:List Int) (v:BitVec 64),l.foldl xw v.toInt=(l.foldl (fun v x=>v ^^^ bv x) v).toInt:=by
  intro l
  induction l with
  | nil=>intro _; rfl
  | cons x l ih =>
   intro v
   rw [List.foldl_cons,List.foldl_cons,yW2,yDg,ih]
 have h:=this l 0#64
 rwa [show (0#64:BitVec 64).toInt=0 from by decide]at h
theorem y4c (l:List Int) (x:Int):yZP (l++ [x])=yZP l ^^^ bv x:=by unfold yZP; rw [List.foldl_append]; rfl
theorem y4C {i:Int} {n:Nat} (h: ¬ (0≤i∧i < (n:Int))):inb i n=false:=by
 cases e:inb i n
 ·rfl
 ·exact absurd (zjP.1 e) h
def yx8 (l:List Int) (k:Int):Int:=bif inb k l.length then xw (yfm l) (nth l k 0) else yfm l
theorem y4d (u v:BitVec 64):u ^^^ v ^^^ v=u:=by rw [BitVec.xor_assoc,BitVec.xor_self,BitVec.xor_zero]
theorem y32 (l:List Int) (k:Int):(List.range l.length).foldl (fun n (i:Nat)=>bif (i:Int) !=k then xw n (nth l i 0) else n) 0=yx8 l k:=by
 have: ∀ n,n≤l.length→(List.range n).foldl (fun n (i:Nat)=>bif (i:Int) !=k then xw n (nth l i 0) else n) 0=(bif inb k n then yZP (l.take n) ^^^ bv (nth l k 0) else yZP (l.take n)).toInt:=by
  intro n
  induction n with
  | zero =>
   intro _
   rw [y4C (show ¬ (0≤k∧k < ((0:Nat):Int)) by omega)]
   rfl
  | succ n ih =>
   intro hn
   rw [List.range_succ,List.foldl_append,List.foldl_cons,List.foldl_nil,ih (by omega),← y4a l 0 (show n < l.length by omega),y4c]
   by_cases hk:(n:Int)=k
   ·subst hk
    rw [show ((n:Int) !=n)=false by simp,cond_false,y4C (show ¬ (0≤(n:Int)∧(n:Int) < (n:Int)) by omega),show inb (n:Int) (n+1)=true from zkO (Nat.lt_succ_self n),cond_false,cond_true,y4d]
   ·rw [show ((n:Int) !=k)=true from bne_iff_ne.2 hk,cond_true,show inb k (n+1)=inb k n by rw [Bool.eq_iff_iff,zjP,zjP]; omega,yW2,yDg]
    cases inb k n
    ·rfl
    ·rw [cond_true,cond_true,BitVec.xor_assoc,BitVec.xor_comm (bv (nth l k 0)),← BitVec.xor_assoc]
 rw [this l.length (Nat.le_refl _),List.take_length]
 unfold yx8
 rw [yW2,y28,yDg]
 cases inb k l.length<;>rfl
theorem y31 {l:List Int} {k:Int} (h:inb k l.length=true) (h0:nth l k 0=0):yx8 l k=yfm l:=by
 unfold yx8
 rw [h,h0,cond_true,yW2,y28,yDg,show bv 0=0#64 by decide,BitVec.xor_zero]
abbrev ypa:dA:=(0,(0,0),[],0,0,0,0,0,[],0,false,false)
def y4x (k:Int) (i:Nat):Bool:=IntKind.i64.wrap ((BitVec.ofInt IntKind.i64.bits (k.fdiv (2 ^ (min (i:Int).toNat IntKind.i64.bits))) &&& BitVec.ofInt IntKind.i64.bits 1).toNat:Int)==1
def y3V (k:Int):Int:=bif leb 0 k&&leb k 1048575 then k else 0
def yf2 (b:Nat→Bool) (c:List dW) (l:List (List Int)) (i:Nat):List (List Int):=bif b i then l.set (nth c i (0,[])).1.toNat (nth c i (0,[])).2 else l
def yeh (b:Nat→Bool) (c:List dW) (l:List (List Int)):List (List Int):=(List.range c.length).foldl (yf2 b c) l
def yNq (m:dM) (k:Int):dM:=bif yu m then (yeh (fun i=>decide (i < 20)&&y4x (y3V k) i) m.2.1 m.1,[],m.2.2.1,m.2.2.2) else m
def y2J (ks:List Int) (i:Nat):Int:=bif decide (i < ks.length) then nth ks i 0 else 0
def y4O (l:List dM) (ks:List Int):List dM:=(List.range l.length).map (fun (i:Nat)=>yNq (nth l i yh) (y2J ks i))
theorem ygj {m:dM} (h:yu m=true):m.1.all ybA=true∧m.2.1.all (yyA m.1.length)=true∧yvZ m.1.length m.2.2.2=true∧1≤m.1.length∧m.1.length≤20∧m.2.1.length≤60:=by
 simp only [yu,Bool.and_eq_true,zjQ]at h
 exact ⟨h.1.1.1.1.1,h.1.1.1.1.2,h.1.1.1.2,by omega,by omega,by omega⟩
theorem y2M {m:dM} (h:yu m=true) {i:Nat} (hi:i < m.2.1.length):inb (nth m.2.1 i (0,[])).1 m.1.length=true∧ybA (nth m.2.1 i (0,[])).2=true:=by
 have h1:=List.all_eq_true.1 (ygj h).2.1 m.2.1[i] (List.getElem_mem hi)
 rw [zjW,zcq hi]
 exact Bool.and_eq_true_iff.1 h1
theorem yIQ {b:Nat→Bool} {c:List dW} {l:List (List Int)} {i:Nat}:(yf2 b c l i).length=l.length:=by
 unfold yf2; cases b i
 ·rfl
 ·exact List.length_set
theorem yUk {α β:Type} (P:β→Prop) (f:β→α→β) (h: ∀ s x,P s→P (f s x)): ∀ (l:List α) (s:β),P s→P (l.foldl f s)
 | [],_,hs=>hs
 | x::l,s,hs=>yUk P f h l (f s x) (h s x hs)
theorem ysM {b:Nat→Bool} {c:List dW} {l:List (List Int)}:(yeh b c l).length=l.length :=
 yUk (fun x=>x.length=l.length) _ (fun s x hs=>by rw [yIQ]; exact hs) _ l rfl
theorem y5i (b:Nat→Bool) (c:List dW) (l:List (List Int)):yeh (fun i=>decide (i < 20)&&b i) c l=(List.range (min c.length 20)).foldl (yf2 b c) l:=by
 have h1: ∀ n,n≤20→ ∀ l,(List.range n).foldl (yf2 (fun i=>decide (i < 20)&&b i) c) l=(List.range n).foldl (yf2 b c) l:=by
  intro n
  induction n with
  | zero=>intro _ _; rfl
  | succ n ih =>
   intro hn l
   rw [List.range_succ,List.foldl_append,List.foldl_append,ih (by omega)]
   simp only [List.foldl_cons,List.foldl_nil,yf2,show decide (n < 20)=true from decide_eq_true (by omega),Bool.true_and]
 have h2: ∀ n,20≤n→ ∀ l,(List.range n).foldl (yf2 (fun i=>decide (i < 20)&&b i) c) l=(List.range 20).foldl (yf2 b c) l:=by
  intro n
  induction n with
  | zero=>intro h; omega
  | succ n ih =>
   intro hn l
   by_cases h:20≤n
   ·rw [List.range_succ,List.foldl_append,ih h]
    simp only [List.foldl_cons,List.foldl_nil,yf2,show decide (n < 20)=false from decide_eq_false (by omega),Bool.false_and,cond_false]
   ·rw [h1 (n+1) (by omega),show n+1=20 by omega]
 unfold yeh
 by_cases h:c.length≤20
 ·rw [h1 _ h,Nat.min_eq_left h]
 ·rw [h2 _ (by omega),Nat.min_eq_right (by omega)]
theorem yWY {l:List (List Int)} {b:Nat} (h:l.length≤20) (hs: ∀ x∈l,x.length≤b):(l.map (fun x:List Int=>x.length)).sum≤20 * b:=by
 have:=zi5 (f:=fun x:List Int=>x.length) hs
 exact Nat.le_trans this (Nat.mul_le_mul_right _ h)
theorem yPO {P:List Int→Prop} {b:Nat→Bool} {c:List dW} {l:List (List Int)} (hl: ∀ x∈l,P x) (hc: ∀ w∈c,P w.2): ∀ x∈yeh b c l,P x:=by
 have: ∀ (n:Nat),n≤c.length→ ∀ x∈(List.range n).foldl (yf2 b c) l,P x:=by
  intro n
  induction n with
  | zero=>intro _; exact hl
  | succ n ih =>
   intro hn x hx
   rw [List.range_succ,List.foldl_append,List.foldl_cons,List.foldl_nil,yf2]at hx
   cases hb:b n
   ·rw [hb]at hx; exact ih (by omega) x hx
   ·rw [hb,cond_true]at hx
    rcases List.mem_or_eq_of_mem_set hx with h | h
    ·exact ih (by omega) x h
    ·rw [h,zjW,zcq (show n < c.length by omega)]
     exact hc _ (List.getElem_mem _)
 exact this _ (Nat.le_refl _)
theorem y3y (m:dM) (k:Int):yr9 (yNq m k)≤yr9 m+240:=by
 unfold yNq
 cases hm:yu m
 ·exact Nat.le_add_right _ _
 ·obtain ⟨h1,h2,_,_,h3,_⟩:=ygj hm
  have hs: ∀ x∈yeh (fun i=>decide (i < 20)&&y4x (y3V k) i) m.2.1 m.1,x.length≤12 :=
   yPO (P:=fun x=>x.length≤12) (fun x hx=>(yGN.1 (List.all_eq_true.1 h1 x hx)).1) (fun w hw=>(yGN.1 (Bool.and_eq_true_iff.1 (List.all_eq_true.1 h2 w hw)).2).1)
  have:=yWY (b:=12) (by rw [ysM]; exact h3) hs
  unfold yr9
  simp only [cond_true,List.map_nil,List.sum_nil]
  omega
theorem y4Y (l:List dM) (ks:List Int):yo7 (y4O l ks)≤yo7 l+240 * l.length:=by
 have: ∀ n,n≤l.length→(((List.range n).map (fun (i:Nat)=>yNq (nth l i yh) (y2J ks i))).map yr9).sum≤((l.take n).map yr9).sum+240 * n:=by
  intro n
  induction n with
  | zero=>intro _; simp
  | succ n ih =>
   intro hn
   rw [List.range_succ,List.map_append,List.map_append,List.sum_append,← List.take_append_getElem (show n < l.length by omega),List.map_append,List.sum_append]
   have:=ih (by omega)
   have h2:=y3y (nth l n yh) (y2J ks n)
   rw [zjW,zcq (show n < l.length by omega)] at h2
   simp only [List.map_cons,List.map_nil,List.sum_cons,List.sum_nil]
   rw [zjW l n,zcq (show n < l.length by omega)]
   omega
 have h:=this l.length (Nat.le_refl _)
 rw [List.take_length]at h
 exact h
def yxX (m:dM) (n:Int) (s:List Int):Bool:=yu m&&(!m.2.2.1&&(inb n m.1.length&&(ybA s&&ltb (m.2.1.length:Int) 60)))
def yZM (l:List Int) (n:Int):List Int:=l.filter (· !=n)
def yhd (m:dM) (n:Int) (s:List Int):dM×Bool:=bif yxX m n s then ((m.1,m.2.1++ [(n,s)],m.2.2.1,yZM m.2.2.2 n),true) else (m,false)
def yfr (m:dM):dM:=bif yu m&& !m.2.2.1 then (yeh (fun _=>true) m.2.1 m.1,[],m.2.2.1,m.2.2.2) else m
def y4N (m:dM):dM:=(m.1,[],true,m.2.2.2)
end
section
def yK2:Code:=(Tryz.f134.body).getD .skip
def yLr:Env:=zki TT [(135,yn)] []
theorem yUP:FrOk Tryz.prog ⟨yLr,11,fun _=>none⟩ yK2:=zkp yb yc ⟨yr,trivial⟩
def yXj:Nat→Option Seg:=fun _=>none
abbrev yqe:List Par:= [.rd tG]
abbrev yvR:List OT:= [⟨false,tB,.fz⟩]
def yyv (a0:dG):Option (ResD yvR×MutD yqe) :=
 let r1:=ya a0.1 3 5
 bif r1 then
 let r2:=ya a0.2 1 8
 some ((r2,()),())
 else
 some ((false,()),())
theorem y2s (x:InD yqe):zjH ⟨yLr,11,yXj⟩ Tryz.f134.results.toList yK2 yqe yvR x=yyv x.1:=by kernel_rfl
theorem yY6:ConOk Tryz.prog 134 ⟨yqe,yvR,fun x=>yyv x.1⟩:=zkh (yUP) Tryz.func134 (by kernel_rfl) (by kernel_rfl) Tryz.ntmps134.symm (by decide) (fun x r h=>(y2s x).trans h)
def yf (a0:dG):Bool :=
 let r1:=ya a0.1 3 5
 bif r1 then
 let r2:=ya a0.2 1 8
 r2
 else
 false
def ylh:Con:=⟨yqe,yvR,fun x=>(fun n=>some ((n,()),())) (yf x.1)⟩
theorem y1d (a0:dG):yyv a0=(fun n=>some ((n,()),())) (yf a0):=zkS (p:=fun (n:Bool)=>((n,()),())) (zkx (p:=fun (n:Bool)=>((n,()),())) rfl rfl)
theorem ytL:ConOk Tryz.prog 134 ylh:=(yY6).mono (fun x r _ h=>(y1d x.1).trans h)
theorem yo {a:Int×Int}:yf a=true↔(3≤a.1∧a.1≤5)∧1≤a.2∧a.2≤8:=by
 unfold yf
 cases h:ya a.1 3 5
 ·have: ¬ (3≤a.1∧a.1≤5):=fun e=>by rw [ysL.2 e]at h; simp at h
  simp [this]
 ·simp only [cond_true,ysL]
  exact ⟨fun e=>⟨ysL.1 h,e⟩,fun e=>e.2⟩
def yg2 (a:dA) (i:Nat):Bool:= !(yu (nth a.2.2.1 i yh))||((((nth a.2.2.1 i yh).1.length:Int) !=6+a.2.1.2)||((nth a.2.2.1 i yh).2.2.1&&(((i:Int) !=a.2.2.2.1)&& !a.2.2.2.2.2.2.2.2.2.2.2)))
def ynt (a:dA):Bool:= !((List.range a.2.2.1.length).any (yg2 a))&&(a.2.2.1.length:Int)==a.2.1.1
def yhS (g:dG) (l:List dW) (i:Nat):Bool:= !(leb 0 (nth l i (0,[])).1&&leb (nth l i (0,[])).1 (g.2 - 1))||(((nth l i (0,[])).2.length:Int) !=g.1 - 1||(!((nth l i (0,[])).2.all isW)||(decide (0 < i)&&leb (nth l i (0,[])).1 (nth l ((i - 1:Nat):Int) (0,[])).1)))
def yaK (g:dG) (l:List dW):Bool:= !((List.range l.length).any (yhS g l))
def yp (a:dA):Bool :=
 yf a.2.1&&((leb 1 a.1&&leb a.1 60000)&&(ynt a&&(yaK a.2.1 a.2.2.2.2.2.2.2.2.1&&((leb (-1) a.2.2.2.1&&leb a.2.2.2.1 (a.2.1.1 - 1))&&((leb 0 a.2.2.2.2.1&&leb a.2.2.2.2.1 a.2.1.2)&&(!(a.2.2.2.1== -1&&a.2.2.2.2.1 !=0) &&
 ((leb 0 a.2.2.2.2.2.2.1&&leb a.2.2.2.2.2.2.1 60000)&&((leb a.2.2.2.2.2.2.1 a.2.2.2.2.2.1&&leb a.2.2.2.2.2.1 60000)&&(leb a.2.2.2.2.2.1 (a.2.2.2.2.2.2.1+4)&&((leb 0 a.2.2.2.2.2.2.2.1&&leb a.2.2.2.2.2.2.2.1 60000)&&(leb (-1) a.2.2.2.2.2.2.2.2.2.1&&leb a.2.2.2.2.2.2.2.2.2.1 1000)))))))))))
theorem yaZ {a:dA} (h:yp a=true):yf a.2.1=true:=(Bool.and_eq_true_iff.1 h).1
theorem y53 {a:Int×Int} (h: ¬ yf a=true):yf a=false:=by cases e:yf a<;>simp_all
theorem yTR {a:dA} (h:yp a=true):ynt a=true:=by simp only [yp,Bool.and_eq_true]at h; exact h.2.2.1
theorem yLJ {a:dA} (h:yp a=true):(a.2.2.1.length:Int)=a.2.1.1:=by have:=yTR h; simp only [ynt,Bool.and_eq_true,beq_iff_eq]at this; exact this.2
theorem yZZ {a:dA} (h:ynt a=true) {i:Nat} (hi:i < a.2.2.1.length):yu (nth a.2.2.1 i yh)=true∧((nth a.2.2.1 i yh).1.length:Int)=6+a.2.1.2∧((nth a.2.2.1 i yh).2.2.1=true→(i:Int)=a.2.2.2.1∨a.2.2.2.2.2.2.2.2.2.2.2=true):=by
 simp only [ynt,Bool.and_eq_true,Bool.not_eq_true',List.any_eq_false,List.mem_range]at h
 have:=h.1 i hi
 simp only [yg2,Bool.not_eq_true,Bool.or_eq_false_iff,Bool.not_eq_false',bne_eq_false_iff_eq,Bool.and_eq_false_iff]at this
 refine ⟨this.1,this.2.1,fun hf=> ?_⟩
 rcases this.2.2 with h1 | h1 | h1
 ·rw [hf]at h1; cases h1
 ·exact .inl h1
 ·exact .inr h1
theorem yXs: ∀ {l:List Int} {lo n:Int},l.Pairwise (· < ·)→(∀ x∈l,lo≤x∧x < n)→lo≤n→(l.length:Int)≤n - lo
 | [],lo,n,_,_,h=>by simp; omega
 | x::l,lo,n,hp,hx,h=>by
  cases hp with
  | cons h1 h2 =>
   have h3:=hx x List.mem_cons_self
   have:=yXs (l:=l) (lo:=x+1) (n:=n) h2 (fun y hy=>⟨h1 y hy,(hx y (List.mem_cons_of_mem _ hy)).2⟩) (by omega)
   rw [List.length_cons]; omega
theorem yLK {n:Nat} {l:List Int}:yvZ n l=true↔(∀ x∈l,0≤x∧x < n)∧l.Pairwise (· < ·):=by
 simp only [yvZ,Bool.and_eq_true,List.all_eq_true,zjP,decide_eq_true_eq]
theorem yRm {m:dM} (h1:m.1.all ybA=true) (h2:m.2.1.all (yyA m.1.length)=true) (h3:yvZ m.1.length m.2.2.2=true) (h4:1≤m.1.length) (h5:m.1.length≤20) (h6:m.2.1.length≤60):yu m=true:=by
 simp only [yu,h1,h2,h3,Bool.true_and,Bool.and_eq_true,zjQ]
 omega
theorem y3h {m:dM} (h:yu m=true):yr9 m≤1041:=by
 obtain ⟨h1,h2,h3,h4,h5,h6⟩:=ygj h
 have a1:=yWY (b:=12) h5 (fun x hx=>(yGN.1 (List.all_eq_true.1 h1 x hx)).1)
 have a2:=zi5 (f:=fun x:dW=>1+x.2.length) (c:=13) (l:=m.2.1) (fun w hw=>by have:=(yGN.1 (Bool.and_eq_true_iff.1 (List.all_eq_true.1 h2 w hw)).2).1; omega)
 have a3:=Nat.mul_le_mul_right 13 h6
 obtain ⟨b1,b2⟩:=yLK.1 h3
 have a4:=yXs (lo:=0) (n:=m.1.length) b2 b1 (by omega)
 unfold yr9
 omega
theorem y3A {m:dM} (b:Nat→Bool) (h:yu m=true):(yeh b m.2.1 m.1).all ybA=true:=by
 obtain ⟨h1,h2,_⟩:=ygj h
 rw [List.all_eq_true]
 exact yPO (P:=fun x=>ybA x=true) (fun x hx=>List.all_eq_true.1 h1 x hx) (fun w hw=>(Bool.and_eq_true_iff.1 (List.all_eq_true.1 h2 w hw)).2)
theorem y27 {m:dM} (n:Int) (s:List Int) (h:yu m=true):yu (yhd m n s).1=true:=by
 unfold yhd
 cases hc:yxX m n s
 ·exact h
 ·simp only [yxX,Bool.and_eq_true,Bool.not_eq_true',zjT]at hc
  obtain ⟨h1,h2,h3,h4,h5,h6⟩:=ygj h
  refine yRm h1 ?_ ?_ h4 h5 (by show (m.2.1++ [(n,s)]).length≤60; rw [List.length_append]; simp only [List.length_cons,List.length_nil]; omega)
  ·show (m.2.1++ [(n,s)]).all (yyA m.1.length)=true
   rw [List.all_append,h2]
   simp [yyA,hc.2.2.1,hc.2.2.2.1]
  ·show yvZ m.1.length (yZM m.2.2.2 n)=true
   obtain ⟨b1,b2⟩:=yLK.1 h3
   exact yLK.2 ⟨fun x hx=>b1 x (List.mem_filter.1 hx).1,b2.filter _⟩
theorem yZ6 (m:dM) (n:Int) (s:List Int):(yhd m n s).1.1=m.1∧(yhd m n s).1.2.2.1=m.2.2.1:=by
 unfold yhd
 cases yxX m n s<;>exact ⟨rfl,rfl⟩
theorem y2F {m:dM} (h:yu m=true):yu (yfr m)=true:=by
 unfold yfr
 cases hc:(yu m&& !m.2.2.1)
 ·exact h
 ·obtain ⟨h1,h2,h3,h4,h5,h6⟩:=ygj h
  refine yRm (y3A _ h) rfl ?_ ?_ ?_ (Nat.zero_le _)
  ·show yvZ (yeh _ m.2.1 m.1).length m.2.2.2=true; rw [ysM]; exact h3
  ·show 1≤(yeh _ m.2.1 m.1).length; rw [ysM]; exact h4
  ·show (yeh _ m.2.1 m.1).length≤20; rw [ysM]; exact h5
theorem yZU (m:dM):(yfr m).1.length=m.1.length∧(yfr m).2.2.1=m.2.2.1:=by
 unfold yfr
 cases (yu m&& !m.2.2.1)
 ·exact ⟨rfl,rfl⟩
 ·exact ⟨ysM,rfl⟩
theorem y5V {m:dM} (h:yu m=true):yu (y4N m)=true:=by
 obtain ⟨h1,h2,h3,h4,h5,h6⟩:=ygj h
 exact yRm h1 rfl h3 h4 h5 (Nat.zero_le _)
def yae (l:List dM):Prop:= ∀ m∈l,yu m=true
theorem yWm {l:List dM} {i:Nat} {x:dM} (h:yae l) (hx:yu x=true):yae (l.set i x):=fun m hm=>by
 rcases List.mem_or_eq_of_mem_set hm with h1 | rfl
 ·exact h m h1
 ·exact hx
theorem yZ1 {l:List dM} {m:Int} (h:yae l) (hm:inb m l.length=true):yu (nth l m yh)=true:=yYJ (P:=fun x=>yu x=true) hm h
theorem yM2 {l:List dM} (h:yae l):yo7 l≤l.length * 1041:=zi5 (f:=yr9) (fun x hx=>y3h (h x hx))
theorem yIF {a:dA} (h:yp a=true):yae a.2.2.1:=fun m hm=>by
 obtain ⟨i,hi,rfl⟩:=List.getElem_of_mem hm
 have:=(yZZ (yTR h) hi).1
 rwa [zjW,zcq hi]at this
def yK (g:dG) (s:Int):Bool:=yf g&&(leb 0 s&&leb s (g.2 - 1))
def yg (g:dG) (s:Int):Int:=bif yK g s then g.1 - 1 - s.tmod g.1 else -1
def yeK (g:dG) (s i:Int):Int:=bif yK g s&&(leb 0 i&&leb i (g.1 - 2)) then (yg g s+1+i).tmod g.1 else -1
theorem ycv {g:dG} {s:Int}:yK g s=true↔yf g=true∧0≤s∧s≤g.2 - 1:=by simp [yK,zjQ]
theorem yqA {g:dG} {s:Int} (h:yK g s=true):0≤yg g s∧yg g s≤g.1 - 1:=by
 have h1:=ycv.1 h
 have h2:=yo.1 h1.1
 unfold yg
 rw [h,cond_true,Int.tmod_eq_emod_of_nonneg h1.2.1]
 have:=Int.emod_nonneg s (show g.1≠0 by omega)
 have:=Int.emod_lt_of_pos s (show 0 < g.1 by omega)
 omega
theorem y3s {g:dG} {s i:Int} (h:yK g s=true) (h1:0≤i) (h2:i≤g.1 - 2):0≤yeK g s i∧yeK g s i≤g.1 - 1:=by
 have h3:=yo.1 (ycv.1 h).1
 have h4:=yqA h
 unfold yeK
 rw [h,zk0 h1,zk0 h2,Bool.and_self,Bool.and_self,cond_true,Int.tmod_eq_emod_of_nonneg (by omega)]
 have:=Int.emod_nonneg (yg g s+1+i) (show g.1≠0 by omega)
 have:=Int.emod_lt_of_pos (yg g s+1+i) (show 0 < g.1 by omega)
 omega
def yV (p:Nat→Bool):Nat→Int
 | 0=> -1
 | n+1=>bif p n then yV p n else n
def y1X (p:Nat→Bool) (n:Nat):Bool:=(List.range n).any (fun i=> !p i&&leb 0 (yV p i))
theorem yZ0 (p:Nat→Bool): ∀ n,yV p n= -1∨(0≤yV p n∧yV p n < n∧p (yV p n).toNat=false)
 | 0=> .inl rfl
 | n+1=>by
  unfold yV
  cases h:p n
  ·exact .inr ⟨by show (0:Int)≤n; omega,by show (n:Int) < _; omega,h⟩
  ·rcases yZ0 p n with h1 | h1
   ·exact .inl h1
   ·exact .inr ⟨h1.1,by show yV p n < _; omega,h1.2.2⟩
def ya4 (a:dA) (s:Int) (n:Nat):List Int:=(List.range n).map (fun (i:Nat)=>yNo a i s)
theorem yw2 (a:dA) (s:Int) (n:Nat):(ya4 a s n).length=n:=by unfold ya4; rw [List.length_map,List.length_range]
theorem y1V (a:dA) (s:Int) (n:Nat):ya4 a s n++ [yNo a n s]=ya4 a s (n+1):=by unfold ya4; rw [List.range_succ,List.map_append]; rfl
theorem y3p (a:dA) (s:Int) {i n:Nat} (h:i < n):nth (ya4 a s n) i 0=yNo a i s:=by
 unfold ya4
 rw [zjW,zcq (by rw [List.length_map,List.length_range]; exact h)]; simp
def yhw (a:dA) (s:Int):List Int×Bool :=
 bif y1X (fun (i:Nat)=>yF a i s) a.2.1.1.toNat then ([],false)
 else bif leb 0 (yV (fun (i:Nat)=>yF a i s) a.2.1.1.toNat) then ((ya4 a s a.2.1.1.toNat).set (yV (fun (i:Nat)=>yF a i s) a.2.1.1.toNat).toNat (yfm (ya4 a s a.2.1.1.toNat)),true)
 else (ya4 a s a.2.1.1.toNat,true)
theorem y4b {a:dA} {s:Int} (h:(yhw a s).2=true):(yhw a s).1.length=a.2.1.1.toNat:=by
 unfold yhw at h ⊢
 cases h1:y1X (fun (i:Nat)=>yF a i s) a.2.1.1.toNat
 ·cases leb 0 (yV (fun (i:Nat)=>yF a i s) a.2.1.1.toNat)
  ·exact yw2 _ _ _
  ·simp only [cond_false,cond_true,List.length_set]; exact yw2 _ _ _
 ·rw [h1]at h; cases h
theorem y33 (a:dA) (s:Int) (n:Nat) (h:leb 0 (yV (fun (i:Nat)=>yF a i s) n)=true):inb (yV (fun (i:Nat)=>yF a i s) n) (ya4 a s n).length=true∧yx8 (ya4 a s n) (yV (fun (i:Nat)=>yF a i s) n)=yfm (ya4 a s n):=by
 rcases yZ0 (fun (i:Nat)=>yF a i s) n with h1 | h1
 ·rw [h1]at h; cases h
 ·have h2:inb (yV (fun (i:Nat)=>yF a i s) n) (ya4 a s n).length=true:=by rw [yw2,zjP]; exact ⟨h1.1,h1.2.1⟩
  refine ⟨h2,y31 h2 ?_⟩
  have h3:=y3p a s (show (yV (fun (i:Nat)=>yF a i s) n).toNat < n by omega)
  rw [show (((yV (fun (i:Nat)=>yF a i s) n).toNat:Nat):Int)=yV (fun (i:Nat)=>yF a i s) n by omega]at h3
  rw [h3]
  unfold yNo
  have h4:yF a (yV (fun (i:Nat)=>yF a i s) n) s=false:=by
   have:=h1.2.2
   have this:yF a ((yV (fun (i:Nat)=>yF a i s) n).toNat:Nat) s=false:=h1.2.2
   rwa [show (((yV (fun (i:Nat)=>yF a i s) n).toNat:Nat):Int)=yV (fun (i:Nat)=>yF a i s) n by omega]at this
  rw [h4]; rfl
def yIG (a:dA) (s:Int):List Int×Bool:=bif (yhw a s).2 then ((List.range (a.2.1.1 - 1).toNat).map (fun (i:Nat)=>nth (yhw a s).1 (yeK a.2.1 s i) 0),true) else ([],false)
def y3P (a:dA) (s:Int):List Int×Bool:=bif yp a&&(!a.2.2.2.2.2.2.2.2.2.2.2&&yK a.2.1 s) then yIG a s else ([],false)
theorem y5D (a:dA) (s:Int):(yIG a s).1.length≤(a.2.1.1 - 1).toNat:=by
 unfold yIG
 cases (yhw a s).2
 ·exact Nat.zero_le _
 ·simp
def y5U (a:dA):List Int:=bif yp a&&(List.range a.2.1.2.toNat).all (fun (s:Nat)=>(y3P a s).2) then (List.range a.2.1.2.toNat).flatMap (fun (s:Nat)=>(y3P a s).1) else []
end
section
def yJr:Code:=(Tryz.f139.body).getD .skip
def yJQ:Env:=zki TT [] []
theorem yRc:FrOk Tryz.prog ⟨yJQ,6,fun _=>none⟩ yJr:=zkp yb yc trivial
def yTx:Nat→Option Seg:=fun _=>none
abbrev ynj:List Par:= [.rd tG]
abbrev ytx:List OT:= [⟨false,tI,.fz⟩]
def ywU (a0:dG):Option (ResD ytx×MutD ynj) :=
 some (((IntKind.i64.wrap (6+a0.2)),()),())
theorem y0I (x:InD ynj):zjH ⟨yJQ,6,yTx⟩ Tryz.f139.results.toList yJr ynj ytx x=ywU x.1:=by kernel_rfl
theorem yWg:ConOk Tryz.prog 139 ⟨ynj,ytx,fun x=>ywU x.1⟩:=zkh (yRc) Tryz.func139 (by kernel_rfl) (by kernel_rfl) Tryz.ntmps139.symm (by decide) (fun x r h=>(y0I x).trans h)
def ytH (a0:dG):Int :=
 (IntKind.i64.wrap (6+a0.2))
def yGw:Con:=⟨ynj,ytx,fun x=>(fun n=>some ((n,()),())) (ytH x.1)⟩
theorem yYC (a0:dG):ywU a0=(fun n=>some ((n,()),())) (ytH a0):=zkS (p:=fun (n:Int)=>((n,()),())) rfl
theorem yZB:ConOk Tryz.prog 139 yGw:=(yWg).mono (fun x r _ h=>(yYC x.1).trans h)
end
section
def yJq:Code:=(Tryz.f181.body).getD .skip
def yJP:Env:=zki TT [(135,yn)] []
theorem yQ1:FrOk Tryz.prog ⟨yJP,5,fun _=>none⟩ yJq:=zkp yb yc ⟨yr,trivial⟩
def yTw:Nat→Option Seg:=fun _=>none
abbrev yni:List Par:= [.rd tI]
abbrev ytu:List OT:= [⟨false,tB,.fz⟩]
def ywT (a0:Int):Option (ResD ytu×MutD yni) :=
 let r1:=ya a0 0 65535
 some ((r1,()),())
theorem y0D (x:InD yni):zjH ⟨yJP,5,yTw⟩ Tryz.f181.results.toList yJq yni ytu x=ywT x.1:=by kernel_rfl
theorem yWb:ConOk Tryz.prog 181 ⟨yni,ytu,fun x=>ywT x.1⟩:=zkh (yQ1) Tryz.func181 (by kernel_rfl) (by kernel_rfl) Tryz.ntmps181.symm (by decide) (fun x r h=>(y0D x).trans h)
def yX (a0:Int):Bool :=
 let r1:=ya a0 0 65535
 r1
def yGt:Con:=⟨yni,ytu,fun x=>(fun n=>some ((n,()),())) (yX x.1)⟩
theorem yYx (a0:Int):ywT a0=(fun n=>some ((n,()),())) (yX a0):=zkS (p:=fun (n:Bool)=>((n,()),())) rfl
theorem yZy:ConOk Tryz.prog 181 yGt:=(yWb).mono (fun x r _ h=>(yYx x.1).trans h)
end
section
def ykH:Code:=(Tryz.f225.body).getD .skip
def yq0:Env:=zki TT [(181,yGt)] []
theorem yOs:FrOk Tryz.prog ⟨yq0,16,fun _=>none⟩ ykH:=zkp yb yc ⟨yZy,trivial⟩
def yC6:Nat→Option Seg:=fun _=>none
def ydn:Shape:=⟨[(0,false,[.br tI]),(3,false,[.int .i64])],[],[]⟩
def yjT:Shape:=⟨[(0,false,[.br tI]),(3,false,[.ci .i64 0])],[],[]⟩
def yjM:Shape:=⟨[],[],[]⟩
def yj7:Shape:=⟨[(2,false,[.bool])],[],[]⟩
def yqN (v0:List Int) (v1:Int):Option ((ydn).X ⊕ ((yjM).X ⊕ (yj7).X)) :=
 bif (ltb v1 (v0.length:Int)) then
 bif (inb v1 v0.length) then
 let r2:=yX (nth v0 v1 0)
 bif (!r2) then
 some (.inr (.inr (((false,()),()),(),())))
 else
 some (.inl (((v0,()),((IntKind.i64.wrap (v1+1)),()),()),(),()))
 else none
 else
 some (.inr (.inl ((),(),())))
def ybP (x:(ydn).X):=yqN x.1.1.1 x.1.2.1.1
def yzz (x:(yjT).X):(ydn).X:=(((x.1.1.1,()),(0,()),()),(),())
def yBl:Code:=(zdI ykH 64 52).getD .skip
theorem yNQ:zdI ykH 64 13=some (.block 0 (.loop yBl)):=by kernel_rfl
theorem yPy (x:(ydn).X):zg7 ⟨yq0,16,yC6⟩ 0 yBl 52 ydn yjM yj7 x=ybP x:=by kernel_rfl
def yzP (x:(yjT).X):Nat:=18446744073709551616
def yr2 (x:(yjT).X):Option ((yjM).X ⊕ (yj7).X):=zr ybP (yzP x) (yzz x)
def yAe:Seg:=⟨yjT,yjM,yj7,yr2⟩
def yC7:Nat→Option Seg:=fun q=>bif Nat.beq q 13 then some yAe else yC6 q
theorem yOt:FrOk Tryz.prog ⟨yq0,16,yC7⟩ ykH:=(yOs).loop (sg:=yAe) ydn yzz (by decide) yNQ ybP yzP (by decide) (fun _=>rfl) (fun x r _ h=>h) yPy
abbrev ygw:List Par:= [.rd tL]
abbrev yrk:List OT:= [⟨false,tB,.fz⟩]
def ymJ (a0:List Int):Option (ResD yrk×MutD ygw) :=
 zjw (yr2 (((a0,()),((),()),()),(),())) (fun y2 =>
 some ((true,()),())) (fun y2 =>
 some ((y2.1.1.1,()),()))
theorem yXO (x:InD ygw):zjH ⟨yq0,16,yC7⟩ Tryz.f225.results.toList ykH ygw yrk x=ymJ x.1:=by kernel_rfl
theorem ySu:ConOk Tryz.prog 225 ⟨ygw,yrk,fun x=>ymJ x.1⟩:=zkh (yOt) Tryz.func225 (by kernel_rfl) (by kernel_rfl) Tryz.ntmps225.symm (by decide) (fun x r h=>(yXO x).trans h)
def yH (a0:List Int):Bool:=a0.all yX
theorem yVE (a0:List Int) (hk:zi9 ygw (a0,())):ymJ a0=(fun n=>some ((n,()),())) (yH a0):=by
 have hb:a0.length * 8≤2 ^ 47:=hk.1.1
 have hl:yr2 (((a0,()),((),()),()),(),())=some (bif a0.all yX then .inl ((),(),()) else .inr (((false,()),()),(),())) :=
  zjS (step:=ybP) a0 0 (fun i=>(((a0,()),((i:Int),()),()),(),())) yX _ _ (fun i hi=>by
   simp only [ybP,yqN,zkO hi,zjW,zjI (show (i:Int) < a0.length by omega),cond_true,wr (show -9223372036854775808≤(i:Int)+1 by omega) (by omega),Int.natCast_add,Int.natCast_one]
   cases yX (a0.getD i 0)<;>rfl) (by simp only [ybP,yqN,zkm (Int.le_refl _),cond_false]) _ (by show _ < 18446744073709551616; omega)
 unfold ymJ yH
 rw [hl]
 cases a0.all yX<;>rfl
def yg1:Con:=⟨ygw,yrk,fun x=>(fun n=>some ((n,()),())) (yH x.1)⟩
theorem ypc:ConOk Tryz.prog 225 yg1:=(ySu).mono (fun x r hk h=>(yVE x.1 hk).trans h)
end
section
def yK4:Code:=(Tryz.f269.body).getD .skip
def yLt:Env:=zki TT [(225,yg1)] []
theorem yUV:FrOk Tryz.prog ⟨yLt,10,fun _=>none⟩ yK4:=zkp yb yc ⟨ypc,trivial⟩
def yXl:Nat→Option Seg:=fun _=>none
abbrev yqg:List Par:= [.rd tL]
abbrev yvU:List OT:= [⟨false,tB,.fz⟩]
def yyx (a0:List Int):Option (ResD yvU×MutD yqg) :=
 bif (leb (a0.length:Int) 12) then
 let r1:=yH a0
 some ((r1,()),())
 else
 some ((false,()),())
theorem y2v (x:InD yqg):zjH ⟨yLt,10,yXl⟩ Tryz.f269.results.toList yK4 yqg yvU x=yyx x.1:=by kernel_rfl
theorem yY9:ConOk Tryz.prog 269 ⟨yqg,yvU,fun x=>yyx x.1⟩:=zkh (yUV) Tryz.func269 (by kernel_rfl) (by kernel_rfl) Tryz.ntmps269.symm (by decide) (fun x r h=>(y2v x).trans h)
def yg7 (a0:List Int):Bool :=
 bif (leb (a0.length:Int) 12) then
 let r1:=yH a0
 r1
 else
 false
def yx3:Con:=⟨yqg,yvU,fun x=>(fun n=>some ((n,()),())) (yg7 x.1)⟩
theorem y1g (a0:List Int):yyx a0=(fun n=>some ((n,()),())) (yg7 a0):=zkS (p:=fun (n:Bool)=>((n,()),())) (zkx (p:=fun (n:Bool)=>((n,()),())) rfl rfl)
theorem yJ3:ConOk Tryz.prog 269 yx3:=(yY9).mono (fun x r _ h=>(y1g x.1).trans h)
theorem yG0:yg7=ybA:=funext fun s=>by
 unfold yg7 ybA yH
 rw [show yX=isW from funext fun x=>by unfold yX; rw [yff]; rfl]
 cases leb (s.length:Int) 12<;>rfl
end
end
end Go.Tf
