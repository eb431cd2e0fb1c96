/- Functions of the program, and what they come to. -/
import Derived.Test.YtgmadfpnljibhaaGreatExactFlushStripeTt
namespace Go.Tf
noncomputable section
open Go.Proofs
set_option synthInstance.maxHeartbeats 400000
set_option synthInstance.maxSize 10000
set_option linter.unusedVariables false
set_option linter.unusedSimpArgs false
set_option maxRecDepth 100000
section
def yOe:Code:=(Tryz.f135.body).getD .skip
def yOj:Env:=zki TT [] []
theorem yWk:FrOk Tryz.prog ⟨yOj,15,fun _=>none⟩ yOe:=zkp yb yc trivial
def yYv:Nat→Option Seg:=fun _=>none
abbrev yr4:List Par:= [.rd tI,.rd tI,.rd tI]
abbrev yxK:List OT:= [⟨false,tB,.fz⟩]
def yzG (a0 a1 a2:Int):Option (ResD yxK×MutD yr4) :=
 bif (leb a1 a0) then
 some (((leb a0 a2),()),())
 else
 some ((false,()),())
theorem y1r (x:InD yr4):zjH ⟨yOj,15,yYv⟩ Tryz.f135.results.toList yOe yr4 yxK x=yzG x.1 x.2.1 x.2.2.1:=by kernel_rfl
theorem yZN:ConOk Tryz.prog 135 ⟨yr4,yxK,fun x=>yzG x.1 x.2.1 x.2.2.1⟩:=zkh (yWk) Tryz.func135 (by kernel_rfl) (by kernel_rfl) Tryz.ntmps135.symm (by decide) (fun x r h=>(y1r x).trans h)
def ya (a0 a1 a2:Int):Bool :=
 bif (leb a1 a0) then
 (leb a0 a2)
 else
 false
def yl:Con:=⟨yr4,yxK,fun x=>(fun n=>some ((n,()),())) (ya x.1 x.2.1 x.2.2.1)⟩
theorem y09 (a0 a1 a2:Int):yzG a0 a1 a2=(fun n=>some ((n,()),())) (ya a0 a1 a2):=zkS (p:=fun (n:Bool)=>((n,()),())) (zkx (p:=fun (n:Bool)=>((n,()),())) rfl rfl)
theorem yp:ConOk Tryz.prog 135 yl:=(yZN).mono (fun x r _ h=>(y09 x.1 x.2.1 x.2.2.1).trans h)
theorem yr9 {a b c:Int}:ya a b c=true↔b≤a∧a≤c:=by
 unfold ya
 cases h:leb b a
 ·have:=mt zk0 (by rw [h]; simp: ¬ leb b a=true)
  simp [this]
 ·simp [zjQ,zjQ.1 h]
theorem y4v {a b c:Int} (h:b≤a) (h2:a≤c):ya a b c=true:=yr9.2 ⟨h,h2⟩
theorem y4u {a b c:Int} (h: ¬ (b≤a∧a≤c)):ya a b c=false:=by
 cases e:ya a b c
 ·rfl
 ·exact absurd (yr9.1 e) h
def yC {α:Type} (p:α→Bool) (l:List α):Int:=bif l.any p then ((l.takeWhile (fun x=> !p x)).length:Int) else -1
theorem yYh {α:Type} (p:α→Bool):yC p []= -1:=rfl
theorem yvD {α:Type} (p:α→Bool) (x:α) (l:List α):yC p (x::l)=bif p x then 0 else bif leb 0 (yC p l) then yC p l+1 else -1:=by
 unfold yC
 rw [List.any_cons,List.takeWhile_cons]
 cases p x
 ·cases l.any p
  ·rfl
  ·simp only [Bool.false_or,Bool.not_false,if_true,cond_true,cond_false,List.length_cons]
   rw [zk0 (show (0:Int)≤((l.takeWhile (fun x=> !p x)).length:Int) by omega),cond_true]; omega
 ·simp
theorem yxc {α:Type} {p:α→Bool} {d:α}: ∀ {l:List α},leb 0 (yC p l)=true→inb (yC p l) l.length=true∧p (nth l (yC p l) d)=true
 | [],h=>by rw [yYh]at h; cases h
 | x::l,h=>by
  rw [yvD]at h ⊢
  cases hx:p x
  ·rw [hx]at h
   cases hl:leb 0 (yC p l)
   ·rw [hl]at h; cases h
   ·obtain ⟨h1,h2⟩:=yxc (d:=d) hl
    have h3:=zjP.1 h1
    have h4:=zjQ.1 hl
    simp only [cond_false,cond_true,List.length_cons]
    refine ⟨zjP.2 (by omega),?_⟩
    unfold nth at h2 ⊢
    rw [show (yC p l+1).toNat=(yC p l).toNat+1 by omega,List.getD_cons_succ]
    exact h2
  ·simp only [cond_true,List.length_cons]
   refine ⟨zjP.2 (by omega),?_⟩
   exact hx
theorem yK9 {A B α:Type} {step:A→Option (A ⊕ B)} (l:List α) (d:α) (f:Nat→A) (p:α→Bool) (b:Int→B) (c:B)
  (h: ∀ i,i < l.length→step (f i)=some (bif p (l.getD i d) then .inr (b i) else .inl (f (i+1)))) (e:step (f l.length)=some (.inr c)) (fuel:Nat) (hf:l.length < fuel) :
  zr step fuel (f 0)=some (bif leb 0 (yC p l) then b (yC p l) else c):=by
 have: ∀ (t q:List α) (fuel:Nat),q++t=l→t.length < fuel→zr step fuel (f q.length)=some (bif leb 0 (yC p t) then b (q.length+yC p t) else c):=by
  intro t
  induction t with
  | nil =>
   intro q fuel hq hf
   obtain ⟨fuel,rfl⟩: ∃ m,fuel=m+1:=⟨fuel - 1,by omega⟩
   rw [List.append_nil]at hq
   subst hq
   simp only [zr,e]; rfl
  | cons x t ih =>
   intro q fuel hq hf
   obtain ⟨fuel,rfl⟩: ∃ m,fuel=m+1:=⟨fuel - 1,by omega⟩
   have hx:l.getD q.length d=x:=by
    subst hq
    rw [zcq (by simp)]; simp
   have hs:=h q.length (by rw [← hq]; simp)
   rw [hx]at hs
   rw [yvD]
   cases hp:p x
   ·rw [hp]at hs
    have:=ih (q++ [x]) fuel (by rw [← hq]; simp) (by simp at hf; omega)
    simp only [List.length_append,List.length_cons,List.length_nil]at this
    simp only [zr,hs,cond_false]
    rw [show q.length+1=q.length+(0+1) by omega,this]
    cases hl:leb 0 (yC p t)
    ·rfl
    ·have:=zjQ.1 hl
     rw [cond_true,cond_true,zk0 (show 0≤yC p t+1 by omega),cond_true]
     congr 2; omega
   ·rw [hp]at hs
    simp only [zr,hs,cond_true]
    rw [zk0 (Int.le_refl 0),cond_true,Int.add_zero]
 have:=this l [] fuel rfl hf
 simpa using this
theorem yHt {α β:Type} (f:α→β): ∀ (l:List α) (s:List β),l.foldl (fun s i=>s++ [f i]) s=s++l.map f
 | [],s=>by simp
 | x::l,s=>by rw [List.foldl_cons,yHt f l]; simp
theorem ytu {α:Type} (l:List α):l.foldl (fun s i=>s++ [i]) []=l:=by
 have:=yHt id l []
 simpa using this
theorem y2t {α:Type} (l:List α) (d:α) {i:Nat} (h:i < l.length):l.take i++ [nth l i d]=l.take (i+1):=by rw [zjW,zcq h,List.take_append_getElem h]
def ybN (e:dW) (s:Bool×List dW) (x:dW):Bool×List dW:=(s.1||leb e.1 x.1,(bif !s.1&&leb e.1 x.1 then s.2++ [e] else s.2)++(bif x.1 !=e.1 then [x] else []))
def yHj (l:List dW) (e:dW):List dW:=bif (l.foldl (ybN e) (false,[])).1 then (l.foldl (ybN e) (false,[])).2 else (l.foldl (ybN e) (false,[])).2++ [e]
def yHQ (a:dA) (l:List dW):dA:=(a.1,a.2.1,a.2.2.1,a.2.2.2.1,a.2.2.2.2.1,a.2.2.2.2.2.1,a.2.2.2.2.2.2.1,a.2.2.2.2.2.2.2.1,l,a.2.2.2.2.2.2.2.2.2)
theorem yRE {α:Type} (f:α→Nat) (c:Nat): ∀ l:List α,(l.map (fun x=>c+f x)).sum=c * l.length+(l.map f).sum
 | []=>by simp
 | x::l=>by rw [List.map_cons,List.sum_cons,yRE f c l,List.map_cons,List.sum_cons,List.length_cons,Nat.mul_add]; omega
theorem yVo {α:Type} {u:α→Int→Int} {m:α→Nat} {l:List α} {k:Int} (hu: ∀ x∈l,∀ k,0≤k→k≤1048576→0≤u x k→(m x:Int)≤k∧u x k≤k - m x) (h0:0≤k) (h1:k≤1048576) (hl:l.length≤17592186044416)
  (h:0≤(bif ltb (IntKind.i64.wrap (k - (l.length:Int))) 0 then (-1) else (szG u l (IntKind.i64.wrap (k - (l.length:Int)))).getD (-1))) :
  ((l.length+(l.map m).sum:Nat):Int)≤k - (bif ltb (IntKind.i64.wrap (k - (l.length:Int))) 0 then (-1) else (szG u l (IntKind.i64.wrap (k - (l.length:Int)))).getD (-1))∧(bif ltb (IntKind.i64.wrap (k - (l.length:Int))) 0 then (-1) else (szG u l (IntKind.i64.wrap (k - (l.length:Int)))).getD (-1))≤k:=by
 rw [wr (show -9223372036854775808≤k - (l.length:Int) by omega) (by omega)] at h ⊢
 by_cases h2:k - (l.length:Int) < 0
 ·rw [zjI h2]at h; exact absurd (show (0:Int)≤ -1 from h) (by omega)
 ·rw [zkm (Int.not_lt.1 h2),cond_false]at h ⊢
  cases hg:szG u l (k - (l.length:Int)) with
  | none=>rw [hg]at h; exact absurd (show (0:Int)≤ -1 from h) (by omega)
  | some r =>
   have:=zke hu (by omega) (by omega) hg
   rw [Option.getD_some]
   omega
def yrz (m:dM):Nat:=(m.1.map (fun x:List Int=>x.length)).sum+(m.2.1.map (fun x:dW=>1+x.2.length)).sum+1+m.2.2.2.length
def yoB (l:List dM):Nat:=(l.map yrz).sum
def ybP (l:List dW):Nat:=(l.map (fun x:dW=>1+x.2.length)).sum
def ydG (a:dA):Nat:=yoB a.2.2.1+ybP a.2.2.2.2.2.2.2.2.1
abbrev yh:dM:=([],[],false,[])
def isW (x:Int):Bool:=leb 0 x&&leb x 65535
def ybp (s:List Int):Bool:=leb (s.length:Int) 12&&s.all isW
theorem y3e {x:Int}:isW x=true↔0≤x∧x≤65535:=by simp [isW,zjQ]
theorem yFE {s:List Int}:ybp s=true↔s.length≤12∧ ∀ x∈s,0≤x∧x≤65535:=by
 simp only [ybp,Bool.and_eq_true,zjQ,List.all_eq_true,y3e]
 constructor
 ·rintro ⟨h1,h2⟩; exact ⟨by omega,h2⟩
 ·rintro ⟨h1,h2⟩; exact ⟨by omega,h2⟩
theorem y1F: ∀ {l:List Int},l.Pairwise (· < ·)↔ ∀ i,i+1 < l.length→l.getD i 0 < l.getD (i+1) 0
 | []=>by simp
 | [x]=>by simp
 | x::y::l=>by
  have ih:=y1F (l:=y::l)
  constructor
  ·intro h i hi
   cases h with
   | cons h1 h2 =>
    cases i with
    | zero=>exact h1 y List.mem_cons_self
    | succ i=>exact ih.1 h2 i (by simpa using hi)
  ·intro h
   have h2:(y::l).Pairwise (· < ·):=ih.2 fun i hi=>h (i+1) (by simpa using hi)
   refine .cons (fun z hz=> ?_) h2
   have h3:x < y:=h 0 (by simp)
   rcases List.mem_cons.1 hz with rfl | hz
   ·exact h3
   ·cases h2 with
    | cons h4 _=>exact Int.lt_trans h3 (h4 z hz)
def yvh (n:Nat) (l:List Int):Bool:=l.all (fun x=>inb x n)&&decide (l.Pairwise (· < ·))
def yxF (n:Nat) (w:dW):Bool:=inb w.1 n&&ybp w.2
def yr (m:dM):Bool:=m.1.all ybp&&m.2.1.all (yxF m.1.length)&&yvh m.1.length m.2.2.2&&leb 1 (m.1.length:Int)&&leb (m.1.length:Int) 20&&leb (m.2.1.length:Int) 60
def yEQ (n:Nat) (l:List Int) (i:Nat):Bool:= !(inb (l.getD i 0) n)||(decide (0 < i)&&leb (l.getD i 0) (l.getD (i - 1) 0))
theorem yYb (n:Nat) (l:List Int):(List.range l.length).any (yEQ n l)= !(yvh n l):=by
 rw [Bool.eq_iff_iff,List.any_eq_true,Bool.not_eq_true',yvh,Bool.and_eq_false_iff,decide_eq_false_iff_not,y1F,List.all_eq_false]
 simp only [List.mem_range,yEQ,Bool.or_eq_true,Bool.not_eq_true',Bool.and_eq_true,decide_eq_true_eq,zjQ]
 constructor
 ·rintro ⟨i,hi,h | ⟨h1,h2⟩⟩
  ·exact .inl ⟨l[i],List.getElem_mem hi,by rw [zcq hi]at h; simp [h]⟩
  ·refine .inr fun h3=> ?_
   have:=h3 (i - 1) (by omega)
   rw [show i - 1+1=i by omega]at this
   omega
 ·rintro (⟨x,hx,h⟩ | h)
  ·obtain ⟨i,hi,rfl⟩:=List.getElem_of_mem hx
   exact ⟨i,hi,.inl (by rw [zcq hi]; simpa using h)⟩
  ·refine Classical.byContradiction fun hc=>h fun i hi=> ?_
   refine Classical.byContradiction fun h4=>hc ⟨i+1,hi,.inr ⟨by omega,?_⟩⟩
   rw [Nat.add_sub_cancel]; omega
theorem ye1 (x a b:Int):ya x a b=(leb a x&&leb x b):=by
 unfold ya; cases leb a x<;>rfl
theorem yvF {x:Int} {n:Nat} (h:n≤1152921504606846976):ya x 0 (IntKind.i64.wrap ((n:Int) - 1))=inb x n:=by
 rw [wr (by omega) (by omega),Bool.eq_iff_iff,yr9,zjP]; omega
def yLt (n:Int) (c:List dW) (s:List Int):List Int:=c.foldl (fun s w=>bif w.1==n then w.2 else s) s
def yVO (m:dM) (n:Int):Bool:=yr m&&(!m.2.2.1&&(inb n m.1.length&& !(m.2.2.2.any (· ==n))))
def ynh (m:dM) (n:Int):List Int×Bool:=bif yVO m n then (yLt n m.2.1 (nth m.1 n []),true) else ([],false)
theorem yTE {P:List Int→Prop} {n:Int}: ∀ {c:List dW} {s:List Int},P s→(∀ w∈c,P w.2)→P (yLt n c s)
 | [],_,h,_=>h
 | w::c,s,h,hc=>yTE (c:=c) (zkM (hc w List.mem_cons_self) h) (fun x hx=>hc x (List.mem_cons_of_mem _ hx))
theorem yW4 {α:Type} {P:α→Prop} {l:List α} {i:Int} {d:α} (h:inb i l.length=true) (hl: ∀ x∈l,P x):P (nth l i d):=by
 obtain ⟨h1,h2⟩:=zjP.1 h
 unfold nth
 rw [zcq (show i.toNat < l.length by omega)]
 exact hl _ (List.getElem_mem _)
theorem yL4 {α:Type} {p:α→Bool} {l:List α} (h:leb 0 (yC p l)=false):yC p l= -1:=by
 unfold yC at h ⊢
 cases ha:l.any p
 ·rfl
 ·rw [ha,cond_true,zk0 (show (0:Int)≤((l.takeWhile (fun x=> !p x)).length:Int) by omega)] at h; cases h
theorem yYi {α:Type} {p:α→Bool}: ∀ {l:List α},leb 0 (yC p l)=true→(l.take ((yC p l).toNat+1)).filter (fun x=> !p x)=l.take (yC p l).toNat
 | [],h=>by rw [yYh]at h; cases h
 | x::l,h=>by
  rw [yvD]at h ⊢
  cases hx:p x
  ·rw [hx]at h
   cases hl:leb 0 (yC p l)
   ·rw [hl]at h; cases h
   ·have h4:=zjQ.1 hl
    simp only [cond_false,cond_true]
    rw [show (yC p l+1).toNat=(yC p l).toNat+1 by omega,List.take_succ_cons,List.take_succ_cons,List.filter_cons,hx,yYi hl]; rfl
  ·simp only [cond_true]
   show List.filter (fun x=> !p x) [x]= []
   rw [List.filter_cons,hx]; rfl
theorem y2H {α:Type} {p:α→Bool} {l:List α} (h:leb 0 (yC p l)=false):l.filter (fun x=> !p x)=l:=by
 rw [List.filter_eq_self]
 intro x hx
 unfold yC at h
 cases ha:l.any p
 ·have:=List.any_eq_false.1 ha x hx
  simpa using this
 ·rw [ha,cond_true,zk0 (show (0:Int)≤((l.takeWhile (fun x=> !p x)).length:Int) by omega)] at h; cases h
def yak (a:dA):dA:=(a.1,a.2.1,a.2.2.1,a.2.2.2.1,a.2.2.2.2.1,IntKind.i64.wrap (a.2.2.2.2.2.1+1),a.2.2.2.2.2.2)
def yr6 (s:Int):Int:=bif leb 0 s&&leb s 1099511627776 then s+6 else -1
def yfN (a:dA) (m s:Int):Bool:=inb m a.2.2.1.length&&(!(nth a.2.2.1 m yh).2.2.1&&(m !=a.2.2.2.1||ltb s a.2.2.2.2.1))
def yrg (a:dA) (m s:Int):List Int×Bool:=ynh (nth a.2.2.1 m yh) (yr6 s)
def yD (a:dA) (m s:Int):Bool:=yfN a m s&&((yrg a m s).2&&((yrg a m s).1.length:Int)==1)
def yL1 (a:dA) (m s:Int):Int:=bif yD a m s then nth (yrg a m s).1 0 0 else 0
def xw (a b:Int):Int:=IntKind.i64.wrap ((BitVec.ofInt IntKind.i64.bits a ^^^ BitVec.ofInt IntKind.i64.bits b).toNat:Int)
def ye7 (l:List Int):Int:=l.foldl xw 0
def y2x (a:dA) (s:Int):Bool:=(List.range a.2.2.1.length).all (fun (i:Nat)=>yD a i s)
def y20 (a:dA) (s:Int):Int×Bool:=bif y2x a s then (ye7 ((List.range a.2.2.1.length).map (fun (i:Nat)=>yL1 a i s)),true) else (0,false)
def y4s (a:dA):Bool:=(List.range (min a.2.1.2.toNat 20)).all (fun (s:Nat)=> !((y20 a s).2&&(y20 a s).1 !=0))
def bv (x:Int):BitVec 64:=BitVec.ofInt 64 x
theorem yVp (a b:Int):xw a b=(bv a ^^^ bv b).toInt:=by
 show IntKind.i64.wrap ((bv a ^^^ bv b).toNat:Int)=_
 rw [IntKind.wrap_i64,BitVec.toInt_eq_toNat_cond]
 have:=(bv a ^^^ bv b).isLt
 split<;>omega
theorem yCe (v:BitVec 64):bv v.toInt=v:=by unfold bv; simp
theorem y4q (a b:Int):bv (xw a b)=bv a ^^^ bv b:=by rw [yVp,yCe]
theorem y4g {x:Int} (h: -9223372036854775808≤x) (h2:x≤9223372036854775807):(bv x).toInt=x:=by
 unfold bv
 rw [BitVec.toInt_ofInt,Int.bmod_def]
 simp only [Nat.reducePow]at *
 omega
def yX9 (l:List Int):BitVec 64:=l.foldl (fun v x=>v ^^^ bv x) 0#64
theorem y1n (l:List Int):ye7 l=(yX9 l).toInt:=by
 have: ∀ (l:List Int) (v:BitVec 64),l.foldl xw v.toInt=(l.foldl (fun v x=>v ^^^ bv x) v).toInt:=by
  intro l
  induction l with
  | nil=>intro _; rfl
  | cons x l ih =>
   intro v
   rw [List.foldl_cons,List.foldl_cons,yVp,yCe,ih]
 have h:=this l 0#64
 rwa [show (0#64:BitVec 64).toInt=0 from by decide]at h
theorem y2v (l:List Int) (x:Int):yX9 (l++ [x])=yX9 l ^^^ bv x:=by unfold yX9; rw [List.foldl_append]; rfl
theorem y2X {i:Int} {n:Nat} (h: ¬ (0≤i∧i < (n:Int))):inb i n=false:=by
 cases e:inb i n
 ·rfl
 ·exact absurd (zjP.1 e) h
def yxd (l:List Int) (k:Int):Int:=bif inb k l.length then xw (ye7 l) (nth l k 0) else ye7 l
theorem y2w (u v:BitVec 64):u ^^^ v ^^^ v=u:=by rw [BitVec.xor_assoc,BitVec.xor_self,BitVec.xor_zero]
theorem y2l (l:List Int) (k:Int):(List.range l.length).foldl (fun n (i:Nat)=>bif (i:Int) !=k then xw n (nth l i 0) else n) 0=yxd l k:=by
 have: ∀ n,n≤l.length→(List.range n).foldl (fun n (i:Nat)=>bif (i:Int) !=k then xw n (nth l i 0) else n) 0=(bif inb k n then yX9 (l.take n) ^^^ bv (nth l k 0) else yX9 (l.take n)).toInt:=by
  intro n
  induction n with
  | zero =>
   intro _
   rw [y2X (show ¬ (0≤k∧k < ((0:Nat):Int)) by omega)]
   rfl
  | succ n ih =>
   intro hn
   rw [List.range_succ,List.foldl_append,List.foldl_cons,List.foldl_nil,ih (by omega),← y2t l 0 (show n < l.length by omega),y2v]
   by_cases hk:(n:Int)=k
   ·subst hk
    rw [show ((n:Int) !=n)=false by simp,cond_false,y2X (show ¬ (0≤(n:Int)∧(n:Int) < (n:Int)) by omega),show inb (n:Int) (n+1)=true from zkO (Nat.lt_succ_self n),cond_false,cond_true,y2w]
   ·rw [show ((n:Int) !=k)=true from bne_iff_ne.2 hk,cond_true,show inb k (n+1)=inb k n by rw [Bool.eq_iff_iff,zjP,zjP]; omega,yVp,yCe]
    cases inb k n
    ·rfl
    ·rw [cond_true,cond_true,BitVec.xor_assoc,BitVec.xor_comm (bv (nth l k 0)),← BitVec.xor_assoc]
 rw [this l.length (Nat.le_refl _),List.take_length]
 unfold yxd
 rw [yVp,y1n,yCe]
 cases inb k l.length<;>rfl
theorem y2k {l:List Int} {k:Int} (h:inb k l.length=true) (h0:nth l k 0=0):yxd l k=ye7 l:=by
 unfold yxd
 rw [h,h0,cond_true,yVp,y1n,yCe,show bv 0=0#64 by decide,BitVec.xor_zero]
abbrev yxT:dA:=(0,(0,0),[],0,0,0,0,0,[],0,false,false)
def y2S (k:Int) (i:Nat):Bool:=IntKind.i64.wrap ((BitVec.ofInt IntKind.i64.bits (k.fdiv (2 ^ (min (i:Int).toNat IntKind.i64.bits))) &&& BitVec.ofInt IntKind.i64.bits 1).toNat:Int)==1
def y2f (k:Int):Int:=bif leb 0 k&&leb k 1048575 then k else 0
def yfM (b:Nat→Bool) (c:List dW) (l:List (List Int)) (i:Nat):List (List Int):=bif b i then l.set (nth c i (0,[])).1.toNat (nth c i (0,[])).2 else l
def yd7 (b:Nat→Bool) (c:List dW) (l:List (List Int)):List (List Int):=(List.range c.length).foldl (yfM b c) l
def yL3 (m:dM) (k:Int):dM:=bif yr m then (yd7 (fun i=>decide (i < 20)&&y2S (y2f k) i) m.2.1 m.1,[],m.2.2.1,m.2.2.2) else m
def y01 (ks:List Int) (i:Nat):Int:=bif decide (i < ks.length) then nth ks i 0 else 0
def y29 (l:List dM) (ks:List Int):List dM:=(List.range l.length).map (fun (i:Nat)=>yL3 (nth l i yh) (y01 ks i))
theorem yf3 {m:dM} (h:yr m=true):m.1.all ybp=true∧m.2.1.all (yxF m.1.length)=true∧yvh m.1.length m.2.2.2=true∧1≤m.1.length∧m.1.length≤20∧m.2.1.length≤60:=by
 simp only [yr,Bool.and_eq_true,zjQ]at h
 exact ⟨h.1.1.1.1.1,h.1.1.1.1.2,h.1.1.1.2,by omega,by omega,by omega⟩
theorem y04 {m:dM} (h:yr m=true) {i:Nat} (hi:i < m.2.1.length):inb (nth m.2.1 i (0,[])).1 m.1.length=true∧ybp (nth m.2.1 i (0,[])).2=true:=by
 have h1:=List.all_eq_true.1 (yf3 h).2.1 m.2.1[i] (List.getElem_mem hi)
 rw [zjW,zcq hi]
 exact Bool.and_eq_true_iff.1 h1
theorem yHB {b:Nat→Bool} {c:List dW} {l:List (List Int)} {i:Nat}:(yfM b c l i).length=l.length:=by
 unfold yfM; cases b i
 ·rfl
 ·exact List.length_set
theorem ySK {α β:Type} (P:β→Prop) (f:β→α→β) (h: ∀ s x,P s→P (f s x)): ∀ (l:List α) (s:β),P s→P (l.foldl f s)
 | [],_,hs=>hs
 | x::l,s,hs=>ySK P f h l (f s x) (h s x hs)
theorem ysa {b:Nat→Bool} {c:List dW} {l:List (List Int)}:(yd7 b c l).length=l.length :=
 ySK (fun x=>x.length=l.length) _ (fun s x hs=>by rw [yHB]; exact hs) _ l rfl
theorem y3F (b:Nat→Bool) (c:List dW) (l:List (List Int)):yd7 (fun i=>decide (i < 20)&&b i) c l=(List.range (min c.length 20)).foldl (yfM b c) l:=by
 have h1: ∀ n,n≤20→ ∀ l,(List.range n).foldl (yfM (fun i=>decide (i < 20)&&b i) c) l=(List.range n).foldl (yfM b c) l:=by
  intro n
  induction n with
  | zero=>intro _ _; rfl
  | succ n ih =>
   intro hn l
   rw [List.range_succ,List.foldl_append,List.foldl_append,ih (by omega)]
   simp only [List.foldl_cons,List.foldl_nil,yfM,show decide (n < 20)=true from decide_eq_true (by omega),Bool.true_and]
 have h2: ∀ n,20≤n→ ∀ l,(List.range n).foldl (yfM (fun i=>decide (i < 20)&&b i) c) l=(List.range 20).foldl (yfM b c) l:=by
  intro n
  induction n with
  | zero=>intro h; omega
  | succ n ih =>
   intro hn l
   by_cases h:20≤n
   ·rw [List.range_succ,List.foldl_append,ih h]
    simp only [List.foldl_cons,List.foldl_nil,yfM,show decide (n < 20)=false from decide_eq_false (by omega),Bool.false_and,cond_false]
   ·rw [h1 (n+1) (by omega),show n+1=20 by omega]
 unfold yd7
 by_cases h:c.length≤20
 ·rw [h1 _ h,Nat.min_eq_left h]
 ·rw [h2 _ (by omega),Nat.min_eq_right (by omega)]
theorem yVl {l:List (List Int)} {b:Nat} (h:l.length≤20) (hs: ∀ x∈l,x.length≤b):(l.map (fun x:List Int=>x.length)).sum≤20 * b:=by
 have:=zi5 (f:=fun x:List Int=>x.length) hs
 exact Nat.le_trans this (Nat.mul_le_mul_right _ h)
theorem yOn {P:List Int→Prop} {b:Nat→Bool} {c:List dW} {l:List (List Int)} (hl: ∀ x∈l,P x) (hc: ∀ w∈c,P w.2): ∀ x∈yd7 b c l,P x:=by
 have: ∀ (n:Nat),n≤c.length→ ∀ x∈(List.range n).foldl (yfM b c) l,P x:=by
  intro n
  induction n with
  | zero=>intro _; exact hl
  | succ n ih =>
   intro hn x hx
   rw [List.range_succ,List.foldl_append,List.foldl_cons,List.foldl_nil,yfM]at hx
   cases hb:b n
   ·rw [hb]at hx; exact ih (by omega) x hx
   ·rw [hb,cond_true]at hx
    rcases List.mem_or_eq_of_mem_set hx with h | h
    ·exact ih (by omega) x h
    ·rw [h,zjW,zcq (show n < c.length by omega)]
     exact hc _ (List.getElem_mem _)
 exact this _ (Nat.le_refl _)
theorem y1P (m:dM) (k:Int):yrz (yL3 m k)≤yrz m+240:=by
 unfold yL3
 cases hm:yr m
 ·exact Nat.le_add_right _ _
 ·obtain ⟨h1,h2,_,_,h3,_⟩:=yf3 hm
  have hs: ∀ x∈yd7 (fun i=>decide (i < 20)&&y2S (y2f k) i) m.2.1 m.1,x.length≤12 :=
   yOn (P:=fun x=>x.length≤12) (fun x hx=>(yFE.1 (List.all_eq_true.1 h1 x hx)).1) (fun w hw=>(yFE.1 (Bool.and_eq_true_iff.1 (List.all_eq_true.1 h2 w hw)).2).1)
  have:=yVl (b:=12) (by rw [ysa]; exact h3) hs
  unfold yrz
  simp only [cond_true,List.map_nil,List.sum_nil]
  omega
theorem y3j (l:List dM) (ks:List Int):yoB (y29 l ks)≤yoB l+240 * l.length:=by
 have: ∀ n,n≤l.length→(((List.range n).map (fun (i:Nat)=>yL3 (nth l i yh) (y01 ks i))).map yrz).sum≤((l.take n).map yrz).sum+240 * n:=by
  intro n
  induction n with
  | zero=>intro _; simp
  | succ n ih =>
   intro hn
   rw [List.range_succ,List.map_append,List.map_append,List.sum_append,← List.take_append_getElem (show n < l.length by omega),List.map_append,List.sum_append]
   have:=ih (by omega)
   have h2:=y1P (nth l n yh) (y01 ks n)
   rw [zjW,zcq (show n < l.length by omega)] at h2
   simp only [List.map_cons,List.map_nil,List.sum_cons,List.sum_nil]
   rw [zjW l n,zcq (show n < l.length by omega)]
   omega
 have h:=this l.length (Nat.le_refl _)
 rw [List.take_length]at h
 exact h
def yw4 (m:dM) (n:Int) (s:List Int):Bool:=yr m&&(!m.2.2.1&&(inb n m.1.length&&(ybp s&&ltb (m.2.1.length:Int) 60)))
def yX6 (l:List Int) (n:Int):List Int:=l.filter (· !=n)
def ygX (m:dM) (n:Int) (s:List Int):dM×Bool:=bif yw4 m n s then ((m.1,m.2.1++ [(n,s)],m.2.2.1,yX6 m.2.2.2 n),true) else (m,false)
def yfc (m:dM):dM:=bif yr m&& !m.2.2.1 then (yd7 (fun _=>true) m.2.1 m.1,[],m.2.2.1,m.2.2.2) else m
def y28 (m:dM):dM:=(m.1,[],true,m.2.2.2)
end
section
def yJJ:Code:=(Tryz.f134.body).getD .skip
def yJ8:Env:=zki TT [(135,yl)] []
theorem yTf:FrOk Tryz.prog ⟨yJ8,11,fun _=>none⟩ yJJ:=zkp yb yc ⟨yp,trivial⟩
def yVG:Nat→Option Seg:=fun _=>none
abbrev ypF:List Par:= [.rd tG]
abbrev yu9:List OT:= [⟨false,tB,.fz⟩]
def yxA (a0:dG):Option (ResD yu9×MutD ypF) :=
 let r1:=ya a0.1 3 5
 bif r1 then
 let r2:=ya a0.2 1 8
 some ((r2,()),())
 else
 some ((false,()),())
theorem y0L (x:InD ypF):zjH ⟨yJ8,11,yVG⟩ Tryz.f134.results.toList yJJ ypF yu9 x=yxA x.1:=by kernel_rfl
theorem yXr:ConOk Tryz.prog 134 ⟨ypF,yu9,fun x=>yxA x.1⟩:=zkh (yTf) Tryz.func134 (by kernel_rfl) (by kernel_rfl) Tryz.ntmps134.symm (by decide) (fun x r h=>(y0L x).trans h)
def yf (a0:dG):Bool :=
 let r1:=ya a0.1 3 5
 bif r1 then
 let r2:=ya a0.2 1 8
 r2
 else
 false
def ykS:Con:=⟨ypF,yu9,fun x=>(fun n=>some ((n,()),())) (yf x.1)⟩
theorem yZz (a0:dG):yxA a0=(fun n=>some ((n,()),())) (yf a0):=zkS (p:=fun (n:Bool)=>((n,()),())) (zkx (p:=fun (n:Bool)=>((n,()),())) rfl rfl)
theorem ys9:ConOk Tryz.prog 134 ykS:=(yXr).mono (fun x r _ h=>(yZz x.1).trans h)
theorem ym {a:Int×Int}:yf a=true↔(3≤a.1∧a.1≤5)∧1≤a.2∧a.2≤8:=by
 unfold yf
 cases h:ya a.1 3 5
 ·have: ¬ (3≤a.1∧a.1≤5):=fun e=>by rw [yr9.2 e]at h; simp at h
  simp [this]
 ·simp only [cond_true,yr9]
  exact ⟨fun e=>⟨yr9.1 h,e⟩,fun e=>e.2⟩
def ygK (a:dA) (i:Nat):Bool:= !(yr (nth a.2.2.1 i yh))||((((nth a.2.2.1 i yh).1.length:Int) !=6+a.2.1.2)||((nth a.2.2.1 i yh).2.2.1&&(((i:Int) !=a.2.2.2.1)&& !a.2.2.2.2.2.2.2.2.2.2.2)))
def ym0 (a:dA):Bool:= !((List.range a.2.2.1.length).any (ygK a))&&(a.2.2.1.length:Int)==a.2.1.1
def yhC (g:dG) (l:List dW) (i:Nat):Bool:= !(leb 0 (nth l i (0,[])).1&&leb (nth l i (0,[])).1 (g.2 - 1))||(((nth l i (0,[])).2.length:Int) !=g.1 - 1||(!((nth l i (0,[])).2.all isW)||(decide (0 < i)&&leb (nth l i (0,[])).1 (nth l ((i - 1:Nat):Int) (0,[])).1)))
def yaE (g:dG) (l:List dW):Bool:= !((List.range l.length).any (yhC g l))
def yB (a:dA):Bool :=
 yf a.2.1&&((leb 1 a.1&&leb a.1 60000)&&(ym0 a&&(yaE a.2.1 a.2.2.2.2.2.2.2.2.1&&((leb (-1) a.2.2.2.1&&leb a.2.2.2.1 (a.2.1.1 - 1))&&((leb 0 a.2.2.2.2.1&&leb a.2.2.2.2.1 a.2.1.2)&&(!(a.2.2.2.1== -1&&a.2.2.2.2.1 !=0) &&
 ((leb 0 a.2.2.2.2.2.2.1&&leb a.2.2.2.2.2.2.1 60000)&&((leb a.2.2.2.2.2.2.1 a.2.2.2.2.2.1&&leb a.2.2.2.2.2.1 60000)&&(leb a.2.2.2.2.2.1 (a.2.2.2.2.2.2.1+4)&&((leb 0 a.2.2.2.2.2.2.2.1&&leb a.2.2.2.2.2.2.2.1 60000)&&(leb (-1) a.2.2.2.2.2.2.2.2.2.1&&leb a.2.2.2.2.2.2.2.2.2.1 1000)))))))))))
theorem yew {a:dA} (h:yB a=true):yf a.2.1=true:=(Bool.and_eq_true_iff.1 h).1
theorem y4t {a:Int×Int} (h: ¬ yf a=true):yf a=false:=by cases e:yf a<;>simp_all
theorem ySl {a:dA} (h:yB a=true):ym0 a=true:=by simp only [yB,Bool.and_eq_true]at h; exact h.2.2.1
theorem yKp {a:dA} (h:yB a=true):(a.2.2.1.length:Int)=a.2.1.1:=by have:=ySl h; simp only [ym0,Bool.and_eq_true,beq_iff_eq]at this; exact this.2
theorem yYk {a:dA} (h:ym0 a=true) {i:Nat} (hi:i < a.2.2.1.length):yr (nth a.2.2.1 i yh)=true∧((nth a.2.2.1 i yh).1.length:Int)=6+a.2.1.2∧((nth a.2.2.1 i yh).2.2.1=true→(i:Int)=a.2.2.2.1∨a.2.2.2.2.2.2.2.2.2.2.2=true):=by
 simp only [ym0,Bool.and_eq_true,Bool.not_eq_true',List.any_eq_false,List.mem_range]at h
 have:=h.1 i hi
 simp only [ygK,Bool.not_eq_true,Bool.or_eq_false_iff,Bool.not_eq_false',bne_eq_false_iff_eq,Bool.and_eq_false_iff]at this
 refine ⟨this.1,this.2.1,fun hf=> ?_⟩
 rcases this.2.2 with h1 | h1 | h1
 ·rw [hf]at h1; cases h1
 ·exact .inl h1
 ·exact .inr h1
theorem yVN: ∀ {l:List Int} {lo n:Int},l.Pairwise (· < ·)→(∀ x∈l,lo≤x∧x < n)→lo≤n→(l.length:Int)≤n - lo
 | [],lo,n,_,_,h=>by simp; omega
 | x::l,lo,n,hp,hx,h=>by
  cases hp with
  | cons h1 h2 =>
   have h3:=hx x List.mem_cons_self
   have:=yVN (l:=l) (lo:=x+1) (n:=n) h2 (fun y hy=>⟨h1 y hy,(hx y (List.mem_cons_of_mem _ hy)).2⟩) (by omega)
   rw [List.length_cons]; omega
theorem yKr {n:Nat} {l:List Int}:yvh n l=true↔(∀ x∈l,0≤x∧x < n)∧l.Pairwise (· < ·):=by
 simp only [yvh,Bool.and_eq_true,List.all_eq_true,zjP,decide_eq_true_eq]
theorem yPU {m:dM} (h1:m.1.all ybp=true) (h2:m.2.1.all (yxF m.1.length)=true) (h3:yvh m.1.length m.2.2.2=true) (h4:1≤m.1.length) (h5:m.1.length≤20) (h6:m.2.1.length≤60):yr m=true:=by
 simp only [yr,h1,h2,h3,Bool.true_and,Bool.and_eq_true,zjQ]
 omega
theorem y1w {m:dM} (h:yr m=true):yrz m≤1041:=by
 obtain ⟨h1,h2,h3,h4,h5,h6⟩:=yf3 h
 have a1:=yVl (b:=12) h5 (fun x hx=>(yFE.1 (List.all_eq_true.1 h1 x hx)).1)
 have a2:=zi5 (f:=fun x:dW=>1+x.2.length) (c:=13) (l:=m.2.1) (fun w hw=>by have:=(yFE.1 (Bool.and_eq_true_iff.1 (List.all_eq_true.1 h2 w hw)).2).1; omega)
 have a3:=Nat.mul_le_mul_right 13 h6
 obtain ⟨b1,b2⟩:=yKr.1 h3
 have a4:=yVN (lo:=0) (n:=m.1.length) b2 b1 (by omega)
 unfold yrz
 omega
theorem y1R {m:dM} (b:Nat→Bool) (h:yr m=true):(yd7 b m.2.1 m.1).all ybp=true:=by
 obtain ⟨h1,h2,_⟩:=yf3 h
 rw [List.all_eq_true]
 exact yOn (P:=fun x=>ybp x=true) (fun x hx=>List.all_eq_true.1 h1 x hx) (fun w hw=>(Bool.and_eq_true_iff.1 (List.all_eq_true.1 h2 w hw)).2)
theorem y1m {m:dM} (n:Int) (s:List Int) (h:yr m=true):yr (ygX m n s).1=true:=by
 unfold ygX
 cases hc:yw4 m n s
 ·exact h
 ·simp only [yw4,Bool.and_eq_true,Bool.not_eq_true',zjT]at hc
  obtain ⟨h1,h2,h3,h4,h5,h6⟩:=yf3 h
  refine yPU h1 ?_ ?_ h4 h5 (by show (m.2.1++ [(n,s)]).length≤60; rw [List.length_append]; simp only [List.length_cons,List.length_nil]; omega)
  ·show (m.2.1++ [(n,s)]).all (yxF m.1.length)=true
   rw [List.all_append,h2]
   simp [yxF,hc.2.2.1,hc.2.2.2.1]
  ·show yvh m.1.length (yX6 m.2.2.2 n)=true
   obtain ⟨b1,b2⟩:=yKr.1 h3
   exact yKr.2 ⟨fun x hx=>b1 x (List.mem_filter.1 hx).1,b2.filter _⟩
theorem yYr (m:dM) (n:Int) (s:List Int):(ygX m n s).1.1=m.1∧(ygX m n s).1.2.2.1=m.2.2.1:=by
 unfold ygX
 cases yw4 m n s<;>exact ⟨rfl,rfl⟩
theorem y0X {m:dM} (h:yr m=true):yr (yfc m)=true:=by
 unfold yfc
 cases hc:(yr m&& !m.2.2.1)
 ·exact h
 ·obtain ⟨h1,h2,h3,h4,h5,h6⟩:=yf3 h
  refine yPU (y1R _ h) rfl ?_ ?_ ?_ (Nat.zero_le _)
  ·show yvh (yd7 _ m.2.1 m.1).length m.2.2.2=true; rw [ysa]; exact h3
  ·show 1≤(yd7 _ m.2.1 m.1).length; rw [ysa]; exact h4
  ·show (yd7 _ m.2.1 m.1).length≤20; rw [ysa]; exact h5
theorem yYf (m:dM):(yfc m).1.length=m.1.length∧(yfc m).2.2.1=m.2.2.1:=by
 unfold yfc
 cases (yr m&& !m.2.2.1)
 ·exact ⟨rfl,rfl⟩
 ·exact ⟨ysa,rfl⟩
theorem y4l {m:dM} (h:yr m=true):yr (y28 m)=true:=by
 obtain ⟨h1,h2,h3,h4,h5,h6⟩:=yf3 h
 exact yPU h1 rfl h3 h4 h5 (Nat.zero_le _)
def yaa (l:List dM):Prop:= ∀ m∈l,yr m=true
theorem yUF {l:List dM} {i:Nat} {x:dM} (h:yaa l) (hx:yr x=true):yaa (l.set i x):=fun m hm=>by
 rcases List.mem_or_eq_of_mem_set hm with h1 | rfl
 ·exact h m h1
 ·exact hx
theorem yYm {l:List dM} {m:Int} (h:yaa l) (hm:inb m l.length=true):yr (nth l m yh)=true:=yW4 (P:=fun x=>yr x=true) hm h
theorem yLG {l:List dM} (h:yaa l):yoB l≤l.length * 1041:=zi5 (f:=yrz) (fun x hx=>y1w (h x hx))
theorem yHq {a:dA} (h:yB a=true):yaa a.2.2.1:=fun m hm=>by
 obtain ⟨i,hi,rfl⟩:=List.getElem_of_mem hm
 have:=(yYk (ySl h) hi).1
 rwa [zjW,zcq hi]at this
def yL (g:dG) (s:Int):Bool:=yf g&&(leb 0 s&&leb s (g.2 - 1))
def yg (g:dG) (s:Int):Int:=bif yL g s then g.1 - 1 - s.tmod g.1 else -1
def yex (g:dG) (s i:Int):Int:=bif yL g s&&(leb 0 i&&leb i (g.1 - 2)) then (yg g s+1+i).tmod g.1 else -1
theorem ydE {g:dG} {s:Int}:yL g s=true↔yf g=true∧0≤s∧s≤g.2 - 1:=by simp [yL,zjQ]
theorem yp1 {g:dG} {s:Int} (h:yL g s=true):0≤yg g s∧yg g s≤g.1 - 1:=by
 have h1:=ydE.1 h
 have h2:=ym.1 h1.1
 unfold yg
 rw [h,cond_true,Int.tmod_eq_emod_of_nonneg h1.2.1]
 have:=Int.emod_nonneg s (show g.1≠0 by omega)
 have:=Int.emod_lt_of_pos s (show 0 < g.1 by omega)
 omega
theorem y1H {g:dG} {s i:Int} (h:yL g s=true) (h1:0≤i) (h2:i≤g.1 - 2):0≤yex g s i∧yex g s i≤g.1 - 1:=by
 have h3:=ym.1 (ydE.1 h).1
 have h4:=yp1 h
 unfold yex
 rw [h,zk0 h1,zk0 h2,Bool.and_self,Bool.and_self,cond_true,Int.tmod_eq_emod_of_nonneg (by omega)]
 have:=Int.emod_nonneg (yg g s+1+i) (show g.1≠0 by omega)
 have:=Int.emod_lt_of_pos (yg g s+1+i) (show 0 < g.1 by omega)
 omega
def yU (p:Nat→Bool):Nat→Int
 | 0=> -1
 | n+1=>bif p n then yU p n else n
def y0j (p:Nat→Bool) (n:Nat):Bool:=(List.range n).any (fun i=> !p i&&leb 0 (yU p i))
theorem yYl (p:Nat→Bool): ∀ n,yU p n= -1∨(0≤yU p n∧yU p n < n∧p (yU p n).toNat=false)
 | 0=> .inl rfl
 | n+1=>by
  unfold yU
  cases h:p n
  ·exact .inr ⟨by show (0:Int)≤n; omega,by show (n:Int) < _; omega,h⟩
  ·rcases yYl p n with h1 | h1
   ·exact .inl h1
   ·exact .inr ⟨h1.1,by show yU p n < _; omega,h1.2.2⟩
def yaV (a:dA) (s:Int) (n:Nat):List Int:=(List.range n).map (fun (i:Nat)=>yL1 a i s)
theorem ywf (a:dA) (s:Int) (n:Nat):(yaV a s n).length=n:=by unfold yaV; rw [List.length_map,List.length_range]
theorem y0h (a:dA) (s:Int) (n:Nat):yaV a s n++ [yL1 a n s]=yaV a s (n+1):=by unfold yaV; rw [List.range_succ,List.map_append]; rfl
theorem y1E (a:dA) (s:Int) {i n:Nat} (h:i < n):nth (yaV a s n) i 0=yL1 a i s:=by
 unfold yaV
 rw [zjW,zcq (by rw [List.length_map,List.length_range]; exact h)]; simp
def yhg (a:dA) (s:Int):List Int×Bool :=
 bif y0j (fun (i:Nat)=>yD a i s) a.2.1.1.toNat then ([],false)
 else bif leb 0 (yU (fun (i:Nat)=>yD a i s) a.2.1.1.toNat) then ((yaV a s a.2.1.1.toNat).set (yU (fun (i:Nat)=>yD a i s) a.2.1.1.toNat).toNat (ye7 (yaV a s a.2.1.1.toNat)),true)
 else (yaV a s a.2.1.1.toNat,true)
theorem y2u {a:dA} {s:Int} (h:(yhg a s).2=true):(yhg a s).1.length=a.2.1.1.toNat:=by
 unfold yhg at h ⊢
 cases h1:y0j (fun (i:Nat)=>yD a i s) a.2.1.1.toNat
 ·cases leb 0 (yU (fun (i:Nat)=>yD a i s) a.2.1.1.toNat)
  ·exact ywf _ _ _
  ·simp only [cond_false,cond_true,List.length_set]; exact ywf _ _ _
 ·rw [h1]at h; cases h
theorem y2m (a:dA) (s:Int) (n:Nat) (h:leb 0 (yU (fun (i:Nat)=>yD a i s) n)=true):inb (yU (fun (i:Nat)=>yD a i s) n) (yaV a s n).length=true∧yxd (yaV a s n) (yU (fun (i:Nat)=>yD a i s) n)=ye7 (yaV a s n):=by
 rcases yYl (fun (i:Nat)=>yD a i s) n with h1 | h1
 ·rw [h1]at h; cases h
 ·have h2:inb (yU (fun (i:Nat)=>yD a i s) n) (yaV a s n).length=true:=by rw [ywf,zjP]; exact ⟨h1.1,h1.2.1⟩
  refine ⟨h2,y2k h2 ?_⟩
  have h3:=y1E a s (show (yU (fun (i:Nat)=>yD a i s) n).toNat < n by omega)
  rw [show (((yU (fun (i:Nat)=>yD a i s) n).toNat:Nat):Int)=yU (fun (i:Nat)=>yD a i s) n by omega]at h3
  rw [h3]
  unfold yL1
  have h4:yD a (yU (fun (i:Nat)=>yD a i s) n) s=false:=by
   have:=h1.2.2
   have this:yD a ((yU (fun (i:Nat)=>yD a i s) n).toNat:Nat) s=false:=h1.2.2
   rwa [show (((yU (fun (i:Nat)=>yD a i s) n).toNat:Nat):Int)=yU (fun (i:Nat)=>yD a i s) n by omega]at this
  rw [h4]; rfl
def yHr (a:dA) (s:Int):List Int×Bool:=bif (yhg a s).2 then ((List.range (a.2.1.1 - 1).toNat).map (fun (i:Nat)=>nth (yhg a s).1 (yex a.2.1 s i) 0),true) else ([],false)
def y2a (a:dA) (s:Int):List Int×Bool:=bif yB a&&(!a.2.2.2.2.2.2.2.2.2.2.2&&yL a.2.1 s) then yHr a s else ([],false)
theorem y31 (a:dA) (s:Int):(yHr a s).1.length≤(a.2.1.1 - 1).toNat:=by
 unfold yHr
 cases (yhg a s).2
 ·exact Nat.zero_le _
 ·simp
def y4k (a:dA):List Int:=bif yB a&&(List.range a.2.1.2.toNat).all (fun (s:Nat)=>(y2a a s).2) then (List.range a.2.1.2.toNat).flatMap (fun (s:Nat)=>(y2a a s).1) else []
end
section
def yIc:Code:=(Tryz.f139.body).getD .skip
def yIB:Env:=zki TT [] []
theorem yPK:FrOk Tryz.prog ⟨yIB,6,fun _=>none⟩ yIc:=zkp yb yc trivial
def yR1:Nat→Option Seg:=fun _=>none
abbrev ymQ:List Par:= [.rd tG]
abbrev ysV:List OT:= [⟨false,tI,.fz⟩]
def yv8 (a0:dG):Option (ResD ysV×MutD ymQ) :=
 some (((IntKind.i64.wrap (6+a0.2)),()),())
theorem yY3 (x:InD ymQ):zjH ⟨yIB,6,yR1⟩ Tryz.f139.results.toList yIc ymQ ysV x=yv8 x.1:=by kernel_rfl
theorem yUz:ConOk Tryz.prog 139 ⟨ymQ,ysV,fun x=>yv8 x.1⟩:=zkh (yPK) Tryz.func139 (by kernel_rfl) (by kernel_rfl) Tryz.ntmps139.symm (by decide) (fun x r h=>(yY3 x).trans h)
def ys5 (a0:dG):Int :=
 (IntKind.i64.wrap (6+a0.2))
def yFs:Con:=⟨ymQ,ysV,fun x=>(fun n=>some ((n,()),())) (ys5 x.1)⟩
theorem yWX (a0:dG):yv8 a0=(fun n=>some ((n,()),())) (ys5 a0):=zkS (p:=fun (n:Int)=>((n,()),())) rfl
theorem yXW:ConOk Tryz.prog 139 yFs:=(yUz).mono (fun x r _ h=>(yWX x.1).trans h)
end
section
def yIb:Code:=(Tryz.f181.body).getD .skip
def yIA:Env:=zki TT [(135,yl)] []
theorem yPz:FrOk Tryz.prog ⟨yIA,5,fun _=>none⟩ yIb:=zkp yb yc ⟨yp,trivial⟩
def yR0:Nat→Option Seg:=fun _=>none
abbrev ymP:List Par:= [.rd tI]
abbrev ysS:List OT:= [⟨false,tB,.fz⟩]
def yv7 (a0:Int):Option (ResD ysS×MutD ymP) :=
 let r1:=ya a0 0 65535
 some ((r1,()),())
theorem yYY (x:InD ymP):zjH ⟨yIA,5,yR0⟩ Tryz.f181.results.toList yIb ymP ysS x=yv7 x.1:=by kernel_rfl
theorem yUu:ConOk Tryz.prog 181 ⟨ymP,ysS,fun x=>yv7 x.1⟩:=zkh (yPz) Tryz.func181 (by kernel_rfl) (by kernel_rfl) Tryz.ntmps181.symm (by decide) (fun x r h=>(yYY x).trans h)
def yW (a0:Int):Bool :=
 let r1:=ya a0 0 65535
 r1
def yFo:Con:=⟨ymP,ysS,fun x=>(fun n=>some ((n,()),())) (yW x.1)⟩
theorem yWS (a0:Int):yv7 a0=(fun n=>some ((n,()),())) (yW a0):=zkS (p:=fun (n:Bool)=>((n,()),())) rfl
theorem yXS:ConOk Tryz.prog 181 yFo:=(yUu).mono (fun x r _ h=>(yWS x.1).trans h)
end
section
def ykl:Code:=(Tryz.f225.body).getD .skip
def yqr:Env:=zki TT [(181,yFo)] []
theorem yM3:FrOk Tryz.prog ⟨yqr,16,fun _=>none⟩ ykl:=zkp yb yc ⟨yXS,trivial⟩
def yB4:Nat→Option Seg:=fun _=>none
def ydc:Shape:=⟨[(0,false,[.br tI]),(3,false,[.int .i64])],[],[]⟩
def yjz:Shape:=⟨[(0,false,[.br tI]),(3,false,[.ci .i64 0])],[],[]⟩
def yjs:Shape:=⟨[],[],[]⟩
def yjN:Shape:=⟨[(2,false,[.bool])],[],[]⟩
def yqe (v0:List Int) (v1:Int):Option ((ydc).X ⊕ ((yjs).X ⊕ (yjN).X)) :=
 bif (ltb v1 (v0.length:Int)) then
 bif (inb v1 v0.length) then
 let r2:=yW (nth v0 v1 0)
 bif (!r2) then
 some (.inr (.inr (((false,()),()),(),())))
 else
 some (.inl (((v0,()),((IntKind.i64.wrap (v1+1)),()),()),(),()))
 else none
 else
 some (.inr (.inl ((),(),())))
def ybE (x:(ydc).X):=yqe x.1.1.1 x.1.2.1.1
def yyD (x:(yjz).X):(ydc).X:=(((x.1.1.1,()),(0,()),()),(),())
def yAn:Code:=(zdI ykl 64 52).getD .skip
theorem yMr:zdI ykl 64 13=some (.block 0 (.loop yAn)):=by kernel_rfl
theorem yN7 (x:(ydc).X):zg7 ⟨yqr,16,yB4⟩ 0 yAn 52 ydc yjs yjN x=ybE x:=by kernel_rfl
def yyT (x:(yjz).X):Nat:=18446744073709551616
def yrs (x:(yjz).X):Option ((yjs).X ⊕ (yjN).X):=zr ybE (yyT x) (yyD x)
def yzi:Seg:=⟨yjz,yjs,yjN,yrs⟩
def yB5:Nat→Option Seg:=fun q=>bif Nat.beq q 13 then some yzi else yB4 q
theorem yM4:FrOk Tryz.prog ⟨yqr,16,yB5⟩ ykl:=(yM3).loop (sg:=yzi) ydc yyD (by decide) yMr ybE yyT (by decide) (fun _=>rfl) (fun x r _ h=>h) yN7
abbrev ygg:List Par:= [.rd tL]
abbrev yqL:List OT:= [⟨false,tB,.fz⟩]
def ymg (a0:List Int):Option (ResD yqL×MutD ygg) :=
 zjw (yrs (((a0,()),((),()),()),(),())) (fun y2 =>
 some ((true,()),())) (fun y2 =>
 some ((y2.1.1.1,()),()))
theorem yV9 (x:InD ygg):zjH ⟨yqr,16,yB5⟩ Tryz.f225.results.toList ykl ygg yqL x=ymg x.1:=by kernel_rfl
theorem yQ0:ConOk Tryz.prog 225 ⟨ygg,yqL,fun x=>ymg x.1⟩:=zkh (yM4) Tryz.func225 (by kernel_rfl) (by kernel_rfl) Tryz.ntmps225.symm (by decide) (fun x r h=>(yV9 x).trans h)
def yF (a0:List Int):Bool:=a0.all yW
theorem yTX (a0:List Int) (hk:zi9 ygg (a0,())):ymg a0=(fun n=>some ((n,()),())) (yF a0):=by
 have hb:a0.length * 8≤2 ^ 47:=hk.1.1
 have hl:yrs (((a0,()),((),()),()),(),())=some (bif a0.all yW then .inl ((),(),()) else .inr (((false,()),()),(),())) :=
  zjS (step:=ybE) a0 0 (fun i=>(((a0,()),((i:Int),()),()),(),())) yW _ _ (fun i hi=>by
   simp only [ybE,yqe,zkO hi,zjW,zjI (show (i:Int) < a0.length by omega),cond_true,wr (show -9223372036854775808≤(i:Int)+1 by omega) (by omega),Int.natCast_add,Int.natCast_one]
   cases yW (a0.getD i 0)<;>rfl) (by simp only [ybE,yqe,zkm (Int.le_refl _),cond_false]) _ (by show _ < 18446744073709551616; omega)
 unfold ymg yF
 rw [hl]
 cases a0.all yW<;>rfl
def ygJ:Con:=⟨ygg,yqL,fun x=>(fun n=>some ((n,()),())) (yF x.1)⟩
theorem yoF:ConOk Tryz.prog 225 ygJ:=(yQ0).mono (fun x r hk h=>(yTX x.1 hk).trans h)
end
section
def yJL:Code:=(Tryz.f269.body).getD .skip
def yKa:Env:=zki TT [(225,ygJ)] []
theorem yTl:FrOk Tryz.prog ⟨yKa,10,fun _=>none⟩ yJL:=zkp yb yc ⟨yoF,trivial⟩
def yVI:Nat→Option Seg:=fun _=>none
abbrev ypH:List Par:= [.rd tL]
abbrev yvc:List OT:= [⟨false,tB,.fz⟩]
def yxC (a0:List Int):Option (ResD yvc×MutD ypH) :=
 bif (leb (a0.length:Int) 12) then
 let r1:=yF a0
 some ((r1,()),())
 else
 some ((false,()),())
theorem y0O (x:InD ypH):zjH ⟨yKa,10,yVI⟩ Tryz.f269.results.toList yJL ypH yvc x=yxC x.1:=by kernel_rfl
theorem yXu:ConOk Tryz.prog 269 ⟨ypH,yvc,fun x=>yxC x.1⟩:=zkh (yTl) Tryz.func269 (by kernel_rfl) (by kernel_rfl) Tryz.ntmps269.symm (by decide) (fun x r h=>(y0O x).trans h)
def ygR (a0:List Int):Bool :=
 bif (leb (a0.length:Int) 12) then
 let r1:=yF a0
 r1
 else
 false
def yw8:Con:=⟨ypH,yvc,fun x=>(fun n=>some ((n,()),())) (ygR x.1)⟩
theorem yZC (a0:List Int):yxC a0=(fun n=>some ((n,()),())) (ygR a0):=zkS (p:=fun (n:Bool)=>((n,()),())) (zkx (p:=fun (n:Bool)=>((n,()),())) rfl rfl)
theorem yIL:ConOk Tryz.prog 269 yw8:=(yXu).mono (fun x r _ h=>(yZC x.1).trans h)
theorem yFO:ygR=ybp:=funext fun s=>by
 unfold ygR ybp yF
 rw [show yW=isW from funext fun x=>by unfold yW; rw [ye1]; rfl]
 cases leb (s.length:Int) 12<;>rfl
end
end
end Go.Tf
