/- Functions of the program, and what they come to. -/
import Derived.Test.YtolmneojjjpnjaaGreatFallsBentTt
namespace Go.Tf
noncomputable section
open Go.Proofs Go.Proofs.Tryz IntKind
set_option synthInstance.maxHeartbeats 400000
set_option synthInstance.maxSize 10000
set_option linter.unusedVariables false
set_option linter.unusedSimpArgs false
set_option maxRecDepth 100000
def y6P:Code:=(f14.body).getD .skip
def y6Q:Env:=zkw TT [] []
theorem y4o:FrOk prog ⟨y6Q,6,fun _=>none⟩ y6P:=zkA mixed yd trivial
abbrev yKT:List Par:= [.rd tYs]
abbrev yKU:List OT:= [⟨false,tB,.fz⟩]
def yPh (a0:List Int):Option (zaY yKU×zak yKT) :=some (((ltb 1048576 (a0.length:Int)),()),())
theorem y5W:ConOk prog 14 ⟨yKT,yKU,fun x=>yPh x.1⟩:=zkI (y4o) func14 ntmps14.symm fun x=>by kernel_rfl
def yEy (a0:List Int):Bool :=(ltb 1048576 (a0.length:Int))
def yNq:Con:=⟨yKT,yKU,fun x=>(fun n=>some ((n,()),())) (yEy x.1)⟩
theorem y6p (a0:List Int):yPh a0=(fun n=>some ((n,()),())) (yEy a0):=zkV (p:=fun(n:Bool)=>((n,()),())) rfl
theorem y6q:ConOk prog 14 yNq:=(y5W).mono (fun x r _ h=>(y6p x.1).trans h)
def yR {α:Type} (p:α→Bool) (l:List α):Int:=bif l.any p then((l.takeWhile (fun x=> !p x)).length:Int)else -1
theorem y20 {α:Type} (p:α→Bool):yR p []= -1:=rfl
theorem yEx {α:Type} (p:α→Bool) (x:α) (l:List α):yR p (x::l)=bif p x then 0 else bif leb 0 (yR p l)then yR p l+1 else -1:=by
 unfold yR;rw[List.any_cons,List.takeWhile_cons];cases p x
 ·cases l.any p
  ·rfl
  ·simp only[Bool.false_or,Bool.not_false,if_true,cond_true,cond_false,List.length_cons]
   rw[zk2 (show(0:Int)≤((l.takeWhile (fun x=> !p x)).length:Int)by omega),cond_true]; omega
 ·simp
theorem yoM {α:Type} {p:α→Bool} {d:α}: ∀{l:List α},leb 0 (yR p l)=true→inb (yR p l) l.length=true∧p (nth l (yR p l) d)=true
 | [],h=>by rw[y20]at h; cases h
 | x::l,h=>by
  rw[yEx]at h ⊢;cases hx:p x
  ·rw[hx]at h
   cases hl:leb 0 (yR p l)
   ·rw[hl]at h; cases h
   ·obtain⟨h1,h2⟩:=yoM (d:=d) hl
    have h3:=zj6.1 h1;have h4:=zj7.1 hl;simp only[cond_false,cond_true,List.length_cons];refine⟨zj6.2 (by omega),?_⟩;unfold nth at h2 ⊢;rw[show(yR p l+1).toNat=(yR p l).toNat+1 by omega,List.getD_cons_succ];exact h2
  ·simp only[cond_true,List.length_cons]
   refine⟨zj6.2 (by omega),?_⟩;exact hx
theorem yII {A B α:Type} {step:A→Option (A ⊕ B)} (l:List α) (d:α) (f:Nat→A) (p:α→Bool) (b:Int→B) (c:B)
  (h: ∀i,i<l.length→step (f i)=some (bif p (l.getD i d)then .inr (b i)else .inl (f (i+1)))) (e:step (f l.length)=some (.inr c)) (fuel:Nat) (hf:l.length<fuel) :
  zF step fuel (f 0)=some (bif leb 0 (yR p l)then b (yR p l)else c):=by
 have: ∀(t q:List α) (fuel:Nat),q++t=l→t.length<fuel→zF step fuel (f q.length)=some (bif leb 0 (yR p t)then b (q.length+yR p t)else c):=by
  intro t
  induction t with
  | nil =>
   intro q fuel hq hf;obtain⟨fuel,rfl⟩: ∃m,fuel=m+1:=⟨fuel-1,by omega⟩;rw[List.append_nil]at hq;subst hq;simp only[zF,e]; rfl
  | cons x t ih =>
   intro q fuel hq hf;obtain⟨fuel,rfl⟩: ∃m,fuel=m+1:=⟨fuel-1,by omega⟩
   have hx:l.getD q.length d=x:=by
    subst hq;rw[zkJ (by simp)]; simp
   have hs:=h q.length (by rw[← hq]; simp);rw[hx]at hs;rw[yEx];cases hp:p x
   ·rw[hp]at hs
    have:=ih (q++ [x]) fuel (by rw[← hq]; simp) (by simp at hf; omega);simp only[List.length_append,List.length_cons,List.length_nil]at this;simp only[zF,hs,cond_false];rw[show q.length+1=q.length+(0+1)by omega,this];cases hl:leb 0 (yR p t)
    ·rfl
    ·have:=zj7.1 hl
     rw[cond_true,cond_true,zk2 (show 0≤yR p t+1 by omega),cond_true];congr 2; omega
   ·rw[hp]at hs
    simp only[zF,hs,cond_true];rw[zk2 (Int.le_refl 0),cond_true,Int.add_zero]
 have:=this l [] fuel rfl hf;simpa using this
theorem ywc {α β:Type} (f:α→β): ∀(l:List α) (s:List β),l.foldl (fun s i=>s++ [f i]) s=s++l.map f
 | [],s=>by simp
 | x::l,s=>by rw[List.foldl_cons,ywc f l]; simp
theorem ys9 {α:Type} (l:List α):l.foldl (fun s i=>s++ [i]) []=l:=by
 have:=ywc id l [];simpa using this
theorem y3e {α:Type} (l:List α) (d:α) {i:Nat} (h:i<l.length):l.take i++ [nth l i d]=l.take (i+1):=by rw[zkS,zkJ h,List.take_append_getElem h]
def ycD (e:dW) (s:Bool×List dW) (x:dW):Bool×List dW:=(s.1||leb e.1 x.1,(bif !s.1&&leb e.1 x.1 then s.2++ [e]else s.2)++(bif x.1 !=e.1 then[x]else[]))
def yG8 (l:List dW) (e:dW):List dW:=bif(l.foldl (ycD e) (false,[])).1 then(l.foldl (ycD e) (false,[])).2 else(l.foldl (ycD e) (false,[])).2++ [e]
def yHj (a:dA) (l:List dW):dA:=(a.1,a.2.1,a.2.2.1,a.2.2.2.1,a.2.2.2.2.1,a.2.2.2.2.2.1,a.2.2.2.2.2.2.1,a.2.2.2.2.2.2.2.1,l,a.2.2.2.2.2.2.2.2.2)
def y70 (a:dA):dA:=(a.1,a.2.1,a.2.2.1,a.2.2.2.1,a.2.2.2.2.1,a.2.2.2.2.2.1,a.2.2.2.2.2.2.1,a.2.2.2.2.2.2.2.1,a.2.2.2.2.2.2.2.2.1,-1,true,a.2.2.2.2.2.2.2.2.2.2.2)
abbrev yc:dM:=([],[],false,[])
def isW (x:Int):Bool:=leb 0 x&&leb x 65535
def yam (s:List Int):Bool:=leb (s.length:Int) 12&&s.all isW
theorem y09 {x:Int}:isW x=true↔0≤x∧x≤65535:=by simp[isW,zj7]
theorem y7z {s:List Int}:yam s=true↔s.length≤12∧ ∀x∈s,0≤x∧x≤65535:=by
 simp only[yam,Bool.and_eq_true,zj7,List.all_eq_true,y09];constructor
 ·rintro⟨h1,h2⟩; exact⟨by omega,h2⟩
 ·rintro⟨h1,h2⟩; exact⟨by omega,h2⟩
theorem y6x: ∀{l:List Int},l.Pairwise (· < ·)↔ ∀i,i+1<l.length→l.getD i 0<l.getD (i+1) 0
 | []=>by simp
 | [x]=>by simp
 | x::y::l=>by
  have ih:=y6x (l:=y::l);constructor
  ·intro h i hi
   cases h with
   | cons h1 h2 =>
    cases i with
    | zero=>exact h1 y List.mem_cons_self
    | succ i=>exact ih.1 h2 i (by simpa using hi)
  ·intro h
   have h2:(y::l).Pairwise (· < ·):=ih.2 fun i hi=>h (i+1) (by simpa using hi)
   refine .cons (fun z hz=> ?_) h2;have h3:x<y:=h 0 (by simp);rcases List.mem_cons.1 hz with rfl | hz
   ·exact h3
   ·cases h2 with
    | cons h4 _=>exact Int.lt_trans h3 (h4 z hz)
def yp7 (n:Nat) (l:List Int):Bool:=l.all (fun x=>inb x n)&&decide (l.Pairwise (· < ·))
def yxh (n:Nat) (w:dW):Bool:=inb w.1 n&&yam w.2
def yu (m:dM):Bool:=m.1.all yam&&m.2.1.all (yxh m.1.length)&&yp7 m.1.length m.2.2.2&&leb 1 (m.1.length:Int)&&leb (m.1.length:Int) 20&&leb (m.2.1.length:Int) 60
def yHT (n:Nat) (l:List Int) (i:Nat):Bool:= !(inb (l.getD i 0) n)||(decide (0<i)&&leb (l.getD i 0) (l.getD (i-1) 0))
theorem y2N (n:Nat) (l:List Int):(List.range l.length).any (yHT n l)= !(yp7 n l):=by
 rw[Bool.eq_iff_iff,List.any_eq_true,Bool.not_eq_true',yp7,Bool.and_eq_false_iff,decide_eq_false_iff_not,y6x,List.all_eq_false];simp only[List.mem_range,yHT,Bool.or_eq_true,Bool.not_eq_true',Bool.and_eq_true,decide_eq_true_eq,zj7];constructor
 ·rintro⟨i,hi,h | ⟨h1,h2⟩⟩
  ·exact .inl ⟨l[i],List.getElem_mem hi,by rw[zkJ hi]at h; simp[h]⟩
  ·refine .inr fun h3=> ?_
   have:=h3 (i-1) (by omega);rw[show i-1+1=i by omega]at this;omega
 ·rintro(⟨x,hx,h⟩ | h)
  ·obtain⟨i,hi,rfl⟩:=List.getElem_of_mem hx
   exact⟨i,hi,.inl (by rw[zkJ hi]; simpa using h)⟩
  ·refine Classical.byContradiction fun hc=>h fun i hi=> ?_
   refine Classical.byContradiction fun h4=>hc ⟨i+1,hi,.inr ⟨by omega,?_⟩⟩
   rw[Nat.add_sub_cancel]; omega
def yKp (n:Int) (c:List dW) (s:List Int):List Int:=c.foldl (fun s w=>bif w.1==n then w.2 else s) s
def yEC (m:dM) (n:Int):Bool:=yu m&&(!m.2.2.1&&(inb n m.1.length&& !(m.2.2.2.any (· ==n))))
def yr (m:dM) (n:Int):List Int×Bool:=bif yEC m n then(yKp n m.2.1 (nth m.1 n []),true)else([],false)
theorem yLr {P:List Int→Prop} {n:Int}: ∀{c:List dW} {s:List Int},P s→(∀w∈c,P w.2)→P (yKp n c s)
 | [],_,h,_=>h
 | w::c,s,h,hc=>yLr (c:=c) (zkQ (hc w List.mem_cons_self) h) (fun x hx=>hc x (List.mem_cons_of_mem _ hx))
theorem ye1 {α:Type} {P:α→Prop} {l:List α} {i:Int} {d:α} (h:inb i l.length=true) (hl: ∀x∈l,P x):P (nth l i d):=by
 obtain⟨h1,h2⟩:=zj6.1 h;unfold nth;rw[zkJ (show i.toNat<l.length by omega)];exact hl _ (List.getElem_mem _)
theorem y06 {α:Type} {p:α→Bool} {l:List α} (h:leb 0 (yR p l)=false):yR p l= -1:=by
 unfold yR at h ⊢;cases ha:l.any p
 ·rfl
 ·rw[ha,cond_true,zk2 (show(0:Int)≤((l.takeWhile (fun x=> !p x)).length:Int)by omega)]at h; cases h
theorem y21 {α:Type} {p:α→Bool}: ∀{l:List α},leb 0 (yR p l)=true→(l.take ((yR p l).toNat+1)).filter (fun x=> !p x)=l.take (yR p l).toNat
 | [],h=>by rw[y20]at h; cases h
 | x::l,h=>by
  rw[yEx]at h ⊢;cases hx:p x
  ·rw[hx]at h
   cases hl:leb 0 (yR p l)
   ·rw[hl]at h; cases h
   ·have h4:=zj7.1 hl
    simp only[cond_false,cond_true];rw[show(yR p l+1).toNat=(yR p l).toNat+1 by omega,List.take_succ_cons,List.take_succ_cons,List.filter_cons,hx,y21 hl]; rfl
  ·simp only[cond_true]
   show List.filter (fun x=> !p x) [x]= [];rw[List.filter_cons,hx]; rfl
theorem y7W {α:Type} {p:α→Bool} {l:List α} (h:leb 0 (yR p l)=false):l.filter (fun x=> !p x)=l:=by
 rw[List.filter_eq_self];intro x hx;unfold yR at h;cases ha:l.any p
 ·have:=List.any_eq_false.1 ha x hx
  simpa using this
 ·rw[ha,cond_true,zk2 (show(0:Int)≤((l.takeWhile (fun x=> !p x)).length:Int)by omega)]at h; cases h
def yQ (a:dA):dA:=(a.1,a.2.1,a.2.2.1,a.2.2.2.1,a.2.2.2.2.1,i64.wrap (a.2.2.2.2.2.1+1),a.2.2.2.2.2.2)
def ycA (s:Int):Int:=bif leb 0 s&&leb s 1099511627776 then s+6 else -1
def yeK (a:dA) (m s:Int):Bool:=inb m a.2.2.1.length&&(!(nth a.2.2.1 m yc).2.2.1&&(m !=a.2.2.2.1||ltb s a.2.2.2.2.1))
def yqm (a:dA) (m s:Int):List Int×Bool:=yr (nth a.2.2.1 m yc) (ycA s)
def yP (a:dA) (m s:Int):Bool:=yeK a m s&&((yqm a m s).2&&((yqm a m s).1.length:Int)==1)
def yLI (a:dA) (m s:Int):Int:=bif yP a m s then nth (yqm a m s).1 0 0 else 0
def xw (a b:Int):Int:=i64.wrap ((BitVec.ofInt IntKind.i64.bits a ^^^ BitVec.ofInt IntKind.i64.bits b).toNat:Int)
def yfZ (l:List Int):Int:=l.foldl xw 0
def bv (x:Int):BitVec 64:=BitVec.ofInt 64 x
theorem y42 (a b:Int):xw a b=(bv a ^^^ bv b).toInt:=by
 show i64.wrap ((bv a ^^^ bv b).toNat:Int)=_;rw[IntKind.wrap_i64,BitVec.toInt_eq_toNat_cond];have:=(bv a ^^^ bv b).isLt;split<;>omega
theorem yK0 (v:BitVec 64):bv v.toInt=v:=by unfold bv; simp
def yV6 (l:List Int):BitVec 64:=l.foldl (fun v x=>v ^^^ bv x) 0#64
theorem yV5 (l:List Int):yfZ l=(yV6 l).toInt:=by
 have: ∀(l:List Int) (v:BitVec 64),l.foldl xw v.toInt=(l.foldl (fun v x=>v ^^^ bv x) v).toInt:=by
  intro l
  induction l with
  | nil=>intro _; rfl
  | cons x l ih =>
   intro v;rw[List.foldl_cons,List.foldl_cons,y42,yK0,ih]
 have h:=this l 0#64;rwa[show(0#64:BitVec 64).toInt=0 from by decide]at h
theorem y7I (l:List Int) (x:Int):yV6 (l++ [x])=yV6 l ^^^ bv x:=by unfold yV6; rw[List.foldl_append]; rfl
theorem y8c {i:Int} {n:Nat} (h: ¬(0≤i∧i<(n:Int))):inb i n=false:=by
 cases e:inb i n
 ·rfl
 ·exact absurd (zj6.1 e) h
def yzl (l:List Int) (k:Int):Int:=bif inb k l.length then xw (yfZ l) (nth l k 0)else yfZ l
theorem y7J (u v:BitVec 64):u ^^^ v ^^^ v=u:=by rw[BitVec.xor_assoc,BitVec.xor_self,BitVec.xor_zero]
theorem y7t (l:List Int) (k:Int):(List.range l.length).foldl (fun n (i:Nat)=>bif(i:Int) !=k then xw n (nth l i 0)else n) 0=yzl l k:=by
 have: ∀n,n≤l.length→(List.range n).foldl (fun n (i:Nat)=>bif(i:Int) !=k then xw n (nth l i 0)else n) 0=(bif inb k n then yV6 (l.take n) ^^^ bv (nth l k 0)else yV6 (l.take n)).toInt:=by
  intro n
  induction n with
  | zero =>
   intro _;rw[y8c (show ¬(0≤k∧k<((0:Nat):Int))by omega)];rfl
  | succ n ih =>
   intro hn;rw[List.range_succ,List.foldl_append,List.foldl_cons,List.foldl_nil,ih (by omega),← y3e l 0 (show n<l.length by omega),y7I];by_cases hk:(n:Int)=k
   ·subst hk
    rw[show((n:Int) !=n)=false by simp,cond_false,y8c (show ¬(0≤(n:Int)∧(n:Int)<(n:Int))by omega),show inb (n:Int) (n+1)=true from zkR (Nat.lt_succ_self n),cond_false,cond_true,y7J]
   ·rw[show((n:Int) !=k)=true from bne_iff_ne.2 hk,cond_true,show inb k (n+1)=inb k n by rw[Bool.eq_iff_iff,zj6,zj6]; omega,y42,yK0]
    cases inb k n
    ·rfl
    ·rw[cond_true,cond_true,BitVec.xor_assoc,BitVec.xor_comm (bv (nth l k 0)),← BitVec.xor_assoc]
 rw[this l.length (Nat.le_refl _),List.take_length];unfold yzl;rw[y42,yV5,yK0];cases inb k l.length<;>rfl
theorem y7s {l:List Int} {k:Int} (h:inb k l.length=true) (h0:nth l k 0=0):yzl l k=yfZ l:=by
 unfold yzl;rw[h,h0,cond_true,y42,yV5,yK0,show bv 0=0#64 by decide,BitVec.xor_zero]
abbrev yK:dA:=(0,(0,0),[],0,0,0,0,0,[],0,false,false)
def yKZ (k:Int) (i:Nat):Bool:=i64.wrap ((BitVec.ofInt IntKind.i64.bits (k.fdiv (2^(min (i:Int).toNat IntKind.i64.bits))) &&& BitVec.ofInt IntKind.i64.bits 1).toNat:Int)==1
def y5I (k:Int):Int:=bif leb 0 k&&leb k 1048575 then k else 0
def ybz (b:Nat→Bool) (c:List dW) (l:List (List Int)) (i:Nat):List (List Int):=bif b i then l.set (nth c i (0,[])).1.toNat (nth c i (0,[])).2 else l
def ybI (b:Nat→Bool) (c:List dW) (l:List (List Int)):List (List Int):=(List.range c.length).foldl (ybz b c) l
def yfQ (m:dM) (k:Int):dM:=bif yu m then(ybI (fun i=>decide (i<20)&&yKZ (y5I k) i) m.2.1 m.1,[],m.2.2.1,m.2.2.2)else m
def yGJ (ks:List Int) (i:Nat):Int:=bif decide (i<ks.length)then nth ks i 0 else 0
def ybc (l:List dM) (ks:List Int):List dM:=(List.range l.length).map (fun(i:Nat)=>yfQ (nth l i yc) (yGJ ks i))
theorem yay {m:dM} (h:yu m=true):m.1.all yam=true∧m.2.1.all (yxh m.1.length)=true∧yp7 m.1.length m.2.2.2=true∧1≤m.1.length∧m.1.length≤20∧m.2.1.length≤60:=by
 simp only[yu,Bool.and_eq_true,zj7]at h;exact⟨h.1.1.1.1.1,h.1.1.1.1.2,h.1.1.1.2,by omega,by omega,by omega⟩
theorem yLb {m:dM} (h:yu m=true) {i:Nat} (hi:i<m.2.1.length):inb (nth m.2.1 i (0,[])).1 m.1.length=true∧yam (nth m.2.1 i (0,[])).2=true:=by
 have h1:=List.all_eq_true.1 (yay h).2.1 m.2.1[i] (List.getElem_mem hi);rw[zkS,zkJ hi];exact Bool.and_eq_true_iff.1 h1
theorem ywn {b:Nat→Bool} {c:List dW} {l:List (List Int)} {i:Nat}:(ybz b c l i).length=l.length:=by
 unfold ybz; cases b i
 ·rfl
 ·exact List.length_set
theorem yXl {α β:Type} (P:β→Prop) (f:β→α→β) (h: ∀s x,P s→P (f s x)): ∀(l:List α) (s:β),P s→P (l.foldl f s)
 | [],_,hs=>hs
 | x::l,s,hs=>yXl P f h l (f s x) (h s x hs)
theorem yzU {b:Nat→Bool} {c:List dW} {l:List (List Int)}:(ybI b c l).length=l.length :=
 yXl (fun x=>x.length=l.length) _ (fun s x hs=>by rw[ywn]; exact hs) _ l rfl
theorem y6l (b:Nat→Bool) (c:List dW) (l:List (List Int)):ybI (fun i=>decide (i<20)&&b i) c l=(List.range (min c.length 20)).foldl (ybz b c) l:=by
 have h1: ∀n,n≤20→ ∀l,(List.range n).foldl (ybz (fun i=>decide (i<20)&&b i) c) l=(List.range n).foldl (ybz b c) l:=by
  intro n
  induction n with
  | zero=>intro _ _; rfl
  | succ n ih =>
   intro hn l;rw[List.range_succ,List.foldl_append,List.foldl_append,ih (by omega)];simp only[List.foldl_cons,List.foldl_nil,ybz,show decide (n<20)=true from decide_eq_true (by omega),Bool.true_and]
 have h2: ∀n,20≤n→ ∀l,(List.range n).foldl (ybz (fun i=>decide (i<20)&&b i) c) l=(List.range 20).foldl (ybz b c) l:=by
  intro n
  induction n with
  | zero=>intro h; omega
  | succ n ih =>
   intro hn l;by_cases h:20≤n
   ·rw[List.range_succ,List.foldl_append,ih h]
    simp only[List.foldl_cons,List.foldl_nil,ybz,show decide (n<20)=false from decide_eq_false (by omega),Bool.false_and,cond_false]
   ·rw[h1 (n+1) (by omega),show n+1=20 by omega]
 unfold ybI;by_cases h:c.length≤20
 ·rw[h1 _ h,Nat.min_eq_left h]
 ·rw[h2 _ (by omega),Nat.min_eq_right (by omega)]
theorem y6k {P:List Int→Prop} {b:Nat→Bool} {c:List dW} {l:List (List Int)} (hl: ∀x∈l,P x) (hc: ∀w∈c,P w.2): ∀x∈ybI b c l,P x:=by
 have: ∀(n:Nat),n≤c.length→ ∀x∈(List.range n).foldl (ybz b c) l,P x:=by
  intro n
  induction n with
  | zero=>intro _; exact hl
  | succ n ih =>
   intro hn x hx;rw[List.range_succ,List.foldl_append,List.foldl_cons,List.foldl_nil,ybz]at hx;cases hb:b n
   ·rw[hb]at hx; exact ih (by omega) x hx
   ·rw[hb,cond_true]at hx
    rcases List.mem_or_eq_of_mem_set hx with h | h
    ·exact ih (by omega) x h
    ·rw[h,zkS,zkJ (show n<c.length by omega)]
     exact hc _ (List.getElem_mem _)
 exact this _ (Nat.le_refl _)
def yy8 (m:dM) (n:Int) (s:List Int):Bool:=yu m&&(!m.2.2.1&&(inb n m.1.length&&(yam s&&ltb (m.2.1.length:Int) 60)))
def y2I (l:List Int) (n:Int):List Int:=l.filter (· !=n)
def yf9 (m:dM) (n:Int) (s:List Int):dM×Bool:=bif yy8 m n s then((m.1,m.2.1++ [(n,s)],m.2.2.1,y2I m.2.2.2 n),true)else(m,false)
def yeW (m:dM):dM:=bif yu m&& !m.2.2.1 then(ybI (fun _=>true) m.2.1 m.1,[],m.2.2.1,m.2.2.2)else m
def yub (m:dM):dM:=(m.1,[],true,m.2.2.2)
def yul:Code:=(f69.body).getD .skip
def yEY:Env:=zkw TT [] []
theorem yXJ:FrOk prog ⟨yEY,32,fun _=>none⟩ yul:=zkA mixed yd trivial
def yJQ:Nat→Option Seg:=fun _=>none
def yfN:Shape:=⟨[(0,false,[.fz tY]),(3,false,[.int .i64]),(4,false,[.int .i64])],[],[]⟩
def ynO:Shape:=⟨[(0,false,[.fz tY]),(3,false,[.int .i64]),(4,false,[.ci .i64 0])],[],[]⟩
def ynN:Shape:=⟨[(0,false,[.fz tY]),(3,false,[.int .i64])],[],[]⟩
def ynW:Shape:=⟨[],[],[]⟩
def yHz (v0:List Int) (v1 v2:Int):Option ((yfN).X ⊕ ((ynN).X ⊕ (ynW).X)) :=bif(ltb v2 (v0.length:Int))then bif(ltb v2 4000)then bif(inb v2 v0.length)then some (.inl (((v0,()),((i64.wrap ((BitVec.ofInt IntKind.i64.bits (i64.wrap ((i64.wrap ((i64.wrap (v1*137))+(i64.wrap (nth v0 v2 0))))+11)) &&& BitVec.ofInt IntKind.i64.bits 1073741823).toNat:Int)),()),((i64.wrap (v2+1)),()),()),(),())) else none else some (.inr (.inl (((v0,()),(v1,()),()),(),()))) else some (.inr (.inl (((v0,()),(v1,()),()),(),())))
def ygR (x:(yfN).X):=yHz x.1.1.1 x.1.2.1.1 x.1.2.2.1.1
def yGl (x:(ynO).X):(yfN).X:=(((x.1.1.1,()),(x.1.2.1.1,()),(0,()),()),(),())
def yH3:Code:=(zd7 yul 64 116).getD .skip
theorem yW5:zd7 yul 64 29=some (.block 0 (.loop yH3)):=by kernel_rfl
theorem yZV (x:(yfN).X):zhu ⟨yEY,32,yJQ⟩ 0 yH3 116 yfN ynN ynW x=ygR x:=by kernel_rfl
def yGB (x:(ynO).X):Nat:=18446744073709551616
def yuQ (x:(ynO).X):Option ((ynN).X ⊕ (ynW).X):=zF ygR (yGB x) (yGl x)
def yHs:Seg:=⟨ynO,ynN,ynW,yuQ⟩
def y0r:Nat→Option Seg:=fun q=>bif Nat.beq q 29 then some yHs else yJQ q
theorem yXK:FrOk prog ⟨yEY,32,y0r⟩ yul:=(yXJ).loop (sg:=yHs) yfN yGl (by decide) yW5 ygR yGB (by decide) (fun _=>rfl) (fun x r _ h=>h) yZV
abbrev yu9:List Par:= [.kp tYs .fz]
abbrev yFx:List OT:= [⟨true,tU,.fz⟩]
def yk7 (a0:List Int):Option (zaY yFx×zak yu9) :=zkt (yuQ (((a0,()),((i64.wrap (770770+(a0.length:Int))),()),((),()),()),(),())) (fun y0 =>some (((y0.1.1.1,0,y0.1.2.1.1),()),())) (fun y0 =>none)
theorem y1Z:ConOk prog 69 ⟨yu9,yFx,fun x=>yk7 x.1⟩:=zkI (yXK) func69 ntmps69.symm fun x=>by kernel_rfl
def yaP (a0:List Int):List Int×Int×Int:=(((yk7 a0).getD (((([]:List Int),(0:Int),(0:Int)),()),())).1).1
def yA (u:List Int×Int×Int):Prop:=0≤u.2.1∧(u.1.length:Int)≤140737488355328
theorem y5M (a0:List Int) (hb:a0.length≤140737488355328): ∃s:Int,yk7 a0=some (((a0,0,s),()),()):=by
 have hl: ∃b,yuQ (((a0,()),((i64.wrap (770770+(a0.length:Int))),()),((),()),()),(),())=some b∧(∃s:Int,b= .inl (((a0,()),(s,()),()),(),())):=by
  refine zjj (step:=ygR) (fun x=>(a0.length-(x.1.2.2.1.1:Int).toNat)) (fun x=>(x.1.1.1:List Int)=a0∧(0:Int)≤(x.1.2.2.1.1:Int)) _ ?_ _ _ ⟨rfl,Int.le_refl _⟩ (by show a0.length-_<18446744073709551616; omega)
  rintro⟨⟨⟨(l:List Int),_⟩,⟨(s:Int),_⟩,⟨(i:Int),_⟩,_⟩,_,_⟩ ⟨h0,hi⟩
  simp only at h0 hi;subst h0;simp only[ygR,yHz];by_cases h1:i<(l.length:Int)
  ·rw[zky h1]
   by_cases h2:i<4000
   ·rw[zky h2,zj6.2 ⟨hi,h1⟩]
    refine .inl ⟨_,rfl,⟨rfl,?_⟩,?_⟩
    ·show 0≤i64.wrap (i+1); rw[wr (by omega) (by omega)]; omega
    ·show l.length-(i64.wrap (i+1)).toNat<l.length-i.toNat; rw[wr (by omega) (by omega)]; omega
   ·rw[zk3 (Int.not_lt.1 h2)]
    exact .inr ⟨_,rfl,_,rfl⟩
  ·rw[zk3 (Int.not_lt.1 h1)]
   exact .inr ⟨_,rfl,_,rfl⟩
 obtain⟨b,e,s,rfl⟩:=hl;refine⟨s,?_⟩;unfold yk7;rw[e]; rfl
theorem y4D (a0:List Int) (hk:zjx yu9 (a0,())):yk7 a0=(fun n=>some ((n,()),())) (yaP a0):=by
 obtain⟨s,e⟩:=y5M a0 (by have:a0.length*1≤2^47:=hk.1.1; omega);unfold yaP;rw[e]; rfl
theorem yGc (a0:List Int) (hb:a0.length≤140737488355328):yA (yaP a0):=by
 obtain⟨s,e⟩:=y5M a0 hb;unfold yaP;rw[e];exact⟨Int.le_refl _,by show(a0.length:Int)≤_; omega⟩
def yc7:Con:=⟨yu9,yFx,fun x=>(fun n=>some ((n,()),())) (yaP x.1)⟩
theorem yf7:ConOk prog 69 yc7:=(y1Z).mono (fun x r hk h=>(y4D x.1 hk).trans h)
def y3E:Code:=(f147.body).getD .skip
def y4c:Env:=zkw TT [] []
theorem yTt:FrOk prog ⟨y4c,58,fun _=>none⟩ y3E:=zkA mixed yd trivial
abbrev yBM:List Par:= [.pt tU .fz]
abbrev yCl:List OT:= [⟨false,tI,.fz⟩]
def ycf (a0:dU):Option (zaY yCl×zak yBM) :=bif(ltb a0.2.1 (a0.1.length:Int))then bif(inb a0.2.1 a0.1.length)then some (((i64.wrap ((BitVec.ofInt IntKind.i64.bits (i64.wrap ((i64.wrap ((BitVec.ofInt IntKind.i64.bits (i64.wrap ((BitVec.ofInt IntKind.i64.bits ((i64.wrap ((i64.wrap (a0.2.2*6364136223846793005))+1442695040888963407)).fdiv (2^(min (33:Int).toNat IntKind.i64.bits))) ^^^ BitVec.ofInt IntKind.i64.bits ((i64.wrap ((i64.wrap (a0.2.2*6364136223846793005))+1442695040888963407)).fdiv (2^(min (47:Int).toNat IntKind.i64.bits)))).toNat:Int)) &&& BitVec.ofInt IntKind.i64.bits 255).toNat:Int))+(i64.wrap (nth a0.1 a0.2.1 0)))) &&& BitVec.ofInt IntKind.i64.bits 255).toNat:Int)),()),((a0.1,(i64.wrap (a0.2.1+1)),(i64.wrap ((i64.wrap (a0.2.2*6364136223846793005))+1442695040888963407))),())) else none else some (((i64.wrap ((BitVec.ofInt IntKind.i64.bits (i64.wrap ((BitVec.ofInt IntKind.i64.bits ((i64.wrap ((i64.wrap (a0.2.2*6364136223846793005))+1442695040888963407)).fdiv (2^(min (33:Int).toNat IntKind.i64.bits))) ^^^ BitVec.ofInt IntKind.i64.bits ((i64.wrap ((i64.wrap (a0.2.2*6364136223846793005))+1442695040888963407)).fdiv (2^(min (47:Int).toNat IntKind.i64.bits)))).toNat:Int)) &&& BitVec.ofInt IntKind.i64.bits 255).toNat:Int)),()),((a0.1,a0.2.1,(i64.wrap ((i64.wrap (a0.2.2*6364136223846793005))+1442695040888963407))),()))
theorem yY7:ConOk prog 147 ⟨yBM,yCl,fun x=>ycf x.1⟩:=zkI (yTt) func147 ntmps147.symm fun x=>by kernel_rfl
def yIm:Con:=⟨yBM,yCl,fun x=>ycf x.1⟩
theorem y2s:ConOk prog 147 yIm:=yY7
theorem y7d (x:Int):0≤i64.wrap ((BitVec.ofInt IntKind.i64.bits x &&& BitVec.ofInt IntKind.i64.bits 255).toNat:Int)∧i64.wrap ((BitVec.ofInt IntKind.i64.bits x &&& BitVec.ofInt IntKind.i64.bits 255).toNat:Int)≤255:=by
 have h:(BitVec.ofInt IntKind.i64.bits x &&& BitVec.ofInt IntKind.i64.bits 255).toNat≤255:=by
  rw[BitVec.toNat_and];exact Nat.le_trans Nat.and_le_right (by decide)
 rw[wr (by omega) (by omega)];omega
theorem yPr (u:List Int×Int×Int) (h:yA u): ∃(r:Int) (u':List Int×Int×Int),ycf u=some ((r,()),(u',()))∧(0≤r∧r≤255)∧yA u':=by
 unfold ycf;by_cases h1:u.2.1<(u.1.length:Int)
 ·rw[zky h1,zj6.2 ⟨h.1,h1⟩]
  refine⟨_,_,rfl,y7d _,?_,h.2⟩;show 0≤i64.wrap (u.2.1+1);have:=h.1; have:=h.2;rw[wr (by omega) (by omega)]; omega
 ·rw[zk3 (Int.not_lt.1 h1)]
  exact⟨_,_,rfl,y7d _,h⟩
def y0h:Code:=(f72.body).getD .skip
def y0K:Env:=zkw TT [(147,yIm)] []
theorem yQE:FrOk prog ⟨y0K,31,fun _=>none⟩ y0h:=zkA mixed yd ⟨y2s,trivial⟩
abbrev yyI:List Par:= [.pt tU .fz,.rd tI]
abbrev yy3:List OT:= [⟨false,tI,.fz⟩]
def yb (a0:dU) (a1:Int):Option (zaY yy3×zak yyI) :=bif(leb a1 0)then some ((0,()),(a0,())) else bif(leb a1 256)then bnd (ycf a0) fun r1 =>bif(a1 !=0)then some (((r1.1.1.tmod a1),()),(r1.2.1,())) else none else bnd (ycf a0) fun r2 =>bnd (ycf r2.2.1) fun r3 =>bnd (ycf r3.2.1) fun r4 =>bif(a1 !=0)then some ((((i64.wrap ((i64.wrap ((i64.wrap (r2.1.1*65536))+(i64.wrap (r3.1.1*256))))+r4.1.1)).tmod a1),()),(r4.2.1,())) else none
theorem yVm:ConOk prog 72 ⟨yyI,yy3,fun x=>yb x.1 x.2.1⟩:=zkI (yQE) func72 ntmps72.symm fun x=>by kernel_rfl
def ym:Con:=⟨yyI,yy3,fun x=>yb x.1 x.2.1⟩
theorem yv:ConOk prog 72 ym:=yVm
theorem yo (u:List Int×Int×Int) (n:Int) (h:yA u): ∃(r:Int) (u':List Int×Int×Int),yb u n=some ((r,()),(u',()))∧(0≤r∧(0<n→r<n)∧(n≤0→r=0))∧yA u':=by
 unfold yb;by_cases h0:n≤0
 ·rw[zk2 h0]
  exact⟨_,_,rfl,⟨Int.le_refl _,fun h=>absurd h0 (by omega),fun _=>rfl⟩,h⟩
 ·have hn:(n !=0)=true:=bne_iff_ne.2 (by omega)
  have key: ∀x:Int,0≤x→0≤x.tmod n∧(0<n→x.tmod n<n)∧(n≤0→x.tmod n=0):=fun x hx =>
   ⟨Int.tmod_nonneg n hx,fun hp=>Int.tmod_lt_of_pos x hp,fun hp=>absurd hp h0⟩
  rw[zk1 (by omega)];by_cases h1:n≤256
  ·rw[zk2 h1]
   obtain⟨r1,u1,e1,q1,d1⟩:=yPr u h;rw[e1,zkZ,zk0,zkH,hn];exact⟨_,_,rfl,key r1 q1.1,d1⟩
  ·rw[zk1 (by omega)]
   obtain⟨r1,u1,e1,q1,d1⟩:=yPr u h;obtain⟨r2,u2,e2,q2,d2⟩:=yPr u1 d1;obtain⟨r3,u3,e3,q3,d3⟩:=yPr u2 d2;simp only[e1,e2,e3,zkZ,zkH,hn,zk0];refine⟨_,_,rfl,key _ ?_,d3⟩;rw[wq (r1*65536) (by omega) (by omega),wq (r2*256) (by omega) (by omega),wq (r1*65536+r2*256) (by omega) (by omega),wr (by omega) (by omega)];omega
def y6d:Code:=(f82.body).getD .skip
def y6f:Env:=zkw TT [] []
theorem y02:FrOk prog ⟨y6f,15,fun _=>none⟩ y6d:=zkA mixed yd trivial
abbrev yJs:List Par:= [.rd tI,.rd tI,.rd tI]
abbrev yJw:List OT:= [⟨false,tB,.fz⟩]
def yLX (a0 a1 a2:Int):Option (zaY yJw×zak yJs) :=bif(leb a1 a0)then some (((leb a0 a2),()),()) else some ((false,()),())
theorem y4M:ConOk prog 82 ⟨yJs,yJw,fun x=>yLX x.1 x.2.1 x.2.2.1⟩:=zkI (y02) func82 ntmps82.symm fun x=>by kernel_rfl
def ya (a0 a1 a2:Int):Bool :=bif(leb a1 a0)then (leb a0 a2) else false
def yq:Con:=⟨yJs,yJw,fun x=>(fun n=>some ((n,()),())) (ya x.1 x.2.1 x.2.2.1)⟩
theorem y5T (a0 a1 a2:Int):yLX a0 a1 a2=(fun n=>some ((n,()),())) (ya a0 a1 a2):=zkV (p:=fun(n:Bool)=>((n,()),())) (zkG (p:=fun(n:Bool)=>((n,()),())) rfl rfl)
theorem yy:ConOk prog 82 yq:=(y4M).mono (fun x r _ h=>(y5T x.1 x.2.1 x.2.2.1).trans h)
theorem ywm {a b c:Int}:ya a b c=true↔b≤a∧a≤c:=by
 unfold ya;cases h:leb b a
 ·have:=mt zk2 (by rw[h]; simp: ¬leb b a=true)
  simp[this]
 ·simp[zj7,zj7.1 h]
theorem y8V {a b c:Int} (h:b≤a) (h2:a≤c):ya a b c=true:=ywm.2 ⟨h,h2⟩
theorem ybm (x a b:Int):ya x a b=(leb a x&&leb x b):=by
 unfold ya; cases leb a x<;>rfl
theorem yrR {x:Int} {n:Nat} (h:n≤1152921504606846976):ya x 0 (i64.wrap ((n:Int)-1))=inb x n:=by
 rw[wr (by omega) (by omega),Bool.eq_iff_iff,ywm,zj6]; omega
def y47:Code:=(f150.body).getD .skip
def y5m:Env:=zkw TT [(82,yq)] []
theorem yXy:FrOk prog ⟨y5m,11,fun _=>none⟩ y47:=zkA mixed yd ⟨yy,trivial⟩
abbrev yE8:List Par:= [.rd tG]
abbrev yFq:List OT:= [⟨false,tB,.fz⟩]
def yKM (a0:dG):Option (zaY yFq×zak yE8) :=let r1:=ya a0.1 3 5;bif r1 then let r2:=ya a0.2 1 8;some ((r2,()),()) else some ((false,()),())
theorem y1S:ConOk prog 150 ⟨yE8,yFq,fun x=>yKM x.1⟩:=zkI (yXy) func150 ntmps150.symm fun x=>by kernel_rfl
def yf (a0:dG):Bool :=let r1:=ya a0.1 3 5;bif r1 then let r2:=ya a0.2 1 8;r2 else false
def ygY:Con:=⟨yE8,yFq,fun x=>(fun n=>some ((n,()),())) (yf x.1)⟩
theorem y4y (a0:dG):yKM a0=(fun n=>some ((n,()),())) (yf a0):=zkV (p:=fun(n:Bool)=>((n,()),())) (zkG (p:=fun(n:Bool)=>((n,()),())) rfl rfl)
theorem ymA:ConOk prog 150 ygY:=(y1S).mono (fun x r _ h=>(y4y x.1).trans h)
theorem yk {a:Int×Int}:yf a=true↔(3≤a.1∧a.1≤5)∧1≤a.2∧a.2≤8:=by
 unfold yf;cases h:ya a.1 3 5
 ·have: ¬(3≤a.1∧a.1≤5):=fun e=>by rw[ywm.2 e]at h; simp at h
  simp[this]
 ·simp only[cond_true,ywm]
  exact⟨fun e=>⟨ywm.1 h,e⟩,fun e=>e.2⟩
def yhL (a:dA) (i:Nat):Bool:= !(yu (nth a.2.2.1 i yc))||((((nth a.2.2.1 i yc).1.length:Int) !=6+a.2.1.2)||((nth a.2.2.1 i yc).2.2.1&&(((i:Int) !=a.2.2.2.1)&& !a.2.2.2.2.2.2.2.2.2.2.2)))
def yml (a:dA):Bool:= !((List.range a.2.2.1.length).any (yhL a))&&(a.2.2.1.length:Int)==a.2.1.1
def yib (g:dG) (l:List dW) (i:Nat):Bool:= !(leb 0 (nth l i (0,[])).1&&leb (nth l i (0,[])).1 (g.2-1))||(((nth l i (0,[])).2.length:Int) !=g.1-1||(!((nth l i (0,[])).2.all isW)||(decide (0<i)&&leb (nth l i (0,[])).1 (nth l ((i-1:Nat):Int) (0,[])).1)))
def yaC (g:dG) (l:List dW):Bool:= !((List.range l.length).any (yib g l))
def yE (a:dA):Bool :=yf a.2.1&&((leb 1 a.1&&leb a.1 60000)&&(yml a&&(yaC a.2.1 a.2.2.2.2.2.2.2.2.1&&((leb (-1) a.2.2.2.1&&leb a.2.2.2.1 (a.2.1.1-1))&&((leb 0 a.2.2.2.2.1&&leb a.2.2.2.2.1 a.2.1.2)&&(!(a.2.2.2.1== -1&&a.2.2.2.2.1 !=0) && ((leb 0 a.2.2.2.2.2.2.1&&leb a.2.2.2.2.2.2.1 60000)&&((leb a.2.2.2.2.2.2.1 a.2.2.2.2.2.1&&leb a.2.2.2.2.2.1 60000)&&(leb a.2.2.2.2.2.1 (a.2.2.2.2.2.2.1+4)&&((leb 0 a.2.2.2.2.2.2.2.1&&leb a.2.2.2.2.2.2.2.1 60000)&&(leb (-1) a.2.2.2.2.2.2.2.2.2.1&&leb a.2.2.2.2.2.2.2.2.2.1 1000)))))))))))
theorem yjf {a:dA} (h:yE a=true):yf a.2.1=true:=(Bool.and_eq_true_iff.1 h).1
theorem yXc {a:dA} (h:yE a=true):yml a=true:=by simp only[yE,Bool.and_eq_true]at h; exact h.2.2.1
theorem yz3 {a:dA} (h:yE a=true):(a.2.2.1.length:Int)=a.2.1.1:=by have:=yXc h; simp only[yml,Bool.and_eq_true,beq_iff_eq]at this; exact this.2
theorem y24 {a:dA} (h:yml a=true) {i:Nat} (hi:i<a.2.2.1.length):yu (nth a.2.2.1 i yc)=true∧((nth a.2.2.1 i yc).1.length:Int)=6+a.2.1.2∧((nth a.2.2.1 i yc).2.2.1=true→(i:Int)=a.2.2.2.1∨a.2.2.2.2.2.2.2.2.2.2.2=true):=by
 simp only[yml,Bool.and_eq_true,Bool.not_eq_true',List.any_eq_false,List.mem_range]at h;have:=h.1 i hi;simp only[yhL,Bool.not_eq_true,Bool.or_eq_false_iff,Bool.not_eq_false',bne_eq_false_iff_eq,Bool.and_eq_false_iff]at this;refine⟨this.1,this.2.1,fun hf=> ?_⟩;rcases this.2.2 with h1 | h1 | h1
 ·rw[hf]at h1; cases h1
 ·exact .inl h1
 ·exact .inr h1
theorem yPp: ∀{l:List Int} {lo n:Int},l.Pairwise (· < ·)→(∀x∈l,lo≤x∧x<n)→lo≤n→(l.length:Int)≤n-lo
 | [],lo,n,_,_,h=>by simp; omega
 | x::l,lo,n,hp,hx,h=>by
  cases hp with
  | cons h1 h2 =>
   have h3:=hx x List.mem_cons_self;have:=yPp (l:=l) (lo:=x+1) (n:=n) h2 (fun y hy=>⟨h1 y hy,(hx y (List.mem_cons_of_mem _ hy)).2⟩) (by omega);rw[List.length_cons]; omega
theorem yoI {n:Nat} {l:List Int}:yp7 n l=true↔(∀x∈l,0≤x∧x<n)∧l.Pairwise (· < ·):=by
 simp only[yp7,Bool.and_eq_true,List.all_eq_true,zj6,decide_eq_true_eq]
theorem yzk {m:dM} (h1:m.1.all yam=true) (h2:m.2.1.all (yxh m.1.length)=true) (h3:yp7 m.1.length m.2.2.2=true) (h4:1≤m.1.length) (h5:m.1.length≤20) (h6:m.2.1.length≤60):yu m=true:=by
 simp only[yu,h1,h2,h3,Bool.true_and,Bool.and_eq_true,zj7];omega
theorem y6Y {m:dM} (b:Nat→Bool) (h:yu m=true):(ybI b m.2.1 m.1).all yam=true:=by
 obtain⟨h1,h2,_⟩:=yay h;rw[List.all_eq_true];exact y6k (P:=fun x=>yam x=true) (fun x hx=>List.all_eq_true.1 h1 x hx) (fun w hw=>(Bool.and_eq_true_iff.1 (List.all_eq_true.1 h2 w hw)).2)
theorem yV4 {m:dM} (n:Int) (s:List Int) (h:yu m=true):yu (yf9 m n s).1=true:=by
 unfold yf9;cases hc:yy8 m n s
 ·exact h
 ·simp only[yy8,Bool.and_eq_true,Bool.not_eq_true',zka]at hc
  obtain⟨h1,h2,h3,h4,h5,h6⟩:=yay h;refine yzk h1 ?_ ?_ h4 h5 (by show(m.2.1++ [(n,s)]).length≤60; rw[List.length_append]; simp only[List.length_cons,List.length_nil]; omega)
  ·show(m.2.1++ [(n,s)]).all (yxh m.1.length)=true
   rw[List.all_append,h2];simp[yxh,hc.2.2.1,hc.2.2.2.1]
  ·show yp7 m.1.length (y2I m.2.2.2 n)=true
   obtain⟨b1,b2⟩:=yoI.1 h3;exact yoI.2 ⟨fun x hx=>b1 x (List.mem_filter.1 hx).1,b2.filter _⟩
theorem y3j (m:dM) (n:Int) (s:List Int):(yf9 m n s).1.1=m.1∧(yf9 m n s).1.2.2.1=m.2.2.1:=by
 unfold yf9;cases yy8 m n s<;>exact⟨rfl,rfl⟩
theorem yS1 {m:dM} (h:yu m=true):yu (yeW m)=true:=by
 unfold yeW;cases hc:(yu m&& !m.2.2.1)
 ·exact h
 ·obtain⟨h1,h2,h3,h4,h5,h6⟩:=yay h
  refine yzk (y6Y _ h) rfl ?_ ?_ ?_ (Nat.zero_le _)
  ·show yp7 (ybI _ m.2.1 m.1).length m.2.2.2=true; rw[yzU]; exact h3
  ·show 1≤(ybI _ m.2.1 m.1).length; rw[yzU]; exact h4
  ·show(ybI _ m.2.1 m.1).length≤20; rw[yzU]; exact h5
theorem y2Y (m:dM):(yeW m).1.length=m.1.length∧(yeW m).2.2.1=m.2.2.1:=by
 unfold yeW;cases(yu m&& !m.2.2.1)
 ·exact⟨rfl,rfl⟩
 ·exact⟨yzU,rfl⟩
theorem y0X {m:dM} (h:yu m=true):yu (yub m)=true:=by
 obtain⟨h1,h2,h3,h4,h5,h6⟩:=yay h;exact yzk h1 rfl h3 h4 h5 (Nat.zero_le _)
def yap (l:List dM):Prop:= ∀m∈l,yu m=true
theorem ywB {l:List dM} {i:Nat} {x:dM} (h:yap l) (hx:yu x=true):yap (l.set i x):=fun m hm=>by
 rcases List.mem_or_eq_of_mem_set hm with h1 | rfl
 ·exact h m h1
 ·exact hx
theorem yOV {l:List dM} {m:Int} (h:yap l) (hm:inb m l.length=true):yu (nth l m yc)=true:=ye1 (P:=fun x=>yu x=true) hm h
theorem yKY {a:dA} (h:yE a=true):yap a.2.2.1:=fun m hm=>by
 obtain⟨i,hi,rfl⟩:=List.getElem_of_mem hm;have:=(y24 (yXc h) hi).1;rwa[zkS,zkJ hi]at this
def yX3 (g:dG):Bool:=decide ((-1000≤g.1∧g.1≤1000)∧ -1000≤g.2∧g.2≤1000)
theorem y2Z {g:dG} (h:(yf g||yX3 g)=true):(-1000≤g.1∧g.1≤1000)∧ -1000≤g.2∧g.2≤1000:=by
 rcases Bool.or_eq_true_iff.1 h with h | h
 ·have:=yk.1 h; omega
 ·exact of_decide_eq_true h
theorem y6J {α:Type} (A:List α) (y:α) (t:List α) (d:α):(A++y::t).getD A.length d=y:=by
 rw[List.getD_eq_getElem?_getD,List.getElem?_append_right (Nat.le_refl _),Nat.sub_self]; rfl
theorem y6N {α:Type} (A:List α) (y z:α) (t:List α):(A++y::t).set A.length z=A++z::t:=by
 rw[List.set_append_right _ _ (Nat.le_refl _),Nat.sub_self]; rfl
def yX6 (l:List Int) (n:Int):List Int:=l.filter (fun x=>ltb x n)++n::l.filter (fun x=>ltb n x)
def spoil (m:dM) (n:Int):dM:=bif yu m&&(inb n m.1.length&& !(m.2.2.2.any (· ==n)))then(m.1,m.2.1,m.2.2.1,yX6 m.2.2.2 n)else m
theorem y54 {l:List Int} {n:Int} (h:l.Pairwise (· < ·)) (hn:n∉l):l=l.filter (fun x=>ltb x n)++l.filter (fun x=>ltb n x):=by
 induction l with
 | nil=>rfl
 | cons x t ih =>
  obtain⟨hx,ht⟩:=List.pairwise_cons.1 h;simp only[List.mem_cons,not_or]at hn;rw[List.filter_cons,List.filter_cons];by_cases hlt:x<n
  ·rw[zky hlt,zk3 (show x≤n by omega)]
   simp only[if_true,Bool.false_eq_true,if_false,List.cons_append];rw[← ih ht hn.2]
  ·have h3:t.filter (fun x=>ltb x n)= []:=List.filter_eq_nil_iff.2 (fun y hy=>by rw[zk3 (by have:=hx y hy; omega)]; simp)
   have h4:t.filter (fun x=>ltb n x)=t:=List.filter_eq_self.2 (fun y hy=>zky (by have:=hx y hy; omega));rw[zk3 (show n≤x by omega),zky (show n<x by omega),h3,h4]; rfl
theorem yLF {m:dM} (n:Int) (h:yu m=true):yu (spoil m n)=true:=by
 unfold spoil;cases hc:(yu m&&(inb n m.1.length&& !(m.2.2.2.any (· ==n))))
 ·exact h
 ·simp only[Bool.and_eq_true]at hc
  have hi:=zj6.1 hc.2.1;obtain⟨h1,h2,h3,h4,h5,h6⟩:=yay h;rw[yoI]at h3;refine yzk h1 h2 ?_ h4 h5 h6;show yp7 m.1.length (yX6 m.2.2.2 n)=true;rw[yoI];unfold yX6;refine⟨fun x hx=> ?_,?_⟩
  ·rcases List.mem_append.1 hx with g | g
   ·exact h3.1 x (List.mem_filter.1 g).1
   ·rcases List.mem_cons.1 g with rfl | g
    ·exact hi
    ·exact h3.1 x (List.mem_filter.1 g).1
  ·rw[List.pairwise_append,List.pairwise_cons]
   refine⟨h3.2.filter _,⟨fun y hy=>zka.1 (List.mem_filter.1 hy).2,h3.2.filter _⟩,fun x hx y hy=> ?_⟩;have g1:=zka.1 (List.mem_filter.1 hx).2;rcases List.mem_cons.1 hy with rfl | hy
   ·exact g1
   ·exact Int.lt_trans g1 (zka.1 (List.mem_filter.1 hy).2)
theorem yJn (m:dM) (n:Int):(spoil m n).1=m.1∧(spoil m n).2.2.1=m.2.2.1:=by
 unfold spoil;cases(yu m&&(inb n m.1.length&& !(m.2.2.2.any (· ==n))))<;>exact⟨rfl,rfl⟩
def ycH (g:dG) (s:Int):Bool:=yf g&&(leb 0 s&&leb s (g.2-1))
def yh (g:dG) (s:Int):Int:=bif ycH g s then g.1-1-s.tmod g.1 else -1
def yfD (g:dG) (s i:Int):Int:=bif ycH g s&&(leb 0 i&&leb i (g.1-2))then(yh g s+1+i).tmod g.1 else -1
theorem ybD {g:dG} {s:Int}:ycH g s=true↔yf g=true∧0≤s∧s≤g.2-1:=by simp[ycH,zj7]
theorem yo5 {g:dG} {s:Int} (h:ycH g s=true):0≤yh g s∧yh g s≤g.1-1:=by
 have h1:=ybD.1 h;have h2:=yk.1 h1.1;unfold yh;rw[h,cond_true,Int.tmod_eq_emod_of_nonneg h1.2.1];have:=Int.emod_nonneg s (show g.1≠0 by omega);have:=Int.emod_lt_of_pos s (show 0<g.1 by omega);omega
theorem y6A {g:dG} {s i:Int} (h:ycH g s=true) (h1:0≤i) (h2:i≤g.1-2):0≤yfD g s i∧yfD g s i≤g.1-1:=by
 have h3:=yk.1 (ybD.1 h).1;have h4:=yo5 h;unfold yfD;rw[h,zk2 h1,zk2 h2,Bool.and_self,Bool.and_self,cond_true,Int.tmod_eq_emod_of_nonneg (by omega)];have:=Int.emod_nonneg (yh g s+1+i) (show g.1≠0 by omega);have:=Int.emod_lt_of_pos (yh g s+1+i) (show 0<g.1 by omega);omega
def yaj (p:Nat→Bool):Nat→Int
 | 0=> -1
 | n+1=>bif p n then yaj p n else n
def yYa (p:Nat→Bool) (n:Nat):Bool:=(List.range n).any (fun i=> !p i&&leb 0 (yaj p i))
theorem y25 (p:Nat→Bool): ∀n,yaj p n= -1∨(0≤yaj p n∧yaj p n<n∧p (yaj p n).toNat=false)
 | 0=> .inl rfl
 | n+1=>by
  unfold yaj;cases h:p n
  ·exact .inr ⟨by show(0:Int)≤n; omega,by show(n:Int)<_; omega,h⟩
  ·rcases y25 p n with h1 | h1
   ·exact .inl h1
   ·exact .inr ⟨h1.1,by show yaj p n<_; omega,h1.2.2⟩
def yaK (a:dA) (s:Int) (n:Nat):List Int:=(List.range n).map (fun(i:Nat)=>yLI a i s)
theorem yxg (a:dA) (s:Int) (n:Nat):(yaK a s n).length=n:=by unfold yaK; rw[List.length_map,List.length_range]
theorem y40 (a:dA) (s:Int) (n:Nat):yaK a s n++ [yLI a n s]=yaK a s (n+1):=by unfold yaK; rw[List.range_succ,List.map_append]; rfl
theorem y6v (a:dA) (s:Int) {i n:Nat} (h:i<n):nth (yaK a s n) i 0=yLI a i s:=by
 unfold yaK;rw[zkS,zkJ (by rw[List.length_map,List.length_range]; exact h)]; simp
def yaA (a:dA) (s:Int):List Int×Bool :=bif yYa (fun(i:Nat)=>yP a i s) a.2.1.1.toNat then([],false) else bif leb 0 (yaj (fun(i:Nat)=>yP a i s) a.2.1.1.toNat)then((yaK a s a.2.1.1.toNat).set (yaj (fun(i:Nat)=>yP a i s) a.2.1.1.toNat).toNat (yfZ (yaK a s a.2.1.1.toNat)),true) else(yaK a s a.2.1.1.toNat,true)
theorem y3i {a:dA} {s:Int} (h:(yaA a s).2=true):(yaA a s).1.length=a.2.1.1.toNat:=by
 unfold yaA at h ⊢;cases h1:yYa (fun(i:Nat)=>yP a i s) a.2.1.1.toNat
 ·cases leb 0 (yaj (fun(i:Nat)=>yP a i s) a.2.1.1.toNat)
  ·exact yxg _ _ _
  ·simp only[cond_false,cond_true,List.length_set]; exact yxg _ _ _
 ·rw[h1]at h; cases h
theorem y7u (a:dA) (s:Int) (n:Nat) (h:leb 0 (yaj (fun(i:Nat)=>yP a i s) n)=true):inb (yaj (fun(i:Nat)=>yP a i s) n) (yaK a s n).length=true∧yzl (yaK a s n) (yaj (fun(i:Nat)=>yP a i s) n)=yfZ (yaK a s n):=by
 rcases y25 (fun(i:Nat)=>yP a i s) n with h1 | h1
 ·rw[h1]at h; cases h
 ·have h2:inb (yaj (fun(i:Nat)=>yP a i s) n) (yaK a s n).length=true:=by rw[yxg,zj6]; exact⟨h1.1,h1.2.1⟩
  refine⟨h2,y7s h2 ?_⟩;have h3:=y6v a s (show(yaj (fun(i:Nat)=>yP a i s) n).toNat<n by omega);rw[show(((yaj (fun(i:Nat)=>yP a i s) n).toNat:Nat):Int)=yaj (fun(i:Nat)=>yP a i s) n by omega]at h3;rw[h3];unfold yLI
  have h4:yP a (yaj (fun(i:Nat)=>yP a i s) n) s=false:=by
   have:=h1.2.2;have this:yP a ((yaj (fun(i:Nat)=>yP a i s) n).toNat:Nat) s=false:=h1.2.2;rwa[show(((yaj (fun(i:Nat)=>yP a i s) n).toNat:Nat):Int)=yaj (fun(i:Nat)=>yP a i s) n by omega]at this
  rw[h4]; rfl
def yPq (a:dA) (s:Int):List Int×Bool:=bif(yaA a s).2 then((List.range (a.2.1.1-1).toNat).map (fun(i:Nat)=>nth (yaA a s).1 (yfD a.2.1 s i) 0),true)else([],false)
theorem y8p {x:Int} (h:isW x=true):(bv x).toNat<2^16:=by
 have:=y09.1 h;unfold bv;rw[BitVec.toNat_ofInt];omega
theorem y8s {v:BitVec 64} (h:v.toNat<2^16):isW v.toInt=true:=by
 rw[BitVec.toInt_eq_toNat_of_lt (by omega)];exact y09.2 (by omega)
theorem y8o: ∀(l:List Int),l.all isW=true→(yV6 l).toNat<2^16:=by
 intro l h
 have: ∀(l:List Int) (v:BitVec 64),v.toNat<2^16→l.all isW=true→(l.foldl (fun v x=>v ^^^ bv x) v).toNat<2^16:=by
  intro l
  induction l with
  | nil=>intro v hv _; exact hv
  | cons x t ih =>
   intro v hv h;simp only[List.all_cons,Bool.and_eq_true]at h;refine ih _ ?_ h.2;rw[BitVec.toNat_xor];exact Nat.xor_lt_two_pow hv (y8p h.1)
 exact this l 0#64 (by decide) h
theorem y7H {l:List Int} (h:l.all isW=true):isW (yfZ l)=true:=by
 rw[yV5]; exact y8s (y8o l h)
theorem yPo {l:List Int}:l.all isW=true↔ ∀x∈l,isW x=true:=by simp
theorem y6K {l:List Int} {i:Int} (h:l.all isW=true):isW (nth l i 0)=true:=by
 unfold nth;rw[List.getD_eq_getElem?_getD];cases e:l[i.toNat]? with
 | none=>rfl
 | some x=>exact yPo.1 h x (List.mem_of_getElem? e)
theorem y2J {l:List Int} {i:Nat} {x:Int} (h:l.all isW=true) (hx:isW x=true):(l.set i x).all isW=true:=by
 rw[yPo]at h ⊢;intro y hy;rcases List.mem_or_eq_of_mem_set hy with h1 | rfl
 ·exact h y h1
 ·exact hx
theorem y66 {m:dM} {n:Int} (h:(yr m n).2=true):yam (yr m n).1=true:=by
 unfold yr at h ⊢;cases hc:yEC m n
 ·rw[hc]at h; cases h
 ·simp only[yEC,Bool.and_eq_true]at hc
  obtain⟨h1,h2,h3,_,_,_⟩:=yay hc.1;refine yLr (P:=fun s=>yam s=true) ?_ fun w hw=> ?_
  ·exact ye1 (P:=fun s=>yam s=true) hc.2.2.1 (fun x hx=>List.all_eq_true.1 h1 x hx)
  ·have:=List.all_eq_true.1 h2 w hw
   simp only[yxh,Bool.and_eq_true]at this;exact this.2
theorem y8a (a:dA) (m s:Int):isW (yLI a m s)=true:=by
 unfold yLI;cases h:yP a m s
 ·rfl
 ·simp only[yP,Bool.and_eq_true]at h
  have:=y66 (m:=nth a.2.2.1 m yc) (n:=ycA s) h.2.1;simp only[yam,Bool.and_eq_true]at this;exact y6K this.2
theorem yHB (a:dA) (s:Int) (n:Nat):(yaK a s n).all isW=true:=by
 rw[yPo];unfold yaK;intro x hx;obtain⟨i,_,rfl⟩:=List.mem_map.1 hx;exact y8a a i s
theorem y7G (a:dA) (s:Int):(yaA a s).1.all isW=true:=by
 unfold yaA;cases yYa (fun(i:Nat)=>yP a i s) a.2.1.1.toNat
 ·cases leb 0 (yaj (fun(i:Nat)=>yP a i s) a.2.1.1.toNat)
  ·exact yHB _ _ _
  ·exact y2J (yHB _ _ _) (y7H (yHB _ _ _))
 ·rfl
theorem y2P (a:dA) (s:Int):(yPq a s).1.all isW=true:=by
 unfold yPq;cases(yaA a s).2
 ·rfl
 ·rw[yPo]
  intro x hx;obtain⟨i,_,rfl⟩:=List.mem_map.1 hx;exact y6K (y7G a s)
def y3I:Code:=(f226.body).getD .skip
def y4g:Env:=zkw TT [(82,yq)] []
theorem yTx:FrOk prog ⟨y4g,5,fun _=>none⟩ y3I:=zkA mixed yd ⟨yy,trivial⟩
abbrev yBQ:List Par:= [.rd tI]
abbrev yCp:List OT:= [⟨false,tB,.fz⟩]
def yJf (a0:Int):Option (zaY yCp×zak yBQ) :=let r1:=ya a0 0 65535;some ((r1,()),())
theorem yZb:ConOk prog 226 ⟨yBQ,yCp,fun x=>yJf x.1⟩:=zkI (yTx) func226 ntmps226.symm fun x=>by kernel_rfl
def yat (a0:Int):Bool :=let r1:=ya a0 0 65535;r1
def yIn:Con:=⟨yBQ,yCp,fun x=>(fun n=>some ((n,()),())) (yat x.1)⟩
theorem y1z (a0:Int):yJf a0=(fun n=>some ((n,()),())) (yat a0):=zkV (p:=fun(n:Bool)=>((n,()),())) rfl
theorem y2t:ConOk prog 226 yIn:=(yZb).mono (fun x r _ h=>(y1z x.1).trans h)
def ypG:Code:=(f200.body).getD .skip
def yys:Env:=zkw TT [(226,yIn)] []
theorem yQF:FrOk prog ⟨yys,16,fun _=>none⟩ ypG:=zkA mixed yd ⟨y2t,trivial⟩
def yER:Nat→Option Seg:=fun _=>none
def yd2:Shape:=⟨[(0,false,[.br tI]),(3,false,[.int .i64])],[],[]⟩
def yjS:Shape:=⟨[(0,false,[.br tI]),(3,false,[.ci .i64 0])],[],[]⟩
def yjQ:Shape:=⟨[],[],[]⟩
def yj2:Shape:=⟨[(2,false,[.bool])],[],[]⟩
def ypr (v0:List Int) (v1:Int):Option ((yd2).X ⊕ ((yjQ).X ⊕ (yj2).X)) :=bif(ltb v1 (v0.length:Int))then bif(inb v1 v0.length)then let r2:=yat (nth v0 v1 0);bif(!r2)then some (.inr (.inr (((false,()),()),(),()))) else some (.inl (((v0,()),((i64.wrap (v1+1)),()),()),(),())) else none else some (.inr (.inl ((),(),())))
def ycs (x:(yd2).X):=ypr x.1.1.1 x.1.2.1.1
def yAy (x:(yjS).X):(yd2).X:=(((x.1.1.1,()),(0,()),()),(),())
def yDl:Code:=(zd7 ypG 64 52).getD .skip
theorem yPY:zd7 ypG 64 13=some (.block 0 (.loop yDl)):=by kernel_rfl
theorem yR8 (x:(yd2).X):zhu ⟨yys,16,yER⟩ 0 yDl 52 yd2 yjQ yj2 x=ycs x:=by kernel_rfl
def yAQ (x:(yjS).X):Nat:=18446744073709551616
def yqB (x:(yjS).X):Option ((yjQ).X ⊕ (yj2).X):=zF ycs (yAQ x) (yAy x)
def yBk:Seg:=⟨yjS,yjQ,yj2,yqB⟩
def ySE:Nat→Option Seg:=fun q=>bif Nat.beq q 13 then some yBk else yER q
theorem yQG:FrOk prog ⟨yys,16,ySE⟩ ypG:=(yQF).loop (sg:=yBk) yd2 yAy (by decide) yPY ycs yAQ (by decide) (fun _=>rfl) (fun x r _ h=>h) yR8
abbrev ypU:List Par:= [.rd tL]
abbrev yy4:List OT:= [⟨false,tB,.fz⟩]
def ytJ (a0:List Int):Option (zaY yy4×zak ypU) :=zkt (yqB (((a0,()),((),()),()),(),())) (fun y2 =>some ((true,()),())) (fun y2 =>some ((y2.1.1.1,()),()))
theorem yVn:ConOk prog 200 ⟨ypU,yy4,fun x=>ytJ x.1⟩:=zkI (yQG) func200 ntmps200.symm fun x=>by kernel_rfl
def yX (a0:List Int):Bool:=a0.all yat
theorem yYD (a0:List Int) (hk:zjx ypU (a0,())):ytJ a0=(fun n=>some ((n,()),())) (yX a0):=by
 have hb:a0.length*8≤2^47:=hk.1.1
 have hl:yqB (((a0,()),((),()),()),(),())=some (bif a0.all yat then .inl ((),(),())else .inr (((false,()),()),(),())) :=
  zj9 (step:=ycs) a0 0 (fun i=>(((a0,()),((i:Int),()),()),(),())) yat _ _ (fun i hi=>by
   simp only[ycs,ypr,zkR hi,zkS,zky (show(i:Int)<a0.length by omega),cond_true,wq ((i:Int)+1) (by omega) (by omega),Int.natCast_add,Int.natCast_one]
   cases yat (a0.getD i 0)<;>rfl) (by simp only[ycs,ypr,zk3 (Int.le_refl _),cond_false]) _ (by show _<18446744073709551616; omega)
 unfold ytJ yX;rw[hl];cases a0.all yat<;>rfl
def yhK:Con:=⟨ypU,yy4,fun x=>(fun n=>some ((n,()),())) (yX x.1)⟩
theorem yoh:ConOk prog 200 yhK:=(yVn).mono (fun x r hk h=>(yYD x.1 hk).trans h)
def y49:Code:=(f202.body).getD .skip
def y5o:Env:=zkw TT [(200,yhK)] []
theorem yXE:FrOk prog ⟨y5o,10,fun _=>none⟩ y49:=zkA mixed yd ⟨yoh,trivial⟩
abbrev yFa:List Par:= [.rd tL]
abbrev yFt:List OT:= [⟨false,tB,.fz⟩]
def yKO (a0:List Int):Option (zaY yFt×zak yFa) :=bif(leb (a0.length:Int) 12)then let r1:=yX a0;some ((r1,()),()) else some ((false,()),())
theorem y1V:ConOk prog 202 ⟨yFa,yFt,fun x=>yKO x.1⟩:=zkI (yXE) func202 ntmps202.symm fun x=>by kernel_rfl
def yhP (a0:List Int):Bool :=bif(leb (a0.length:Int) 12)then let r1:=yX a0;r1 else false
def yzc:Con:=⟨yFa,yFt,fun x=>(fun n=>some ((n,()),())) (yhP x.1)⟩
theorem y4B (a0:List Int):yKO a0=(fun n=>some ((n,()),())) (yhP a0):=zkV (p:=fun(n:Bool)=>((n,()),())) (zkG (p:=fun(n:Bool)=>((n,()),())) rfl rfl)
theorem yLR:ConOk prog 202 yzc:=(y1V).mono (fun x r _ h=>(y4B x.1).trans h)
theorem yJI:yhP=yam:=funext fun s=>by
 unfold yhP yam yX;rw[show yat=isW from funext fun x=>by unfold yat; rw[ybm]; rfl];cases leb (s.length:Int) 12<;>rfl
def ycz:Code:=(f160.body).getD .skip
def yhb:Env:=zkw TT [(82,yq),(202,yzc)] []
theorem yXz:FrOk prog ⟨yhb,91,fun _=>none⟩ ycz:=zkA mixed yd ⟨yy,yLR,trivial⟩
def yJO:Nat→Option Seg:=fun _=>none
def ydx:Shape:=⟨[(1,false,[.ptr 0 0]),(3,false,[.int .i64]),(4,false,[.int .i64])],[(0,[.br tL,.br tW,.bool,.br tI])],[]⟩
def yiP:Shape:=⟨[(1,false,[.ptr 0 0]),(3,false,[.int .i64]),(4,false,[.ci .i64 0])],[(0,[.br tL,.br tW,.bool,.br tI])],[]⟩
def yiA:Shape:=⟨[(1,false,[.ptr 0 0]),(3,false,[.int .i64])],[(0,[.br tL,.br tW,.bool,.br tI])],[]⟩
def yja:Shape:=⟨[(2,false,[.bool])],[],[]⟩
abbrev ytf (v0 v1:Int) (v2:dM):(ydx).X:=((((),()),(v0,()),(v1,()),()),((v2.1,v2.2.1,v2.2.2.1,v2.2.2.2,()),()),())
abbrev yUg (v0:Int) (v1:dM):(yiP).X:=((((),()),(v0,()),((),()),()),((v1.1,v1.2.1,v1.2.2.1,v1.2.2.2,()),()),())
abbrev yT6 (v0:Int) (v1:dM):(yiA).X:=((((),()),(v0,()),()),((v1.1,v1.2.1,v1.2.2.1,v1.2.2.2,()),()),())
abbrev yUt (v0:Bool):(yja).X:=(((v0,()),()),(),())
def ytV (v0 v1:Int) (v2:List (List Int)) (v3:List dW) (v4:Bool) (v5:List Int):Option ((ydx).X ⊕ ((yiA).X ⊕ (yja).X)) :=bif(ltb v1 v0)then bif(inb v1 v2.length)then let r2:=yhP (nth v2 v1 []);bif(!r2)then some (.inr (.inr (((false,()),()),(),()))) else some (.inl ((((),()),(v0,()),((i64.wrap (v1+1)),()),()),((v2,v3,v4,v5,()),()),())) else none else some (.inr (.inl ((((),()),(v0,()),()),((v2,v3,v4,v5,()),()),())))
def yea (x:(ydx).X):=ytV x.1.2.1.1 x.1.2.2.1.1 x.2.1.1.1 x.2.1.1.2.1 x.2.1.1.2.2.1 x.2.1.1.2.2.2.1
def yGi (x:(yiP).X):(ydx).X:=((((),()),(x.1.2.1.1,()),(0,()),()),((x.2.1.1.1,x.2.1.1.2.1,x.2.1.1.2.2.1,x.2.1.1.2.2.2.1,()),()),())
def yH0:Code:=(zd7 ycz 64 116).getD .skip
theorem yW2:zd7 ycz 64 29=some (.block 0 (.loop yH0)):=by kernel_rfl
theorem yZS (x:(ydx).X):zhu ⟨yhb,91,yJO⟩ 0 yH0 116 ydx yiA yja x=yea x:=by kernel_rfl
def yGy (x:(yiP).X):Nat:=18446744073709551616
def yuN (x:(yiP).X):Option ((yiA).X ⊕ (yja).X):=zF yea (yGy x) (yGi x)
def yHp:Seg:=⟨yiP,yiA,yja,yuN⟩
def yyh:Nat→Option Seg:=fun q=>bif Nat.beq q 29 then some yHp else yJO q
theorem yXA:FrOk prog ⟨yhb,91,yyh⟩ ycz:=(yXz).loop (sg:=yHp) ydx yGi (by decide) yW2 yea yGy (by decide) (fun _=>rfl) (fun x r _ h=>h) yZS
def ydy:Shape:=⟨[(1,false,[.ptr 0 0]),(3,false,[.int .i64]),(5,false,[.int .i64])],[(0,[.br tL,.br tW,.bool,.br tI])],[]⟩
def yiQ:Shape:=⟨[(1,false,[.ptr 0 0]),(3,false,[.int .i64]),(5,false,[.ci .i64 0])],[(0,[.br tL,.br tW,.bool,.br tI])],[]⟩
def yiB:Shape:=⟨[(1,false,[.ptr 0 0]),(3,false,[.int .i64])],[(0,[.br tL,.br tW,.bool,.br tI])],[]⟩
def yjb:Shape:=⟨[(2,false,[.bool])],[],[]⟩
abbrev ytg (v0 v1:Int) (v2:dM):(ydy).X:=((((),()),(v0,()),(v1,()),()),((v2.1,v2.2.1,v2.2.2.1,v2.2.2.2,()),()),())
abbrev yUh (v0:Int) (v1:dM):(yiQ).X:=((((),()),(v0,()),((),()),()),((v1.1,v1.2.1,v1.2.2.1,v1.2.2.2,()),()),())
abbrev yT7 (v0:Int) (v1:dM):(yiB).X:=((((),()),(v0,()),()),((v1.1,v1.2.1,v1.2.2.1,v1.2.2.2,()),()),())
abbrev yUu (v0:Bool):(yjb).X:=(((v0,()),()),(),())
def ytW (v0 v1:Int) (v2:List (List Int)) (v3:List dW) (v4:Bool) (v5:List Int):Option ((ydy).X ⊕ ((yiB).X ⊕ (yjb).X)) :=bif(ltb v1 (v3.length:Int))then bif(inb v1 v3.length)then let r6:=ya ((nth v3 v1 (0,[])).1) 0 (i64.wrap (v0-1));bif(!(!r6))then bif(inb v1 v3.length)then let r7:=yhP ((nth v3 v1 (0,[])).2);bif(!r7)then some (.inr (.inr (((false,()),()),(),()))) else some (.inl ((((),()),(v0,()),((i64.wrap (v1+1)),()),()),((v2,v3,v4,v5,()),()),())) else none else some (.inr (.inr (((false,()),()),(),()))) else none else some (.inr (.inl ((((),()),(v0,()),()),((v2,v3,v4,v5,()),()),())))
def yeb (x:(ydy).X):=ytW x.1.2.1.1 x.1.2.2.1.1 x.2.1.1.1 x.2.1.1.2.1 x.2.1.1.2.2.1 x.2.1.1.2.2.2.1
def yGj (x:(yiQ).X):(ydy).X:=((((),()),(x.1.2.1.1,()),(0,()),()),((x.2.1.1.1,x.2.1.1.2.1,x.2.1.1.2.2.1,x.2.1.1.2.2.2.1,()),()),())
def yH1:Code:=(zd7 ycz 64 244).getD .skip
theorem yW3:zd7 ycz 64 61=some (.block 2 (.loop yH1)):=by kernel_rfl
theorem yZT (x:(ydy).X):zhu ⟨yhb,91,yyh⟩ 2 yH1 244 ydy yiB yjb x=yeb x:=by kernel_rfl
def yGz (x:(yiQ).X):Nat:=18446744073709551616
def yuO (x:(yiQ).X):Option ((yiB).X ⊕ (yjb).X):=zF yeb (yGz x) (yGj x)
def yHq:Seg:=⟨yiQ,yiB,yjb,yuO⟩
def yyi:Nat→Option Seg:=fun q=>bif Nat.beq q 61 then some yHq else yyh q
theorem yXB:FrOk prog ⟨yhb,91,yyi⟩ ycz:=(yXA).loop (sg:=yHq) ydy yGj (by decide) yW3 yeb yGz (by decide) (fun _=>rfl) (fun x r _ h=>h) yZT
def ycM:Shape:=⟨[(1,false,[.ptr 0 0]),(3,false,[.int .i64]),(6,false,[.int .i64])],[(0,[.br tL,.br tW,.bool,.br tI])],[]⟩
def yhv:Shape:=⟨[(1,false,[.ptr 0 0]),(3,false,[.int .i64]),(6,false,[.ci .i64 0])],[(0,[.br tL,.br tW,.bool,.br tI])],[]⟩
def yhi:Shape:=⟨[(1,false,[.ptr 0 0]),(3,false,[.int .i64])],[(0,[.br tL,.br tW,.bool,.br tI])],[]⟩
def yhG:Shape:=⟨[(2,false,[.bool])],[],[]⟩
abbrev yq1 (v0 v1:Int) (v2:dM):(ycM).X:=((((),()),(v0,()),(v1,()),()),((v2.1,v2.2.1,v2.2.2.1,v2.2.2.2,()),()),())
abbrev yQ2 (v0:Int) (v1:dM):(yhv).X:=((((),()),(v0,()),((),()),()),((v1.1,v1.2.1,v1.2.2.1,v1.2.2.2,()),()),())
abbrev yQT (v0:Int) (v1:dM):(yhi).X:=((((),()),(v0,()),()),((v1.1,v1.2.1,v1.2.2.1,v1.2.2.2,()),()),())
abbrev yRb (v0:Bool):(yhG).X:=(((v0,()),()),(),())
def yrE (v0 v1:Int) (v2:List (List Int)) (v3:List dW) (v4:Bool) (v5:List Int):Option ((ycM).X ⊕ ((yhi).X ⊕ (yhG).X)) :=bif(ltb v1 (v5.length:Int))then bif(inb v1 v5.length)then let r10:=ya (nth v5 v1 0) 0 (i64.wrap (v0-1));bif(!(!r10))then bif(ltb 0 v1)then bif(inb (i64.wrap (v1-1)) v5.length)then bif(inb v1 v5.length)then bif(leb (nth v5 v1 0) (nth v5 (i64.wrap (v1-1)) 0))then some (.inr (.inr (((false,()),()),(),()))) else some (.inl ((((),()),(v0,()),((i64.wrap (v1+1)),()),()),((v2,v3,v4,v5,()),()),())) else none else none else some (.inl ((((),()),(v0,()),((i64.wrap (v1+1)),()),()),((v2,v3,v4,v5,()),()),())) else some (.inr (.inr (((false,()),()),(),()))) else none else some (.inr (.inl ((((),()),(v0,()),()),((v2,v3,v4,v5,()),()),())))
def ydi (x:(ycM).X):=yrE x.1.2.1.1 x.1.2.2.1.1 x.2.1.1.1 x.2.1.1.2.1 x.2.1.1.2.2.1 x.2.1.1.2.2.2.1
def yDK (x:(yhv).X):(ycM).X:=((((),()),(x.1.2.1.1,()),(0,()),()),((x.2.1.1.1,x.2.1.1.2.1,x.2.1.1.2.2.1,x.2.1.1.2.2.2.1,()),()),())
def yFL:Code:=(zd7 ycz 64 500).getD .skip
theorem ySO:zd7 ycz 64 125=some (.block 4 (.loop yFL)):=by kernel_rfl
theorem yVT (x:(ycM).X):zhu ⟨yhb,91,yyi⟩ 4 yFL 500 ycM yhi yhG x=ydi x:=by kernel_rfl
def yDX (x:(yhv).X):Nat:=18446744073709551616
def ysJ (x:(yhv).X):Option ((yhi).X ⊕ (yhG).X):=zF ydi (yDX x) (yDK x)
def yEj:Seg:=⟨yhv,yhi,yhG,ysJ⟩
def y0p:Nat→Option Seg:=fun q=>bif Nat.beq q 125 then some yEj else yyi q
theorem yXC:FrOk prog ⟨yhb,91,y0p⟩ ycz:=(yXB).loop (sg:=yEj) ycM yDK (by decide) ySO ydi yDX (by decide) (fun _=>rfl) (fun x r _ h=>h) yVT
abbrev yu6:List Par:= [.rd tM]
abbrev yFr:List OT:= [⟨false,tB,.fz⟩]
def yzD (a0:dM):Option (zaY yFr×zak yu6) :=zkt (yuN ((((),()),((a0.1.length:Int),()),((),()),()),((a0.1,a0.2.1,a0.2.2.1,a0.2.2.2,()),()),())) (fun y2 =>zkt (yuO ((((),()),(y2.1.2.1.1,()),((),()),()),((y2.2.1.1.1,y2.2.1.1.2.1,y2.2.1.1.2.2.1,y2.2.1.1.2.2.2.1,()),()),())) (fun y7 =>zkt (ysJ ((((),()),(y7.1.2.1.1,()),((),()),()),((y7.2.1.1.1,y7.2.1.1.2.1,y7.2.1.1.2.2.1,y7.2.1.1.2.2.2.1,()),()),())) (fun y10 =>let r12:=ya y10.1.2.1.1 1 20;bif r12 then some (((leb (y10.2.1.1.2.1.length:Int) 60),()),()) else some ((false,()),())) (fun y10 =>some ((y10.1.1.1,()),()))) (fun y7 =>some ((y7.1.1.1,()),()))) (fun y2 =>some ((y2.1.1.1,()),()))
theorem y1T:ConOk prog 160 ⟨yu6,yFr,fun x=>yzD x.1⟩:=zkI (yXC) func160 ntmps160.symm fun x=>by kernel_rfl
def yab (a0:dM):Bool:=yu a0
theorem y4z (a0:dM) (hk:zjx yu6 (a0,())):yzD a0=(fun n=>some ((n,()),())) (yab a0):=by
 have hb1:a0.1.length*24≤2^47:=hk.1.1.1;have hb2:a0.2.1.length*32≤2^47:=hk.1.2.1.1;have hb3:a0.2.2.2.length*8≤2^47:=hk.1.2.2.2.1
 have h1:yuN (yUg a0.1.length a0)=some (bif a0.1.all yam then .inl (yT6 a0.1.length a0)else .inr (yUt false)) :=
  zj9 (step:=yea) a0.1 [] (fun i=>ytf a0.1.length i a0) yam _ _ (fun i hi=>by
   simp only[yea,ytf,ytV,zky (show(i:Int)<a0.1.length by omega),cond_true,wq ((i:Int)+1) (by omega) (by omega),Int.natCast_add,Int.natCast_one,Int.toNat_natCast,zkR hi,zkS,yJI]
   cases yam (a0.1.getD i [])<;>rfl) (by simp only[yea,ytf,ytV,zk3 (Int.le_refl _),cond_false]) _ (by show _<18446744073709551616; omega)
 have h2:yuO (yUh a0.1.length a0)=some (bif a0.2.1.all (yxh a0.1.length)then .inl (yT7 a0.1.length a0)else .inr (yUu false)) :=
  zj9 (step:=yeb) a0.2.1 (0,[]) (fun i=>ytg a0.1.length i a0) (yxh a0.1.length) _ _ (fun i hi=>by
   simp only[yeb,ytg,ytW,zky (show(i:Int)<a0.2.1.length by omega),cond_true,wq ((i:Int)+1) (by omega) (by omega),Int.natCast_add,Int.natCast_one,Int.toNat_natCast,zkR hi,zkS,yJI,yrR (show a0.1.length≤1152921504606846976 by omega),yxh]
   cases inb (a0.2.1.getD i (0,[])).1 a0.1.length<;>cases yam (a0.2.1.getD i (0,[])).2<;>rfl) (by simp only[yeb,ytg,ytW,zk3 (Int.le_refl _),cond_false]) _ (by show _<18446744073709551616; omega)
 have h3:ysJ (yQ2 a0.1.length a0)=some (bif(List.range a0.2.2.2.length).any (yHT a0.1.length a0.2.2.2)then .inr (yRb false)else .inl (yQT a0.1.length a0)) :=
  zji (step:=ydi) (fun i=>yq1 a0.1.length i a0) a0.2.2.2.length (yHT a0.1.length a0.2.2.2) _ _ (fun i hi=>by
   simp only[ydi,yq1,yrE,zky (show(i:Int)<a0.2.2.2.length by omega),cond_true,wq ((i:Int)+1) (by omega) (by omega),Int.natCast_add,Int.natCast_one,Int.toNat_natCast,zkR hi,zkS,yrR (show a0.1.length≤1152921504606846976 by omega),yHT];rcases Nat.eq_zero_or_pos i with rfl | h0
   ·cases inb (a0.2.2.2.getD 0 0) a0.1.length<;>rfl
   ·rw[show i64.wrap ((i:Int)-1)=((i-1:Nat):Int)by rw[wr (by omega) (by omega)]; omega,zkR (show i-1<a0.2.2.2.length by omega),zkS,zky (show(0:Int)<i by omega),decide_eq_true h0]
    cases inb (a0.2.2.2.getD i 0) a0.1.length<;>cases leb (a0.2.2.2.getD i 0) (a0.2.2.2.getD (i-1) 0)<;>rfl) (by simp only[ydi,yq1,yrE,zk3 (Int.le_refl _),cond_false]) _ (by show _<18446744073709551616; omega)
 unfold yzD yab yu;rw[h1];cases a0.1.all yam
 ·rfl
 simp only[cond_true,zkN,h2];cases a0.2.1.all (yxh a0.1.length)
 ·rfl
 simp only[cond_true,zkN,h3,y2N,ybm];cases yp7 a0.1.length a0.2.2.2
 ·rfl
 simp only[Bool.not_true,cond_false,zkN];cases leb 1 (a0.1.length:Int)<;>cases leb (a0.1.length:Int) 20<;>rfl
def yeV:Con:=⟨yu6,yFr,fun x=>(fun n=>some ((n,()),())) (yab x.1)⟩
theorem yif:ConOk prog 160 yeV:=(y1T).mono (fun x r hk h=>(y4z x.1 hk).trans h)
def y3K:Code:=(f178.body).getD .skip
def y4i:Env:=zkw TT [] []
theorem yTN:FrOk prog ⟨y4i,6,fun _=>none⟩ y3K:=zkA mixed yd trivial
abbrev yBU:List Par:= [.rd tG]
abbrev yCv:List OT:= [⟨false,tI,.fz⟩]
def yJg (a0:dG):Option (zaY yCv×zak yBU) :=some (((i64.wrap (6+a0.2)),()),())
theorem yZj:ConOk prog 178 ⟨yBU,yCv,fun x=>yJg x.1⟩:=zkI (yTN) func178 ntmps178.symm fun x=>by kernel_rfl
def ycG (a0:dG):Int :=(i64.wrap (6+a0.2))
def yn8:Con:=⟨yBU,yCv,fun x=>(fun n=>some ((n,()),())) (ycG x.1)⟩
theorem y1E (a0:dG):yJg a0=(fun n=>some ((n,()),())) (ycG a0):=zkV (p:=fun(n:Int)=>((n,()),())) rfl
theorem yzp:ConOk prog 178 yn8:=(yZj).mono (fun x r _ h=>(y1E x.1).trans h)
def yr1:Code:=(f151.body).getD .skip
def yBv:Env:=zkw TT [(160,yeV),(178,yn8)] []
theorem yTL:FrOk prog ⟨yBv,51,fun _=>none⟩ yr1:=zkA mixed yd ⟨yif,yzp,trivial⟩
def yHN:Nat→Option Seg:=fun _=>none
def ycT:Shape:=⟨[(1,false,[.ptr 0 0]),(3,false,[.int .i64])],[(0,[.int .i64,.int .i64,.int .i64,.br tM,.int .i64,.int .i64,.int .i64,.int .i64,.int .i64,.br tW,.int .i64,.bool,.bool])],[]⟩
def yhC:Shape:=⟨[(1,false,[.ptr 0 0]),(3,false,[.ci .i64 0])],[(0,[.int .i64,.int .i64,.int .i64,.br tM,.int .i64,.int .i64,.int .i64,.int .i64,.int .i64,.br tW,.int .i64,.bool,.bool])],[]⟩
def yhp:Shape:=⟨[(1,false,[.ptr 0 0])],[(0,[.int .i64,.int .i64,.int .i64,.br tM,.int .i64,.int .i64,.int .i64,.int .i64,.int .i64,.br tW,.int .i64,.bool,.bool])],[]⟩
def yhH:Shape:=⟨[(2,false,[.bool])],[],[]⟩
abbrev yq6 (v0:Int) (v1:dA):(ycT).X:=((((),()),(v0,()),()),((v1.1,v1.2.1.1,v1.2.1.2,v1.2.2.1,v1.2.2.2.1,v1.2.2.2.2.1,v1.2.2.2.2.2.1,v1.2.2.2.2.2.2.1,v1.2.2.2.2.2.2.2.1,v1.2.2.2.2.2.2.2.2.1,v1.2.2.2.2.2.2.2.2.2.1,v1.2.2.2.2.2.2.2.2.2.2.1,v1.2.2.2.2.2.2.2.2.2.2.2,()),()),())
abbrev yQ8 (v0:dA):(yhC).X:=((((),()),((),()),()),((v0.1,v0.2.1.1,v0.2.1.2,v0.2.2.1,v0.2.2.2.1,v0.2.2.2.2.1,v0.2.2.2.2.2.1,v0.2.2.2.2.2.2.1,v0.2.2.2.2.2.2.2.1,v0.2.2.2.2.2.2.2.2.1,v0.2.2.2.2.2.2.2.2.2.1,v0.2.2.2.2.2.2.2.2.2.2.1,v0.2.2.2.2.2.2.2.2.2.2.2,()),()),())
abbrev yQX (v0:dA):(yhp).X:=((((),()),()),((v0.1,v0.2.1.1,v0.2.1.2,v0.2.2.1,v0.2.2.2.1,v0.2.2.2.2.1,v0.2.2.2.2.2.1,v0.2.2.2.2.2.2.1,v0.2.2.2.2.2.2.2.1,v0.2.2.2.2.2.2.2.2.1,v0.2.2.2.2.2.2.2.2.2.1,v0.2.2.2.2.2.2.2.2.2.2.1,v0.2.2.2.2.2.2.2.2.2.2.2,()),()),())
abbrev yRc (v0:Bool):(yhH).X:=(((v0,()),()),(),())
def yrK (v0 v1 v2 v3:Int) (v4:List dM) (v5 v6 v7 v8 v9:Int) (v10:List dW) (v11:Int) (v12 v13:Bool):Option ((ycT).X ⊕ ((yhp).X ⊕ (yhH).X)) :=bif(ltb v0 (v4.length:Int))then bif(inb v0 v4.length)then let r3:=yab ((nth v4 v0 ([],[],false,[])).1,((nth v4 v0 ([],[],false,[])).2).1,(((nth v4 v0 ([],[],false,[])).2).2));bif(!(!r3))then let r4:=ycG (v2,v3);bif(!((((nth v4 v0 ([],[],false,[])).1).length:Int) !=r4))then bif(((nth v4 v0 ([],[],false,[])).2).2).1 then bif(v0 !=v5)then bif(!v13)then some (.inr (.inr (((false,()),()),(),()))) else some (.inl ((((),()),((i64.wrap (v0+1)),()),()),((v1,v2,v3,v4,v5,v6,v7,v8,v9,v10,v11,v12,v13,()),()),())) else some (.inl ((((),()),((i64.wrap (v0+1)),()),()),((v1,v2,v3,v4,v5,v6,v7,v8,v9,v10,v11,v12,v13,()),()),())) else some (.inl ((((),()),((i64.wrap (v0+1)),()),()),((v1,v2,v3,v4,v5,v6,v7,v8,v9,v10,v11,v12,v13,()),()),())) else some (.inr (.inr (((false,()),()),(),()))) else some (.inr (.inr (((false,()),()),(),()))) else none else some (.inr (.inl ((((),()),()),((v1,v2,v3,v4,v5,v6,v7,v8,v9,v10,v11,v12,v13,()),()),())))
def ydn (x:(ycT).X):=yrK x.1.2.1.1 x.2.1.1.1 x.2.1.1.2.1 x.2.1.1.2.2.1 x.2.1.1.2.2.2.1 x.2.1.1.2.2.2.2.1 x.2.1.1.2.2.2.2.2.1 x.2.1.1.2.2.2.2.2.2.1 x.2.1.1.2.2.2.2.2.2.2.1 x.2.1.1.2.2.2.2.2.2.2.2.1 x.2.1.1.2.2.2.2.2.2.2.2.2.1 x.2.1.1.2.2.2.2.2.2.2.2.2.2.1 x.2.1.1.2.2.2.2.2.2.2.2.2.2.2.1 x.2.1.1.2.2.2.2.2.2.2.2.2.2.2.2.1
def yDR (x:(yhC).X):(ycT).X:=((((),()),(0,()),()),((x.2.1.1.1,x.2.1.1.2.1,x.2.1.1.2.2.1,x.2.1.1.2.2.2.1,x.2.1.1.2.2.2.2.1,x.2.1.1.2.2.2.2.2.1,x.2.1.1.2.2.2.2.2.2.1,x.2.1.1.2.2.2.2.2.2.2.1,x.2.1.1.2.2.2.2.2.2.2.2.1,x.2.1.1.2.2.2.2.2.2.2.2.2.1,x.2.1.1.2.2.2.2.2.2.2.2.2.2.1,x.2.1.1.2.2.2.2.2.2.2.2.2.2.2.1,x.2.1.1.2.2.2.2.2.2.2.2.2.2.2.2.1,()),()),())
def yFS:Code:=(zd7 yr1 64 52).getD .skip
theorem ySV:zd7 yr1 64 13=some (.block 0 (.loop yFS)):=by kernel_rfl
theorem yV0 (x:(ycT).X):zhu ⟨yBv,51,yHN⟩ 0 yFS 52 ycT yhp yhH x=ydn x:=by kernel_rfl
def yD4 (x:(yhC).X):Nat:=18446744073709551616
def ysP (x:(yhC).X):Option ((yhp).X ⊕ (yhH).X):=zF ydn (yD4 x) (yDR x)
def yEq:Seg:=⟨yhC,yhp,yhH,ysP⟩
def yWy:Nat→Option Seg:=fun q=>bif Nat.beq q 13 then some yEq else yHN q
theorem yTM:FrOk prog ⟨yBv,51,yWy⟩ yr1:=(yTL).loop (sg:=yEq) ycT yDR (by decide) ySV ydn yD4 (by decide) (fun _=>rfl) (fun x r _ h=>h) yV0
abbrev ymf:List Par:= [.rd tA]
abbrev ysq:List OT:= [⟨false,tB,.fz⟩]
def ywW (a0:dA):Option (zaY ysq×zak ymf) :=zkt (ysP ((((),()),((),()),()),((a0.1,a0.2.1.1,a0.2.1.2,a0.2.2.1,a0.2.2.2.1,a0.2.2.2.2.1,a0.2.2.2.2.2.1,a0.2.2.2.2.2.2.1,a0.2.2.2.2.2.2.2.1,a0.2.2.2.2.2.2.2.2.1,a0.2.2.2.2.2.2.2.2.2.1,a0.2.2.2.2.2.2.2.2.2.2.1,a0.2.2.2.2.2.2.2.2.2.2.2,()),()),())) (fun y4 =>some ((((y4.2.1.1.2.2.2.1.length:Int)==y4.2.1.1.2.1),()),())) (fun y4 =>some ((y4.1.1.1,()),()))
theorem yZi:ConOk prog 151 ⟨ymf,ysq,fun x=>ywW x.1⟩:=zkI (yTM) func151 ntmps151.symm fun x=>by kernel_rfl
def ymx (a0:dA):Bool:=yml a0
def yCR (a0:dA):Bool:=yf a0.2.1
theorem y1D (a0:dA) (hk:zjx ymf (a0,())) (hq:yCR a0=true):ywW a0=(fun n=>some ((n,()),())) (ymx a0):=by
 have hb:a0.2.2.1.length*80≤2^47:=hk.1.2.2.1.1;have hg:=yk.1 hq
 have h1:ysP (yQ8 a0)=some (bif(List.range a0.2.2.1.length).any (yhL a0)then .inr (yRc false)else .inl (yQX a0)) :=
  zji (step:=ydn) (fun i=>yq6 i a0) a0.2.2.1.length (yhL a0) _ _ (fun i hi=>by
   simp only[ydn,yq6,yrK,zky (show(i:Int)<a0.2.2.1.length by omega),cond_true,wq ((i:Int)+1) (by omega) (by omega),Int.natCast_add,Int.natCast_one,Int.toNat_natCast,zkR hi,zkX,yab,yhL,ycG,wq (6+a0.2.1.2) (by omega) (by omega),yc]
   cases yu (nth a0.2.2.1 i ([],[],false,[]))<;>cases(((nth a0.2.2.1 i ([],[],false,[])).1.length:Int) !=6+a0.2.1.2)<;>cases(nth a0.2.2.1 i ([],[],false,[])).2.2.1<;>cases((i:Int) !=a0.2.2.2.1)<;>cases a0.2.2.2.2.2.2.2.2.2.2.2<;>rfl) (by simp only[ydn,yq6,yrK,zk3 (Int.le_refl _),cond_false]) _ (by show _<18446744073709551616; omega)
 unfold ywW ymx yml;rw[h1];cases(List.range a0.2.2.1.length).any (yhL a0)<;>rfl
def ysw (a0:dA):Option (zaY ysq×zak ymf):=bif yCR a0 then(fun n=>some ((n,()),())) (ymx a0)else none
theorem y2D (a0:dA) (h:yCR a0=true):ysw a0=(fun n=>some ((n,()),())) (ymx a0):=by unfold ysw; rw[h]; rfl
def yIr:Con:=⟨ymf,ysq,fun x=>ysw x.1⟩
theorem y2x:ConOk prog 151 yIr:=(yZi).mono (fun x r hk h=>zkY h (fun hq=>y1D x.1 hk hq))
def ypH:Code:=(f152.body).getD .skip
def yyt:Env:=zkw TT [(82,yq),(200,yhK)] []
theorem yQH:FrOk prog ⟨yyt,57,fun _=>none⟩ ypH:=zkA mixed yd ⟨yy,yoh,trivial⟩
def yES:Nat→Option Seg:=fun _=>none
def yb6:Shape:=⟨[(1,false,[.ptr 0 0]),(3,false,[.int .i64])],[(0,[.int .i64,.int .i64,.int .i64,.br tM,.int .i64,.int .i64,.int .i64,.int .i64,.int .i64,.br tW,.int .i64,.bool,.bool])],[]⟩
def ygB:Shape:=⟨[(1,false,[.ptr 0 0]),(3,false,[.ci .i64 0])],[(0,[.int .i64,.int .i64,.int .i64,.br tM,.int .i64,.int .i64,.int .i64,.int .i64,.int .i64,.br tW,.int .i64,.bool,.bool])],[]⟩
def ygm:Shape:=⟨[],[],[]⟩
def ygI:Shape:=⟨[(2,false,[.bool])],[],[]⟩
abbrev yoY (v0:Int) (v1:dA):(yb6).X:=((((),()),(v0,()),()),((v1.1,v1.2.1.1,v1.2.1.2,v1.2.2.1,v1.2.2.2.1,v1.2.2.2.2.1,v1.2.2.2.2.2.1,v1.2.2.2.2.2.2.1,v1.2.2.2.2.2.2.2.1,v1.2.2.2.2.2.2.2.2.1,v1.2.2.2.2.2.2.2.2.2.1,v1.2.2.2.2.2.2.2.2.2.2.1,v1.2.2.2.2.2.2.2.2.2.2.2,()),()),())
abbrev yOz (v0:dA):(ygB).X:=((((),()),((),()),()),((v0.1,v0.2.1.1,v0.2.1.2,v0.2.2.1,v0.2.2.2.1,v0.2.2.2.2.1,v0.2.2.2.2.2.1,v0.2.2.2.2.2.2.1,v0.2.2.2.2.2.2.2.1,v0.2.2.2.2.2.2.2.2.1,v0.2.2.2.2.2.2.2.2.2.1,v0.2.2.2.2.2.2.2.2.2.2.1,v0.2.2.2.2.2.2.2.2.2.2.2,()),()),())
abbrev yOk  :(ygm).X:=((),(),())
abbrev yOG (v0:Bool):(ygI).X:=(((v0,()),()),(),())
def ypt (v0 v1 v2 v3:Int) (v4:List dM) (v5 v6 v7 v8 v9:Int) (v10:List dW) (v11:Int) (v12 v13:Bool):Option ((yb6).X ⊕ ((ygm).X ⊕ (ygI).X)) :=bif(ltb v0 (v10.length:Int))then bif(inb v0 v10.length)then let r3:=ya ((nth v10 v0 (0,[])).1) 0 (i64.wrap (v3-1));bif(!(!r3))then bif(!((((nth v10 v0 (0,[])).2).length:Int) !=(i64.wrap (v2-1))))then let r4:=yX ((nth v10 v0 (0,[])).2);bif(!(!r4))then bif(ltb 0 v0)then bif(inb (i64.wrap (v0-1)) v10.length)then bif(leb ((nth v10 v0 (0,[])).1) ((nth v10 (i64.wrap (v0-1)) (0,[])).1))then some (.inr (.inr (((false,()),()),(),()))) else some (.inl ((((),()),((i64.wrap (v0+1)),()),()),((v1,v2,v3,v4,v5,v6,v7,v8,v9,v10,v11,v12,v13,()),()),())) else none else some (.inl ((((),()),((i64.wrap (v0+1)),()),()),((v1,v2,v3,v4,v5,v6,v7,v8,v9,v10,v11,v12,v13,()),()),())) else some (.inr (.inr (((false,()),()),(),()))) else some (.inr (.inr (((false,()),()),(),()))) else some (.inr (.inr (((false,()),()),(),()))) else none else some (.inr (.inl ((),(),())))
def ycu (x:(yb6).X):=ypt x.1.2.1.1 x.2.1.1.1 x.2.1.1.2.1 x.2.1.1.2.2.1 x.2.1.1.2.2.2.1 x.2.1.1.2.2.2.2.1 x.2.1.1.2.2.2.2.2.1 x.2.1.1.2.2.2.2.2.2.1 x.2.1.1.2.2.2.2.2.2.2.1 x.2.1.1.2.2.2.2.2.2.2.2.1 x.2.1.1.2.2.2.2.2.2.2.2.2.1 x.2.1.1.2.2.2.2.2.2.2.2.2.2.1 x.2.1.1.2.2.2.2.2.2.2.2.2.2.2.1 x.2.1.1.2.2.2.2.2.2.2.2.2.2.2.2.1
def yAA (x:(ygB).X):(yb6).X:=((((),()),(0,()),()),((x.2.1.1.1,x.2.1.1.2.1,x.2.1.1.2.2.1,x.2.1.1.2.2.2.1,x.2.1.1.2.2.2.2.1,x.2.1.1.2.2.2.2.2.1,x.2.1.1.2.2.2.2.2.2.1,x.2.1.1.2.2.2.2.2.2.2.1,x.2.1.1.2.2.2.2.2.2.2.2.1,x.2.1.1.2.2.2.2.2.2.2.2.2.1,x.2.1.1.2.2.2.2.2.2.2.2.2.2.1,x.2.1.1.2.2.2.2.2.2.2.2.2.2.2.1,x.2.1.1.2.2.2.2.2.2.2.2.2.2.2.2.1,()),()),())
def yDn:Code:=(zd7 ypH 64 52).getD .skip
theorem yP0:zd7 ypH 64 13=some (.block 0 (.loop yDn)):=by kernel_rfl
theorem ySa (x:(yb6).X):zhu ⟨yyt,57,yES⟩ 0 yDn 52 yb6 ygm ygI x=ycu x:=by kernel_rfl
def yAS (x:(ygB).X):Nat:=18446744073709551616
def yqD (x:(ygB).X):Option ((ygm).X ⊕ (ygI).X):=zF ycu (yAS x) (yAA x)
def yBm:Seg:=⟨ygB,ygm,ygI,yqD⟩
def ySF:Nat→Option Seg:=fun q=>bif Nat.beq q 13 then some yBm else yES q
theorem yQI:FrOk prog ⟨yyt,57,ySF⟩ ypH:=(yQH).loop (sg:=yBm) yb6 yAA (by decide) yP0 ycu yAS (by decide) (fun _=>rfl) (fun x r _ h=>h) ySa
abbrev ykn:List Par:= [.rd tA]
abbrev yp0:List OT:= [⟨false,tB,.fz⟩]
def ytK (a0:dA):Option (zaY yp0×zak ykn) :=zkt (yqD ((((),()),((),()),()),((a0.1,a0.2.1.1,a0.2.1.2,a0.2.2.1,a0.2.2.2.1,a0.2.2.2.2.1,a0.2.2.2.2.2.1,a0.2.2.2.2.2.2.1,a0.2.2.2.2.2.2.2.1,a0.2.2.2.2.2.2.2.2.1,a0.2.2.2.2.2.2.2.2.2.1,a0.2.2.2.2.2.2.2.2.2.2.1,a0.2.2.2.2.2.2.2.2.2.2.2,()),()),())) (fun y4 =>some ((true,()),())) (fun y4 =>some ((y4.1.1.1,()),()))
theorem yVo:ConOk prog 152 ⟨ykn,yp0,fun x=>ytK x.1⟩:=zkI (yQI) func152 ntmps152.symm fun x=>by kernel_rfl
def ykU (a0:dA):Bool:=yaC a0.2.1 a0.2.2.2.2.2.2.2.2.1
def yzv (a0:dA):Bool:=yf a0.2.1
theorem ysz (l:List Int):yX l=l.all isW:=by
 unfold yX;rw[show yat=isW from funext fun x=>by unfold yat; rw[ybm]; rfl]
theorem yYE (a0:dA) (hk:zjx ykn (a0,())) (hq:yzv a0=true):ytK a0=(fun n=>some ((n,()),())) (ykU a0):=by
 have hb:a0.2.2.2.2.2.2.2.2.1.length*32≤2^47:=hk.1.2.2.2.2.2.2.2.2.1.1;have hg:=yk.1 hq
 have h1:yqD (yOz a0)=some (bif(List.range a0.2.2.2.2.2.2.2.2.1.length).any (yib a0.2.1 a0.2.2.2.2.2.2.2.2.1)then .inr (yOG false)else .inl yOk) :=
  zji (step:=ycu) (fun i=>yoY i a0) a0.2.2.2.2.2.2.2.2.1.length (yib a0.2.1 a0.2.2.2.2.2.2.2.2.1) _ _ (fun i hi=>by
   simp only[ycu,yoY,ypt,zky (show(i:Int)<a0.2.2.2.2.2.2.2.2.1.length by omega),cond_true,wq ((i:Int)+1) (by omega) (by omega),Int.natCast_add,Int.natCast_one,Int.toNat_natCast,zkR hi,ybm,ysz,wq (a0.2.1.2-1) (by omega) (by omega),wq (a0.2.1.1-1) (by omega) (by omega),yib];rcases Nat.eq_zero_or_pos i with rfl | h0
   ·cases(leb 0 (nth a0.2.2.2.2.2.2.2.2.1 ((0:Nat):Int) (0,[])).1&&leb (nth a0.2.2.2.2.2.2.2.2.1 ((0:Nat):Int) (0,[])).1 (a0.2.1.2-1))<;>cases(((nth a0.2.2.2.2.2.2.2.2.1 ((0:Nat):Int) (0,[])).2.length:Int) !=a0.2.1.1-1)<;>cases((nth a0.2.2.2.2.2.2.2.2.1 ((0:Nat):Int) (0,[])).2.all isW)<;>rfl
   ·rw[show i64.wrap ((i:Int)-1)=((i-1:Nat):Int)by rw[wr (by omega) (by omega)]; omega,zkR (show i-1<a0.2.2.2.2.2.2.2.2.1.length by omega),zky (show(0:Int)<i by omega),decide_eq_true h0]
    cases(leb 0 (nth a0.2.2.2.2.2.2.2.2.1 (i:Int) (0,[])).1&&leb (nth a0.2.2.2.2.2.2.2.2.1 (i:Int) (0,[])).1 (a0.2.1.2-1))<;>cases(((nth a0.2.2.2.2.2.2.2.2.1 (i:Int) (0,[])).2.length:Int) !=a0.2.1.1-1)<;>cases((nth a0.2.2.2.2.2.2.2.2.1 (i:Int) (0,[])).2.all isW)<;>cases leb (nth a0.2.2.2.2.2.2.2.2.1 (i:Int) (0,[])).1 (nth a0.2.2.2.2.2.2.2.2.1 ((i-1:Nat):Int) (0,[])).1<;>rfl) (by simp only[ycu,yoY,ypt,zk3 (Int.le_refl _),cond_false]) _ (by show _<18446744073709551616; omega)
 unfold ytK ykU yaC;rw[h1];cases(List.range a0.2.2.2.2.2.2.2.2.1.length).any (yib a0.2.1 a0.2.2.2.2.2.2.2.2.1)<;>rfl
def yqh (a0:dA):Option (zaY yp0×zak ykn):=bif yzv a0 then(fun n=>some ((n,()),())) (ykU a0)else none
theorem yZL (a0:dA) (h:yzv a0=true):yqh a0=(fun n=>some ((n,()),())) (ykU a0):=by unfold yqh; rw[h]; rfl
def yF9:Con:=⟨ykn,yp0,fun x=>yqh x.1⟩
theorem yZG:ConOk prog 152 yF9:=(yVo).mono (fun x r hk h=>zkY h (fun hq=>yYE x.1 hk hq))
def y46:Code:=(f78.body).getD .skip
def y5l:Env:=zkw TT [(82,yq),(150,ygY),(151,yIr),(152,yF9)] []
theorem yXx:FrOk prog ⟨y5l,78,fun _=>none⟩ y46:=zkA mixed yd ⟨yy,ymA,y2x,yZG,trivial⟩
abbrev yu3:List Par:= [.rd tA]
abbrev yFp:List OT:= [⟨false,tB,.fz⟩]
def yzC (a0:dA):Option (zaY yFp×zak yu3) :=let r1:=yf a0.2.1;bif(!(!r1))then let r2:=ya a0.1 1 60000;bif(!(!r2))then bnd (ysw a0) fun r3 =>bif(!(!r3.1.1))then bnd (yqh a0) fun r4 =>bif(!r4.1.1)then some ((false,()),()) else let r5:=ya a0.2.2.2.1 (-1) (i64.wrap (a0.2.1.1-1));bif(!(!r5))then let r6:=ya a0.2.2.2.2.1 0 a0.2.1.2;bif(!(!r6))then bif(a0.2.2.2.1==(-1))then bif(a0.2.2.2.2.1 !=0)then some ((false,()),()) else let r7:=ya a0.2.2.2.2.2.2.1 0 60000;bif r7 then let r8:=ya a0.2.2.2.2.2.1 a0.2.2.2.2.2.2.1 60000;bif r8 then bif(leb a0.2.2.2.2.2.1 (i64.wrap (a0.2.2.2.2.2.2.1+4)))then let r9:=ya a0.2.2.2.2.2.2.2.1 0 60000;bif r9 then let r10:=ya a0.2.2.2.2.2.2.2.2.2.1 (-1) 1000;some ((r10,()),()) else some ((false,()),()) else some ((false,()),()) else some ((false,()),()) else some ((false,()),()) else let r11:=ya a0.2.2.2.2.2.2.1 0 60000;bif r11 then let r12:=ya a0.2.2.2.2.2.1 a0.2.2.2.2.2.2.1 60000;bif r12 then bif(leb a0.2.2.2.2.2.1 (i64.wrap (a0.2.2.2.2.2.2.1+4)))then let r13:=ya a0.2.2.2.2.2.2.2.1 0 60000;bif r13 then let r14:=ya a0.2.2.2.2.2.2.2.2.2.1 (-1) 1000;some ((r14,()),()) else some ((false,()),()) else some ((false,()),()) else some ((false,()),()) else some ((false,()),()) else some ((false,()),()) else some ((false,()),()) else some ((false,()),()) else some ((false,()),()) else some ((false,()),())
theorem y1R:ConOk prog 78 ⟨yu3,yFp,fun x=>yzC x.1⟩:=zkI (yXx) func78 ntmps78.symm fun x=>by kernel_rfl
def yaN (a0:dA):Bool:=yE a0
theorem y4x (a0:dA) (hk:zjx yu3 (a0,())):yzC a0=(fun n=>some ((n,()),())) (yaN a0):=by
 unfold yzC yaN yE;simp only[ybm];cases hg:yf a0.2.1
 ·rfl
 have hg2:=yk.1 hg;rw[y2D a0 hg,yZL a0 hg,wq (a0.2.1.1-1) (by omega) (by omega)];simp only[zkH,ymx,ykU,Bool.not_not,cond_true];cases(leb 1 a0.1&&leb a0.1 60000)
 ·rfl
 cases yml a0
 ·rfl
 cases yaC a0.2.1 a0.2.2.2.2.2.2.2.2.1
 ·rfl
 cases(leb (-1) a0.2.2.2.1&&leb a0.2.2.2.1 (a0.2.1.1-1))
 ·rfl
 cases(leb 0 a0.2.2.2.2.1&&leb a0.2.2.2.2.1 a0.2.1.2)
 ·rfl
 have ht:(leb 0 a0.2.2.2.2.2.2.1&&leb a0.2.2.2.2.2.2.1 60000)=true→i64.wrap (a0.2.2.2.2.2.2.1+4)=a0.2.2.2.2.2.2.1+4:=fun h=>by
  rw[Bool.and_eq_true,zj7,zj7]at h;exact wr (by omega) (by omega)
 cases hT:(leb 0 a0.2.2.2.2.2.2.1&&leb a0.2.2.2.2.2.2.1 60000)
 ·cases(a0.2.2.2.1== -1)<;>cases(a0.2.2.2.2.1 !=0)<;>rfl
 rw[ht hT];cases(leb a0.2.2.2.2.2.2.1 a0.2.2.2.2.2.1&&leb a0.2.2.2.2.2.1 60000)
 ·cases(a0.2.2.2.1== -1)<;>cases(a0.2.2.2.2.1 !=0)<;>rfl
 cases leb a0.2.2.2.2.2.1 (a0.2.2.2.2.2.2.1+4)
 ·cases(a0.2.2.2.1== -1)<;>cases(a0.2.2.2.2.1 !=0)<;>rfl
 cases(leb 0 a0.2.2.2.2.2.2.2.1&&leb a0.2.2.2.2.2.2.2.1 60000)<;>cases(a0.2.2.2.1== -1)<;>cases(a0.2.2.2.2.1 !=0)<;>rfl
def ykE:Con:=⟨yu3,yFp,fun x=>(fun n=>some ((n,()),())) (yaN x.1)⟩
theorem ysx:ConOk prog 78 ykE:=(y1R).mono (fun x r hk h=>(y4x x.1 hk).trans h)
def y5b:Code:=(f80.body).getD .skip
def y5q:Env:=zkw TT [(72,ym)] []
theorem yXI:FrOk prog ⟨y5q,12,fun _=>none⟩ y5b:=zkA mixed yd ⟨yv,trivial⟩
abbrev yFc:List Par:= [.pt tU .fz,.rd tL]
abbrev yFw:List OT:= [⟨false,tI,.fz⟩]
def yp (a0:dU) (a1:List Int):Option (zaY yFw×zak yFc) :=bnd (yb a0 (a1.length:Int)) fun r1 =>bif(inb r1.1.1 a1.length)then some (((nth a1 r1.1.1 0),()),(r1.2.1,())) else none
theorem y1Y:ConOk prog 80 ⟨yFc,yFw,fun x=>yp x.1 x.2.1⟩:=zkI (yXI) func80 ntmps80.symm fun x=>by kernel_rfl
def yae:Con:=⟨yFc,yFw,fun x=>yp x.1 x.2.1⟩
theorem yaR:ConOk prog 80 yae:=y1Y
theorem yeJ (u:List Int×Int×Int) (l:List Int) (h:yA u) (hl:l≠ []): ∃(r:Int) (u':List Int×Int×Int),yp u l=some ((r,()),(u',()))∧r∈l∧yA u':=by
 unfold yp;obtain⟨r1,u1,e1,q1,d1⟩:=yo u (l.length:Int) h;have hp:0<l.length:=List.length_pos_iff.2 hl;have hr:=q1.2.1 (by omega);simp only[e1,zkH,zj6.2 ⟨q1.1,hr⟩,cond_true];refine⟨_,_,rfl,?_,d1⟩;have:r1.toNat<l.length:=by have:=q1.1; omega
 unfold nth;rw[List.getD_eq_getElem?_getD,List.getElem?_eq_getElem this,Option.getD_some];exact List.getElem_mem this
def y3D:Code:=(f91.body).getD .skip
def y4b:Env:=zkw TT [] []
theorem yTs:FrOk prog ⟨y4b,8,fun _=>none⟩ y3D:=zkA mixed yd trivial
abbrev yBL:List Par:= [.rd tI]
abbrev yCk:List OT:= [⟨false,tI,.fz⟩]
def yJd (a0:Int):Option (zaY yCk×zak yBL) :=bif(ltb a0 0)then some (((-1),()),()) else some (((i64.wrap (2+(a0.tmod 4))),()),())
theorem yY6:ConOk prog 91 ⟨yBL,yCk,fun x=>yJd x.1⟩:=zkI (yTs) func91 ntmps91.symm fun x=>by kernel_rfl
def yl (a0:Int):Int :=bif(ltb a0 0)then (-1) else (i64.wrap (2+(a0.tmod 4)))
def yvV:Con:=⟨yBL,yCk,fun x=>(fun n=>some ((n,()),())) (yl x.1)⟩
theorem y1x (a0:Int):yJd a0=(fun n=>some ((n,()),())) (yl a0):=zkV (p:=fun(n:Int)=>((n,()),())) (zkG (p:=fun(n:Int)=>((n,()),())) rfl rfl)
theorem yKy:ConOk prog 91 yvV:=(yY6).mono (fun x r _ h=>(y1x x.1).trans h)
def y3w:Code:=(f119.body).getD .skip
def y34:Env:=zkw TT [(150,ygY)] []
theorem yTj:FrOk prog ⟨y34,12,fun _=>none⟩ y3w:=zkA mixed yd ⟨ymA,trivial⟩
abbrev yBJ:List Par:= [.rd tG]
abbrev yCc:List OT:= [⟨false,tI,.fz⟩]
def yJb (a0:dG):Option (zaY yCc×zak yBJ) :=let r1:=yf a0;bif(!r1)then some ((0,()),()) else some (((i64.wrap (a0.2*(i64.wrap (a0.1-1)))),()),())
theorem yYY:ConOk prog 119 ⟨yBJ,yCc,fun x=>yJb x.1⟩:=zkI (yTj) func119 ntmps119.symm fun x=>by kernel_rfl
def yx (a0:dG):Int :=let r1:=yf a0;bif(!r1)then 0 else (i64.wrap (a0.2*(i64.wrap (a0.1-1))))
def yn6:Con:=⟨yBJ,yCc,fun x=>(fun n=>some ((n,()),())) (yx x.1)⟩
theorem y1p (a0:dG):yJb a0=(fun n=>some ((n,()),())) (yx a0):=zkV (p:=fun(n:Int)=>((n,()),())) (zkG (p:=fun(n:Int)=>((n,()),())) rfl rfl)
theorem yzn:ConOk prog 119 yn6:=(yYY).mono (fun x r _ h=>(y1p x.1).trans h)
theorem y2K (a:Int×Int):0≤yx a∧yx a≤32:=by
 unfold yx;cases h:yf a
 ·simp
 ·obtain⟨⟨h1,h2⟩,h3,h4⟩:=yk.1 h
  have h5:0≤a.2*(a.1-1):=Int.mul_nonneg (by omega) (by omega);have h6:a.2*(a.1-1)≤8*4:=Int.mul_le_mul h4 (by omega) (by omega) (by omega);simp only[Bool.not_true,cond_false,wq (a.1-1) (by omega) (by omega),wq (a.2*(a.1-1)) (by omega) (by omega)];omega
theorem yKQ {a:Int×Int} (h:yf a=true):yx a=a.2*(a.1-1):=by
 unfold yx;obtain⟨⟨h1,h2⟩,h3,h4⟩:=yk.1 h;have h5:0≤a.2*(a.1-1):=Int.mul_nonneg (by omega) (by omega);have h6:a.2*(a.1-1)≤8*4:=Int.mul_le_mul h4 (by omega) (by omega) (by omega);simp only[h,Bool.not_true,cond_false,wq (a.1-1) (by omega) (by omega),wq (a.2*(a.1-1)) (by omega) (by omega)]
def yI (l:List dW) (s:Int):Int:=yR (fun e:dW=>e.1==s) l
def yn2 (g:dG) (b:Int):Bool:=leb 0 b&&leb b (yx g-1)
def yax (g:dG) (b:Int):Int:=bif yn2 g b then b.tdiv (g.1-1)else -1
def yue (g:dG) (b:Int):Int:=bif yn2 g b then b.tmod (g.1-1)else -1
theorem yHU {g:dG} {b:Int} (h:yn2 g b=true):yf g=true∧(0≤b.tdiv (g.1-1)∧b.tdiv (g.1-1)≤g.2-1)∧(0≤b.tmod (g.1-1)∧b.tmod (g.1-1)≤g.1-2):=by
 simp only[yn2,Bool.and_eq_true,zj7]at h;cases hg:yf g
 ·have:yx g=0:=by unfold yx; rw[hg]; rfl
  omega
 ·rw[yKQ hg]at h
  have h2:=yk.1 hg;rw[Int.tdiv_eq_ediv_of_nonneg h.1,Int.tmod_eq_emod_of_nonneg h.1];have h3:=Int.ediv_lt_of_lt_mul (show 0<g.1-1 by omega) (show b<g.2*(g.1-1)by omega);have h4:=Int.ediv_nonneg h.1 (show 0≤g.1-1 by omega);have h5:=Int.emod_nonneg b (show g.1-1≠0 by omega);have h6:=Int.emod_lt_of_pos b (show 0<g.1-1 by omega);exact⟨rfl,⟨h4,by omega⟩,h5,by omega⟩
theorem yJJ {g:dG} {b:Int} (h:yn2 g b=true):ycH g (yax g b)=true:=by
 obtain⟨h1,h2,_⟩:=yHU h;unfold yax;rw[h,cond_true,ybD];exact⟨h1,h2⟩
def yaq (a:dA) (s:Int):List Int×Bool:=bif leb 0 (yI a.2.2.2.2.2.2.2.2.1 s)then((nth a.2.2.2.2.2.2.2.2.1 (yI a.2.2.2.2.2.2.2.2.1 s) (0,[])).2,true)else bif a.2.2.2.2.2.2.2.2.2.2.2 then([],false)else yPq a s
theorem y7S {a:dA} (h:yE a=true) {i:Nat} (hi:i<a.2.2.2.2.2.2.2.2.1.length):(0≤(nth a.2.2.2.2.2.2.2.2.1 i (0,[])).1∧(nth a.2.2.2.2.2.2.2.2.1 i (0,[])).1≤a.2.1.2-1)∧((nth a.2.2.2.2.2.2.2.2.1 i (0,[])).2.length:Int)=a.2.1.1-1∧(nth a.2.2.2.2.2.2.2.2.1 i (0,[])).2.all isW=true∧(0<i→(nth a.2.2.2.2.2.2.2.2.1 ((i-1:Nat):Int) (0,[])).1<(nth a.2.2.2.2.2.2.2.2.1 i (0,[])).1):=by
 have h1:yaC a.2.1 a.2.2.2.2.2.2.2.2.1=true:=by simp only[yE,Bool.and_eq_true]at h; exact h.2.2.2.1
 simp only[yaC,Bool.not_eq_true',List.any_eq_false,List.mem_range]at h1;have h2:=h1 i hi;simp only[yib,Bool.not_eq_true,Bool.or_eq_false_iff,Bool.not_eq_false',bne_eq_false_iff_eq,Bool.and_eq_true,Bool.and_eq_false_iff,decide_eq_false_iff_not,zj7]at h2;refine⟨h2.1,h2.2.1,h2.2.2.1,fun h0=> ?_⟩;rcases h2.2.2.2 with h3 | h3
 ·exact absurd h0 h3
 ·have:=mt zk2 (by rw[h3]; simp: ¬leb (nth a.2.2.2.2.2.2.2.2.1 i (0,[])).1 (nth a.2.2.2.2.2.2.2.2.1 ((i-1:Nat):Int) (0,[])).1=true)
  omega
theorem yCX {a:dA} {s:Int} (h:yE a=true) (hs:ycH a.2.1 s=true) (h2:(yaq a s).2=true):((yaq a s).1.length:Int)=a.2.1.1-1:=by
 have hg:=yk.1 (yjf h);unfold yaq at h2 ⊢;cases hk:leb 0 (yI a.2.2.2.2.2.2.2.2.1 s)
 ·rw[hk]at h2
  simp only[cond_false]at h2 ⊢;cases hb:a.2.2.2.2.2.2.2.2.2.2.2
  ·rw[hb]at h2
   simp only[cond_false]at h2 ⊢;unfold yPq at h2 ⊢;cases hw:(yaA a s).2
   ·rw[hw]at h2; cases h2
   ·simp only[cond_true,List.length_map,List.length_range]; omega
  ·rw[hb]at h2; cases h2
 ·have h3:=zj6.1 (yoM (d:=((0,[]):dW)) hk).1
  have:=(y7S h (i:=(yI a.2.2.2.2.2.2.2.2.1 s).toNat) (by unfold yI; omega)).2.1;rw[show(((yI a.2.2.2.2.2.2.2.2.1 s).toNat:Nat):Int)=yI a.2.2.2.2.2.2.2.2.1 s by have:=zj7.1 hk; omega]at this;exact this
theorem y7f (g:dG) (b:Int):ya b 0 (i64.wrap (yx g-1))=yn2 g b:=by
 have:=y2K g;rw[wr (by omega) (by omega),ybm]; rfl
def yWl:Code:=(f180.body).getD .skip
def yWS:Env:=zkw TT [(82,yq),(119,yn6)] []
theorem yN5:FrOk prog ⟨yWS,16,fun _=>none⟩ yWl:=zkA mixed yd ⟨yy,yzn,trivial⟩
abbrev ynL:List Par:= [.rd tG,.rd tI]
abbrev yvA:List OT:= [⟨false,tI,.fz⟩]
def yrw (a0:dG) (a1:Int):Option (zaY yvA×zak ynL) :=let r1:=yx a0;let r2:=ya a1 0 (i64.wrap (r1-1));bif(!r2)then some (((-1),()),()) else bif((i64.wrap (a0.1-1)) !=0)then some (((i64.wrap (a1.tdiv (i64.wrap (a0.1-1)))),()),()) else none
theorem yRI:ConOk prog 180 ⟨ynL,yvA,fun x=>yrw x.1 x.2.1⟩:=zkI (yN5) func180 ntmps180.symm fun x=>by kernel_rfl
def yjs (a0:dG) (a1:Int):Int:=yax a0 a1
theorem yUT (a0:dG) (a1:Int) (hk:zjx ynL (a0,a1,())):yrw a0 a1=(fun n=>some ((n,()),())) (yjs a0 a1):=by
 unfold yrw yjs yax;simp only[y7f];cases hb:yn2 a0 a1
 ·rfl
 ·obtain⟨h1,h2,h3⟩:=yHU hb
  have h4:=yk.1 h1;rw[wq (a0.1-1) (by omega) (by omega),show(a0.1-1 !=0)=true from bne_iff_ne.2 (by omega),wr (by omega) (by omega)]; rfl
def yDD:Con:=⟨ynL,yvA,fun x=>(fun n=>some ((n,()),())) (yjs x.1 x.2.1)⟩
theorem yVH:ConOk prog 180 yDD:=(yRI).mono (fun x r hk h=>(yUT x.1 x.2.1 hk).trans h)
def yzO:Code:=(f215.body).getD .skip
def yJr:Env:=zkw TT [] []
theorem y04:FrOk prog ⟨yJr,22,fun _=>none⟩ yzO:=zkA mixed yd trivial
def yLL:Nat→Option Seg:=fun _=>none
def yeT:Shape:=⟨[(1,false,[.int .i64]),(2,false,[.ptr 0 0]),(5,false,[.int .i64])],[(0,[.int .i64,.int .i64,.int .i64,.br tM,.int .i64,.int .i64,.int .i64,.int .i64,.int .i64,.br tW,.int .i64,.bool,.bool])],[]⟩
def ykz:Shape:=⟨[(1,false,[.int .i64]),(2,false,[.ptr 0 0]),(5,false,[.ci .i64 0])],[(0,[.int .i64,.int .i64,.int .i64,.br tM,.int .i64,.int .i64,.int .i64,.int .i64,.int .i64,.br tW,.int .i64,.bool,.bool])],[]⟩
def ykv:Shape:=⟨[],[],[]⟩
def ykC:Shape:=⟨[(4,false,[.int .i64])],[],[]⟩
abbrev ywr (v0 v1:Int) (v2:dA):(yeT).X:=(((v0,()),((),()),(v1,()),()),((v2.1,v2.2.1.1,v2.2.1.2,v2.2.2.1,v2.2.2.2.1,v2.2.2.2.2.1,v2.2.2.2.2.2.1,v2.2.2.2.2.2.2.1,v2.2.2.2.2.2.2.2.1,v2.2.2.2.2.2.2.2.2.1,v2.2.2.2.2.2.2.2.2.2.1,v2.2.2.2.2.2.2.2.2.2.2.1,v2.2.2.2.2.2.2.2.2.2.2.2,()),()),())
abbrev yYg (v0:Int) (v1:dA):(ykz).X:=(((v0,()),((),()),((),()),()),((v1.1,v1.2.1.1,v1.2.1.2,v1.2.2.1,v1.2.2.2.1,v1.2.2.2.2.1,v1.2.2.2.2.2.1,v1.2.2.2.2.2.2.1,v1.2.2.2.2.2.2.2.1,v1.2.2.2.2.2.2.2.2.1,v1.2.2.2.2.2.2.2.2.2.1,v1.2.2.2.2.2.2.2.2.2.2.1,v1.2.2.2.2.2.2.2.2.2.2.2,()),()),())
abbrev yYc  :(ykv).X:=((),(),())
abbrev yIM (v0:Int):(ykC).X:=(((v0,()),()),(),())
def yxf (v0 v1 v2 v3 v4:Int) (v5:List dM) (v6 v7 v8 v9 v10:Int) (v11:List dW) (v12:Int) (v13 v14:Bool):Option ((yeT).X ⊕ ((ykv).X ⊕ (ykC).X)) :=bif(ltb v1 (v11.length:Int))then bif(inb v1 v11.length)then bif((nth v11 v1 (0,[])).1==v0)then some (.inr (.inr (((v1,()),()),(),()))) else some (.inl (((v0,()),((),()),((i64.wrap (v1+1)),()),()),((v2,v3,v4,v5,v6,v7,v8,v9,v10,v11,v12,v13,v14,()),()),())) else none else some (.inr (.inl ((),(),())))
def yfc (x:(yeT).X):=yxf x.1.1.1 x.1.2.2.1.1 x.2.1.1.1 x.2.1.1.2.1 x.2.1.1.2.2.1 x.2.1.1.2.2.2.1 x.2.1.1.2.2.2.2.1 x.2.1.1.2.2.2.2.2.1 x.2.1.1.2.2.2.2.2.2.1 x.2.1.1.2.2.2.2.2.2.2.1 x.2.1.1.2.2.2.2.2.2.2.2.1 x.2.1.1.2.2.2.2.2.2.2.2.2.1 x.2.1.1.2.2.2.2.2.2.2.2.2.2.1 x.2.1.1.2.2.2.2.2.2.2.2.2.2.2.1 x.2.1.1.2.2.2.2.2.2.2.2.2.2.2.2.1
def yIA (x:(ykz).X):(yeT).X:=(((x.1.1.1,()),((),()),(0,()),()),((x.2.1.1.1,x.2.1.1.2.1,x.2.1.1.2.2.1,x.2.1.1.2.2.2.1,x.2.1.1.2.2.2.2.1,x.2.1.1.2.2.2.2.2.1,x.2.1.1.2.2.2.2.2.2.1,x.2.1.1.2.2.2.2.2.2.2.1,x.2.1.1.2.2.2.2.2.2.2.2.1,x.2.1.1.2.2.2.2.2.2.2.2.2.1,x.2.1.1.2.2.2.2.2.2.2.2.2.2.1,x.2.1.1.2.2.2.2.2.2.2.2.2.2.2.1,x.2.1.1.2.2.2.2.2.2.2.2.2.2.2.2.1,()),()),())
def yJ4:Code:=(zd7 yzO 64 52).getD .skip
theorem y0S:zd7 yzO 64 13=some (.block 0 (.loop yJ4)):=by kernel_rfl
theorem y2H (x:(yeT).X):zhu ⟨yJr,22,yLL⟩ 0 yJ4 52 yeT ykv ykC x=yfc x:=by kernel_rfl
def yIF (x:(ykz).X):Nat:=18446744073709551616
def yyz (x:(ykz).X):Option ((ykv).X ⊕ (ykC).X):=zF yfc (yIF x) (yIA x)
def yJm:Seg:=⟨ykz,ykv,ykC,yyz⟩
def y3R:Nat→Option Seg:=fun q=>bif Nat.beq q 13 then some yJm else yLL q
theorem y05:FrOk prog ⟨yJr,22,y3R⟩ yzO:=(y04).loop (sg:=yJm) yeT yIA (by decide) y0S yfc yIF (by decide) (fun _=>rfl) (fun x r _ h=>h) y2H
abbrev yzR:List Par:= [.rd tA,.rd tI]
abbrev yJy:List OT:= [⟨false,tI,.fz⟩]
def yCV (a0:dA) (a1:Int):Option (zaY yJy×zak yzR) :=zkt (yyz (((a1,()),((),()),((),()),()),((a0.1,a0.2.1.1,a0.2.1.2,a0.2.2.1,a0.2.2.2.1,a0.2.2.2.2.1,a0.2.2.2.2.2.1,a0.2.2.2.2.2.2.1,a0.2.2.2.2.2.2.2.1,a0.2.2.2.2.2.2.2.2.1,a0.2.2.2.2.2.2.2.2.2.1,a0.2.2.2.2.2.2.2.2.2.2.1,a0.2.2.2.2.2.2.2.2.2.2.2,()),()),())) (fun y0 =>some (((-1),()),())) (fun y0 =>some ((y0.1.1.1,()),()))
theorem y4O:ConOk prog 215 ⟨yzR,yJy,fun x=>yCV x.1 x.2.1⟩:=zkI (y05) func215 ntmps215.symm fun x=>by kernel_rfl
def yjK (a0:dA) (a1:Int):Int:=yI a0.2.2.2.2.2.2.2.2.1 a1
theorem y5V (a0:dA) (a1:Int) (hk:zjx yzR (a0,a1,())):yCV a0 a1=(fun n=>some ((n,()),())) (yjK a0 a1):=by
 have hb:a0.2.2.2.2.2.2.2.2.1.length*32≤2^47:=hk.1.2.2.2.2.2.2.2.2.1.1
 have h1:yyz (yYg a1 a0)=some (bif leb 0 (yI a0.2.2.2.2.2.2.2.2.1 a1)then .inr (yIM (yI a0.2.2.2.2.2.2.2.2.1 a1))else .inl yYc) :=
  yII (step:=yfc) a0.2.2.2.2.2.2.2.2.1 (0,[]) (fun i=>ywr a1 i a0) (fun e:dW=>e.1==a1) (fun i=> .inr (yIM i)) _ (fun i hi=>by
   simp only[yfc,ywr,yxf,zky (show(i:Int)<a0.2.2.2.2.2.2.2.2.1.length by omega),cond_true,wq ((i:Int)+1) (by omega) (by omega),Int.natCast_add,Int.natCast_one,Int.toNat_natCast,zkR hi,zkS]
   cases((a0.2.2.2.2.2.2.2.2.1.getD i (0,[])).1==a1)<;>rfl) (by simp only[yfc,ywr,yxf,zk3 (Int.le_refl _),cond_false]) _ (by show _<18446744073709551616; omega)
 unfold yCV yjK;rw[h1];cases h:leb 0 (yI a0.2.2.2.2.2.2.2.2.1 a1)
 ·rw[show yI a0.2.2.2.2.2.2.2.2.1 a1= -1 from y06 h]; rfl
 ·rfl
def yCH:Con:=⟨yzR,yJy,fun x=>(fun n=>some ((n,()),())) (yjK x.1 x.2.1)⟩
theorem yO3:ConOk prog 215 yCH:=(y4O).mono (fun x r hk h=>(y5V x.1 x.2.1 hk).trans h)
def yuo:Code:=(f161.body).getD .skip
def yE1:Env:=zkw TT [] []
theorem yXP:FrOk prog ⟨yE1,18,fun _=>none⟩ yuo:=zkA mixed yd trivial
def yJT:Nat→Option Seg:=fun _=>none
def ydB:Shape:=⟨[(0,false,[.br tI]),(1,false,[.int .i64]),(5,false,[.int .i64])],[],[]⟩
def yiT:Shape:=⟨[(0,false,[.br tI]),(1,false,[.int .i64]),(5,false,[.ci .i64 0])],[],[]⟩
def yiE:Shape:=⟨[],[],[]⟩
def yjd:Shape:=⟨[(4,false,[.bool])],[],[]⟩
abbrev ytj (v0:List Int) (v1 v2:Int):(ydB).X:=(((v0,()),(v1,()),(v2,()),()),(),())
abbrev yUk (v0:List Int) (v1:Int):(yiT).X:=(((v0,()),(v1,()),((),()),()),(),())
abbrev yT9  :(yiE).X:=((),(),())
abbrev yUv (v0:Bool):(yjd).X:=(((v0,()),()),(),())
def ytZ (v0:List Int) (v1 v2:Int):Option ((ydB).X ⊕ ((yiE).X ⊕ (yjd).X)) :=bif(ltb v2 (v0.length:Int))then bif(inb v2 v0.length)then bif((nth v0 v2 0)==v1)then some (.inr (.inr (((true,()),()),(),()))) else some (.inl (((v0,()),(v1,()),((i64.wrap (v2+1)),()),()),(),())) else none else some (.inr (.inl ((),(),())))
def yee (x:(ydB).X):=ytZ x.1.1.1 x.1.2.1.1 x.1.2.2.1.1
def yGn (x:(yiT).X):(ydB).X:=(((x.1.1.1,()),(x.1.2.1.1,()),(0,()),()),(),())
def yH5:Code:=(zd7 yuo 64 52).getD .skip
theorem yW7:zd7 yuo 64 13=some (.block 0 (.loop yH5)):=by kernel_rfl
theorem yZX (x:(ydB).X):zhu ⟨yE1,18,yJT⟩ 0 yH5 52 ydB yiE yjd x=yee x:=by kernel_rfl
def yGD (x:(yiT).X):Nat:=18446744073709551616
def yuS (x:(yiT).X):Option ((yiE).X ⊕ (yjd).X):=zF yee (yGD x) (yGn x)
def yHu:Seg:=⟨yiT,yiE,yjd,yuS⟩
def y0u:Nat→Option Seg:=fun q=>bif Nat.beq q 13 then some yHu else yJT q
theorem yXQ:FrOk prog ⟨yE1,18,y0u⟩ yuo:=(yXP).loop (sg:=yHu) ydB yGn (by decide) yW7 yee yGD (by decide) (fun _=>rfl) (fun x r _ h=>h) yZX
abbrev yva:List Par:= [.rd tL,.rd tI]
abbrev yFA:List OT:= [⟨false,tB,.fz⟩]
def yzF (a0:List Int) (a1:Int):Option (zaY yFA×zak yva) :=zkt (yuS (((a0,()),(a1,()),((),()),()),(),())) (fun y0 =>some ((false,()),())) (fun y0 =>some ((y0.1.1.1,()),()))
theorem y14:ConOk prog 161 ⟨yva,yFA,fun x=>yzF x.1 x.2.1⟩:=zkI (yXQ) func161 ntmps161.symm fun x=>by kernel_rfl
def yhQ (a0:List Int) (a1:Int):Bool:=a0.any (· ==a1)
theorem y4E (a0:List Int) (a1:Int) (hk:zjx yva (a0,a1,())):yzF a0 a1=(fun n=>some ((n,()),())) (yhQ a0 a1):=by
 have hb:a0.length*8≤2^47:=hk.1.1
 have h1:yuS (yUk a0 a1)=some (bif a0.all (· !=a1)then .inl yT9 else .inr (yUv true)) :=
  zj9 (step:=yee) a0 0 (fun i=>ytj a0 a1 i) (· !=a1) _ _ (fun i hi=>by
   simp only[yee,ytj,ytZ,zky (show(i:Int)<a0.length by omega),cond_true,wq ((i:Int)+1) (by omega) (by omega),Int.natCast_add,Int.natCast_one,Int.toNat_natCast,zkR hi,zkS,bne]
   cases(a0.getD i 0==a1)<;>rfl) (by simp only[yee,ytj,ytZ,zk3 (Int.le_refl _),cond_false]) _ (by show _<18446744073709551616; omega)
 unfold yzF yhQ;rw[h1,show a0.any (· ==a1)= !(a0.all (· !=a1))by simp[List.all_eq_not_any_not,bne]];cases a0.all (· !=a1)<;>rfl
def yzf:Con:=⟨yva,yFA,fun x=>(fun n=>some ((n,()),())) (yhQ x.1 x.2.1)⟩
theorem yLU:ConOk prog 161 yzf:=(y14).mono (fun x r hk h=>(y4E x.1 x.2.1 hk).trans h)
def ypF:Code:=(f90.body).getD .skip
def yyr:Env:=zkw TT [(82,yq),(160,yeV),(161,yzf)] []
theorem yQy:FrOk prog ⟨yyr,60,fun _=>none⟩ ypF:=zkA mixed yd ⟨yy,yif,yLU,trivial⟩
def yEQ:Nat→Option Seg:=fun _=>none
def yb4:Shape:=⟨[(1,false,[.int .i64]),(2,false,[.ptr 0 0]),(6,false,[.br tI]),(7,false,[.int .i64])],[(0,[.br tL,.br tW,.bool,.br tI])],[]⟩
def ygz:Shape:=⟨[(1,false,[.int .i64]),(2,false,[.ptr 0 0]),(6,false,[.br tI]),(7,false,[.ci .i64 0])],[(0,[.br tL,.br tW,.bool,.br tI])],[]⟩
def ygk:Shape:=⟨[(6,false,[.br tI])],[],[]⟩
def yj1:Shape:=⟨[],[],[]⟩
abbrev yoW (v0:Int) (v1:List Int) (v2:Int) (v3:dM):(yb4).X:=(((v0,()),((),()),(v1,()),(v2,()),()),((v3.1,v3.2.1,v3.2.2.1,v3.2.2.2,()),()),())
abbrev yOx (v0:Int) (v1:List Int) (v2:dM):(ygz).X:=(((v0,()),((),()),(v1,()),((),()),()),((v2.1,v2.2.1,v2.2.2.1,v2.2.2.2,()),()),())
abbrev yA4 (v0:List Int):(ygk).X:=(((v0,()),()),(),())
def ypq (v0:Int) (v1:List Int) (v2:Int) (v3:List (List Int)) (v4:List dW) (v5:Bool) (v6:List Int):Option ((yb4).X ⊕ ((ygk).X ⊕ (yj1).X)) :=bif(ltb v2 (v4.length:Int))then bif(inb v2 v4.length)then bif((nth v4 v2 (0,[])).1==v0)then bif(inb v2 v4.length)then some (.inl (((v0,()),((),()),((nth v4 v2 (0,[])).2,()),((i64.wrap (v2+1)),()),()),((v3,v4,v5,v6,()),()),())) else none else some (.inl (((v0,()),((),()),(v1,()),((i64.wrap (v2+1)),()),()),((v3,v4,v5,v6,()),()),())) else none else some (.inr (.inl (((v1,()),()),(),())))
def ycr (x:(yb4).X):=ypq x.1.1.1 x.1.2.2.1.1 x.1.2.2.2.1.1 x.2.1.1.1 x.2.1.1.2.1 x.2.1.1.2.2.1 x.2.1.1.2.2.2.1
def yAx (x:(ygz).X):(yb4).X:=(((x.1.1.1,()),((),()),(x.1.2.2.1.1,()),(0,()),()),((x.2.1.1.1,x.2.1.1.2.1,x.2.1.1.2.2.1,x.2.1.1.2.2.2.1,()),()),())
def yDk:Code:=(zd7 ypF 64 244).getD .skip
theorem yPX:zd7 ypF 64 61=some (.block 0 (.loop yDk)):=by kernel_rfl
theorem yR7 (x:(yb4).X):zhu ⟨yyr,60,yEQ⟩ 0 yDk 244 yb4 ygk yj1 x=ycr x:=by kernel_rfl
def yAP (x:(ygz).X):Nat:=18446744073709551616
def yqA (x:(ygz).X):Option ((ygk).X ⊕ (yj1).X):=zF ycr (yAP x) (yAx x)
def yBj:Seg:=⟨ygz,ygk,yj1,yqA⟩
def ySD:Nat→Option Seg:=fun q=>bif Nat.beq q 61 then some yBj else yEQ q
theorem yQz:FrOk prog ⟨yyr,60,ySD⟩ ypF:=(yQy).loop (sg:=yBj) yb4 yAx (by decide) yPX ycr yAP (by decide) (fun _=>rfl) (fun x r _ h=>h) yR7
abbrev ypS:List Par:= [.rd tM,.rd tI]
abbrev yy0:List OT:= [⟨false,tL,(.ow .fz)⟩,⟨false,tB,.fz⟩]
def ytF (a0:dM) (a1:Int):Option (zaY yy0×zak ypS) :=let r1:=yab a0;bif(!(!r1))then bif(!a0.2.2.1)then let r2:=ya a1 0 (i64.wrap ((a0.1.length:Int)-1));bif(!(!r2))then let r3:=yhQ a0.2.2.2 a1;bif r3 then some ((([]:List Int),false,()),()) else bif(inb a1 a0.1.length)then zkt (yqA (((a1,()),((),()),((nth a0.1 a1 []),()),((),()),()),((a0.1,a0.2.1,a0.2.2.1,a0.2.2.2,()),()),())) (fun y3 =>bif(zkl ([]:List Int).length y3.1.1.1.length 8)then some (((([]:List Int)++y3.1.1.1),true,()),()) else none) (fun y3 =>none) else none else some ((([]:List Int),false,()),()) else some ((([]:List Int),false,()),()) else some ((([]:List Int),false,()),())
theorem yVh:ConOk prog 90 ⟨ypS,yy0,fun x=>ytF x.1 x.2.1⟩:=zkI (yQz) func90 ntmps90.symm fun x=>by kernel_rfl
def ybJ (a0:dM) (a1:Int):List Int×Bool:=yr a0 a1
theorem yYy (a0:dM) (a1:Int) (hk:zjx ypS (a0,a1,())):ytF a0 a1=(fun n=>some ((n.1,n.2,()),())) (ybJ a0 a1):=by
 have hb1:a0.1.length*24≤2^47:=hk.1.1.1;have hb2:a0.2.1.length*32≤2^47:=hk.1.2.1.1
 have h1: ∀s,yqA (yOx a1 s a0)=some (.inl (yA4 (yKp a1 a0.2.1 s))):=fun s =>
  zkx (step:=ycr) a0.2.1 (0,[]) (fun i s=>yoW a1 s i a0) (fun s w=>bif w.1==a1 then w.2 else s) (fun _ _=>True) (fun s=> .inl (yA4 s)) (fun i s hi _=>⟨by
   simp only[ycr,yoW,ypq,zky (show(i:Int)<a0.2.1.length by omega),cond_true,wq ((i:Int)+1) (by omega) (by omega),Int.natCast_add,Int.natCast_one,Int.toNat_natCast,zkR hi,zkS]
   cases((a0.2.1.getD i (0,[])).1==a1)<;>rfl,trivial⟩) (fun s _=>by simp only[ycr,yoW,ypq,zk3 (Int.le_refl _),cond_false]) s trivial _ (by show _<18446744073709551616; omega)
 unfold ytF ybJ yr yEC;rw[yrR (show a0.1.length≤1152921504606846976 by omega)];unfold yab yhQ;simp only[h1,zkN,List.nil_append];cases yu a0
 ·rfl
 cases a0.2.2.1
 ·cases hi:inb a1 a0.1.length
  ·rfl
  ·cases a0.2.2.2.any (· ==a1)
   ·have hs:(yKp a1 a0.2.1 (nth a0.1 a1 [])).length*8≤2^47 :=
     yLr (P:=fun s=>s.length*8≤2^47) (ye1 (P:=fun s:List Int=>s.length*8≤2^47) hi fun x hx=>(hk.1.1.2 x hx).1) fun w hw=>(hk.1.2.1.2 w hw).2.1
    simp only[Bool.not_true,Bool.not_false,cond_true,cond_false,Bool.true_and,show zkl ([]:List Int).length (yKp a1 a0.2.1 (nth a0.1 a1 [])).length 8=true from zkF.2 (by rw[List.length_nil]; omega)]
   ·rfl
 ·rfl
def ylI:Con:=⟨ypS,yy0,fun x=>(fun n=>some ((n.1,n.2,()),())) (ybJ x.1 x.2.1)⟩
theorem ywE:ConOk prog 90 ylI:=(yVh).mono (fun x r hk h=>(yYy x.1 x.2.1 hk).trans h)
def y3x:Code:=(f113.body).getD .skip
def y35:Env:=zkw TT [(82,yq)] []
theorem yTk:FrOk prog ⟨y35,9,fun _=>none⟩ y3x:=zkA mixed yd ⟨yy,trivial⟩
abbrev yBK:List Par:= [.rd tI]
abbrev yCd:List OT:= [⟨false,tI,.fz⟩]
def yJc (a0:Int):Option (zaY yCd×zak yBK) :=let r1:=ya a0 0 1099511627776;bif(!r1)then some (((-1),()),()) else some (((i64.wrap ((i64.wrap (a0+2))+4)),()),())
theorem yYZ:ConOk prog 113 ⟨yBK,yCd,fun x=>yJc x.1⟩:=zkI (yTk) func113 ntmps113.symm fun x=>by kernel_rfl
def yaO (a0:Int):Int :=let r1:=ya a0 0 1099511627776;bif(!r1)then (-1) else (i64.wrap ((i64.wrap (a0+2))+4))
def ydN:Con:=⟨yBK,yCd,fun x=>(fun n=>some ((n,()),())) (yaO x.1)⟩
theorem y1q (a0:Int):yJc a0=(fun n=>some ((n,()),())) (yaO a0):=zkV (p:=fun(n:Int)=>((n,()),())) (zkG (p:=fun(n:Int)=>((n,()),())) rfl rfl)
theorem yg6:ConOk prog 113 ydN:=(yYZ).mono (fun x r _ h=>(y1q x.1).trans h)
theorem ye8 (s:Int):yaO s=ycA s:=by
 unfold yaO ycA;rw[ybm];by_cases h:0≤s∧s≤1099511627776
 ·rw[zk2 h.1,zk2 h.2,wq (s+2) (by omega) (by omega),wr (by omega) (by omega)]
  show s+2+4=s+6;omega
 ·cases h1:(leb 0 s&&leb s 1099511627776)
  ·rfl
  ·rw[Bool.and_eq_true,zj7,zj7]at h1; exact absurd h1 h
def y3A:Code:=(f211.body).getD .skip
def y38:Env:=zkw TT [(82,yq)] []
theorem yTn:FrOk prog ⟨y38,34,fun _=>none⟩ y3A:=zkA mixed yd ⟨yy,trivial⟩
abbrev ysf:List Par:= [.rd tA,.rd tI,.rd tI]
abbrev yCg:List OT:= [⟨false,tB,.fz⟩]
def ywP (a0:dA) (a1 a2:Int):Option (zaY yCg×zak ysf) :=let r1:=ya a1 0 (i64.wrap ((a0.2.2.1.length:Int)-1));bif r1 then bif(inb a1 a0.2.2.1.length)then bif(!((((nth a0.2.2.1 a1 ([],[],false,[])).2).2).1))then bif(!(a1 !=a0.2.2.2.1))then some (((ltb a2 a0.2.2.2.2.1),()),()) else some ((true,()),()) else some ((false,()),()) else none else some ((false,()),())
theorem yY2:ConOk prog 211 ⟨ysf,yCg,fun x=>ywP x.1 x.2.1 x.2.2.1⟩:=zkI (yTn) func211 ntmps211.symm fun x=>by kernel_rfl
def yel (a0:dA) (a1 a2:Int):Bool:=yeK a0 a1 a2
theorem y1t (a0:dA) (a1 a2:Int) (hk:zjx ysf (a0,a1,a2,())):ywP a0 a1 a2=(fun n=>some ((n,()),())) (yel a0 a1 a2):=by
 have hb:a0.2.2.1.length*80≤2^47:=hk.1.2.2.1.1;unfold ywP yel yeK yc;rw[yrR (show a0.2.2.1.length≤1152921504606846976 by omega)];cases inb a1 a0.2.2.1.length
 ·rfl
 ·cases(nth a0.2.2.1 a1 ([],[],false,[])).2.2.1<;>cases(a1 !=a0.2.2.2.1)<;>rfl
def yvS:Con:=⟨ysf,yCg,fun x=>(fun n=>some ((n,()),())) (yel x.1 x.2.1 x.2.2.1)⟩
theorem yKw:ConOk prog 211 yvS:=(yY2).mono (fun x r hk h=>(y1t x.1 x.2.1 x.2.2.1 hk).trans h)
def y3M:Code:=(f246.body).getD .skip
def y4k:Env:=zkw TT [(90,ylI),(113,ydN),(211,yvS)] []
theorem yTP:FrOk prog ⟨y4k,36,fun _=>none⟩ y3M:=zkA mixed yd ⟨ywE,yg6,yKw,trivial⟩
abbrev ysl:List Par:= [.rd tA,.rd tI,.rd tI]
abbrev yCw:List OT:= [⟨false,tI,.fz⟩,⟨false,tB,.fz⟩]
def ywX (a0:dA) (a1 a2:Int):Option (zaY yCw×zak ysl) :=let r1:=yel a0 a1 a2;bif(!r1)then some ((0,false,()),()) else bif(inb a1 a0.2.2.1.length)then let r2:=yaO a2;let r3:=ybJ ((nth a0.2.2.1 a1 ([],[],false,[])).1,((nth a0.2.2.1 a1 ([],[],false,[])).2).1,(((nth a0.2.2.1 a1 ([],[],false,[])).2).2)) r2;bif(!(!r3.2))then bif((r3.1.length:Int) !=1)then some ((0,false,()),()) else bif(inb 0 r3.1.length)then some (((nth r3.1 0 0),true,()),()) else none else some ((0,false,()),()) else none
theorem yZl:ConOk prog 246 ⟨ysl,yCw,fun x=>ywX x.1 x.2.1 x.2.2.1⟩:=zkI (yTP) func246 ntmps246.symm fun x=>by kernel_rfl
def ymy (a0:dA) (a1 a2:Int):Int×Bool:=(yLI a0 a1 a2,yP a0 a1 a2)
theorem y1F (a0:dA) (a1 a2:Int) (hk:zjx ysl (a0,a1,a2,())):ywX a0 a1 a2=(fun n=>some ((n.1,n.2,()),())) (ymy a0 a1 a2):=by
 unfold ywX ymy yLI yel;simp only[zkX,ye8,ybJ];rw[show yP a0 a1 a2=(yeK a0 a1 a2&&((yqm a0 a1 a2).2&&((yqm a0 a1 a2).1.length:Int)==1))from rfl];rw[show yr (nth a0.2.2.1 a1 ([],[],false,[])) (ycA a2)=yqm a0 a1 a2 from rfl];cases hl:yeK a0 a1 a2
 ·rfl
 ·rw[show inb a1 a0.2.2.1.length=true by unfold yeK at hl; exact(Bool.and_eq_true_iff.1 hl).1]
  cases(yqm a0 a1 a2).2
  ·rfl
  ·rw[bne]
   cases h1:(((yqm a0 a1 a2).1.length:Int)==1)
   ·rfl
   ·rw[show inb 0 (yqm a0 a1 a2).1.length=true from zj6.2 (by have:=beq_iff_eq.1 h1; omega)]; rfl
def yIs:Con:=⟨ysl,yCw,fun x=>(fun n=>some ((n.1,n.2,()),())) (ymy x.1 x.2.1 x.2.2.1)⟩
theorem y2y:ConOk prog 246 yIs:=(yZl).mono (fun x r hk h=>(y1F x.1 x.2.1 x.2.2.1 hk).trans h)
def yii:Code:=(f247.body).getD .skip
def yol:Env:=zkw TT [] []
theorem yKi:FrOk prog ⟨yol,23,fun _=>none⟩ yii:=zkA mixed yd trivial
def yuu:Nat→Option Seg:=fun _=>none
def yav:Shape:=⟨[(0,false,[.br tI]),(1,false,[.int .i64]),(5,false,[.int .i64]),(6,false,[.int .i64])],[],[]⟩
def yc5:Shape:=⟨[(0,false,[.br tI]),(1,false,[.int .i64]),(5,false,[.ci .i64 0]),(6,false,[.ci .i64 0])],[],[]⟩
def yc3:Shape:=⟨[(5,false,[.int .i64])],[],[]⟩
def yfP:Shape:=⟨[],[],[]⟩
abbrev yjH (v0:List Int) (v1 v2 v3:Int):(yav).X:=(((v0,()),(v1,()),(v2,()),(v3,()),()),(),())
abbrev yJF (v0:List Int) (v1:Int):(yc5).X:=(((v0,()),(v1,()),((),()),((),()),()),(),())
abbrev yJD (v0:Int):(yc3).X:=(((v0,()),()),(),())
def yjN (v0:List Int) (v1 v2 v3:Int):Option ((yav).X ⊕ ((yc3).X ⊕ (yfP).X)) :=bif(ltb v3 (v0.length:Int))then bif(v3 !=v1)then bif(inb v3 v0.length)then some (.inl (((v0,()),(v1,()),((i64.wrap ((BitVec.ofInt IntKind.i64.bits v2 ^^^ BitVec.ofInt IntKind.i64.bits (nth v0 v3 0)).toNat:Int)),()),((i64.wrap (v3+1)),()),()),(),())) else none else some (.inl (((v0,()),(v1,()),(v2,()),((i64.wrap (v3+1)),()),()),(),())) else some (.inr (.inl (((v2,()),()),(),())))
def yaF (x:(yav).X):=yjN x.1.1.1 x.1.2.1.1 x.1.2.2.1.1 x.1.2.2.2.1.1
def yrO (x:(yc5).X):(yav).X:=(((x.1.1.1,()),(x.1.2.1.1,()),(0,()),(0,()),()),(),())
def yt5:Code:=(zd7 yii 64 116).getD .skip
theorem yJZ:zd7 yii 64 29=some (.block 0 (.loop yt5)):=by kernel_rfl
theorem yKI (x:(yav).X):zhu ⟨yol,23,yuu⟩ 0 yt5 116 yav yc3 yfP x=yaF x:=by kernel_rfl
def yrQ (x:(yc5).X):Nat:=18446744073709551616
def ykh (x:(yc5).X):Option ((yc3).X ⊕ (yfP).X):=zF yaF (yrQ x) (yrO x)
def yrV:Seg:=⟨yc5,yc3,yfP,ykh⟩
def yKS:Nat→Option Seg:=fun q=>bif Nat.beq q 29 then some yrV else yuu q
theorem yKj:FrOk prog ⟨yol,23,yKS⟩ yii:=(yKi).loop (sg:=yrV) yav yrO (by decide) yJZ yaF yrQ (by decide) (fun _=>rfl) (fun x r _ h=>h) yKI
abbrev yiq:List Par:= [.rd tL,.rd tI]
abbrev yoG:List OT:= [⟨false,tI,.fz⟩]
def yl1 (a0:List Int) (a1:Int):Option (zaY yoG×zak yiq) :=zkt (ykh (((a0,()),(a1,()),((),()),((),()),()),(),())) (fun y0 =>some ((y0.1.1.1,()),())) (fun y0 =>none)
theorem yLw:ConOk prog 247 ⟨yiq,yoG,fun x=>yl1 x.1 x.2.1⟩:=zkI (yKj) func247 ntmps247.symm fun x=>by kernel_rfl
def yfG (a0:List Int) (a1:Int):Int:=yzl a0 a1
theorem yMH (a0:List Int) (a1:Int) (hk:zjx yiq (a0,a1,())):yl1 a0 a1=(fun n=>some ((n,()),())) (yfG a0 a1):=by
 have hb:a0.length*8≤2^47:=hk.1.1
 have h1:=zkD (step:=yaF) a0.length (fun i s=>yjH a0 a1 s i) (fun n (i:Nat)=>bif(i:Int) !=a1 then xw n (nth a0 i 0)else n) (fun _ _=>True) (fun s=> .inl (yJD s)) (fun i s hi _=>⟨by
  simp only[yaF,yjH,yjN,zky (show(i:Int)<a0.length by omega),cond_true,wq ((i:Int)+1) (by omega) (by omega),Int.natCast_add,Int.natCast_one,Int.toNat_natCast,zkR hi]
  cases((i:Int) !=a1)<;>rfl,trivial⟩) (fun s _=>by simp only[yaF,yjH,yjN,zk3 (Int.le_refl _),cond_false]) 0 trivial 18446744073709551616 (by omega)
 rw[y7t]at h1;unfold yl1 yfG;rw[show ykh (yJF a0 a1)=_ from h1]; rfl
def yvT:Con:=⟨yiq,yoG,fun x=>(fun n=>some ((n,()),())) (yfG x.1 x.2.1)⟩
theorem yMR:ConOk prog 247 yvT:=(yLw).mono (fun x r hk h=>(yMH x.1 x.2.1 hk).trans h)
def ypI:Code:=(f227.body).getD .skip
def yyu:Env:=zkw TT [(246,yIs),(247,yvT)] []
theorem yQJ:FrOk prog ⟨yyu,45,fun _=>none⟩ ypI:=zkA mixed yd ⟨y2y,yMR,trivial⟩
def yET:Nat→Option Seg:=fun _=>none
def yb7:Shape:=⟨[(1,false,[.int .i64]),(2,false,[.ptr 0 0]),(6,false,[.at 800000000]),(7,false,[.int .i64]),(8,false,[.int .i64])],[(0,[.int .i64,.int .i64,.int .i64,.br tM,.int .i64,.int .i64,.int .i64,.int .i64,.int .i64,.br tW,.int .i64,.bool,.bool])],[(800000000,tI,.fz)]⟩
def ygC:Shape:=⟨[(1,false,[.int .i64]),(2,false,[.ptr 0 0]),(6,false,[.at 800000000]),(7,false,[.ci .i64 (-1)]),(8,false,[.ci .i64 0])],[(0,[.int .i64,.int .i64,.int .i64,.br tM,.int .i64,.int .i64,.int .i64,.int .i64,.int .i64,.br tW,.int .i64,.bool,.bool])],[(800000000,tI,.fz)]⟩
def ygn:Shape:=⟨[(6,false,[.at 800000000]),(7,false,[.int .i64])],[],[(800000000,tI,.fz)]⟩
def ygJ:Shape:=⟨[(4,false,[.at 800000000]),(5,false,[.bool])],[],[(800000000,tI,.fz)]⟩
abbrev yoZ (v0 v1 v2:Int) (v3:dA) (v4:List Int):(yb7).X:=(((v0,()),((),()),((),()),(v1,()),(v2,()),()),((v3.1,v3.2.1.1,v3.2.1.2,v3.2.2.1,v3.2.2.2.1,v3.2.2.2.2.1,v3.2.2.2.2.2.1,v3.2.2.2.2.2.2.1,v3.2.2.2.2.2.2.2.1,v3.2.2.2.2.2.2.2.2.1,v3.2.2.2.2.2.2.2.2.2.1,v3.2.2.2.2.2.2.2.2.2.2.1,v3.2.2.2.2.2.2.2.2.2.2.2,()),()),(v4,()))
abbrev yOA (v0:Int) (v1:dA) (v2:List Int):(ygC).X:=(((v0,()),((),()),((),()),((),()),((),()),()),((v1.1,v1.2.1.1,v1.2.1.2,v1.2.2.1,v1.2.2.2.1,v1.2.2.2.2.1,v1.2.2.2.2.2.1,v1.2.2.2.2.2.2.1,v1.2.2.2.2.2.2.2.1,v1.2.2.2.2.2.2.2.2.1,v1.2.2.2.2.2.2.2.2.2.1,v1.2.2.2.2.2.2.2.2.2.2.1,v1.2.2.2.2.2.2.2.2.2.2.2,()),()),(v2,()))
abbrev yOl (v0:Int) (v1:List Int):(ygn).X:=((((),()),(v0,()),()),(),(v1,()))
abbrev yOH (v0:Bool) (v1:List Int):(ygJ).X:=((((),()),(v0,()),()),(),(v1,()))
def ypu (v0 v1 v2 v3 v4 v5:Int) (v6:List dM) (v7 v8 v9 v10 v11:Int) (v12:List dW) (v13:Int) (v14 v15:Bool) (v16:List Int):Option ((yb7).X ⊕ ((ygn).X ⊕ (ygJ).X)) :=bif(ltb v2 v4)then let r2:=ymy (v3,(v4,v5),v6,v7,v8,v9,v10,v11,v12,v13,v14,v15) v2 v0;bif(!r2.2)then bif(leb 0 v1)then some (.inr (.inr ((((),()),(false,()),()),(),(([]:List Int),())))) else bif(zkl v16.length ([r2.1]:List Int).length 8)then some (.inl (((v0,()),((),()),((),()),(v2,()),((i64.wrap (v2+1)),()),()),((v3,v4,v5,v6,v7,v8,v9,v10,v11,v12,v13,v14,v15,()),()),((v16++([r2.1]:List Int)),()))) else none else bif(zkl v16.length ([r2.1]:List Int).length 8)then some (.inl (((v0,()),((),()),((),()),(v1,()),((i64.wrap (v2+1)),()),()),((v3,v4,v5,v6,v7,v8,v9,v10,v11,v12,v13,v14,v15,()),()),((v16++([r2.1]:List Int)),()))) else none else some (.inr (.inl ((((),()),(v1,()),()),(),(v16,()))))
def ycv (x:(yb7).X):=ypu x.1.1.1 x.1.2.2.2.1.1 x.1.2.2.2.2.1.1 x.2.1.1.1 x.2.1.1.2.1 x.2.1.1.2.2.1 x.2.1.1.2.2.2.1 x.2.1.1.2.2.2.2.1 x.2.1.1.2.2.2.2.2.1 x.2.1.1.2.2.2.2.2.2.1 x.2.1.1.2.2.2.2.2.2.2.1 x.2.1.1.2.2.2.2.2.2.2.2.1 x.2.1.1.2.2.2.2.2.2.2.2.2.1 x.2.1.1.2.2.2.2.2.2.2.2.2.2.1 x.2.1.1.2.2.2.2.2.2.2.2.2.2.2.1 x.2.1.1.2.2.2.2.2.2.2.2.2.2.2.2.1 x.2.2.1
def yAB (x:(ygC).X):(yb7).X:=(((x.1.1.1,()),((),()),((),()),((-1),()),(0,()),()),((x.2.1.1.1,x.2.1.1.2.1,x.2.1.1.2.2.1,x.2.1.1.2.2.2.1,x.2.1.1.2.2.2.2.1,x.2.1.1.2.2.2.2.2.1,x.2.1.1.2.2.2.2.2.2.1,x.2.1.1.2.2.2.2.2.2.2.1,x.2.1.1.2.2.2.2.2.2.2.2.1,x.2.1.1.2.2.2.2.2.2.2.2.2.1,x.2.1.1.2.2.2.2.2.2.2.2.2.2.1,x.2.1.1.2.2.2.2.2.2.2.2.2.2.2.1,x.2.1.1.2.2.2.2.2.2.2.2.2.2.2.2.1,()),()),(x.2.2.1,()))
def yDo:Code:=(zd7 ypI 64 244).getD .skip
theorem yP1:zd7 ypI 64 61=some (.block 0 (.loop yDo)):=by kernel_rfl
theorem ySb (x:(yb7).X):zhu ⟨yyu,45,yET⟩ 0 yDo 244 yb7 ygn ygJ x=ycv x:=by kernel_rfl
def yAT (x:(ygC).X):Nat:=18446744073709551616
def yqE (x:(ygC).X):Option ((ygn).X ⊕ (ygJ).X):=zF ycv (yAT x) (yAB x)
def yBn:Seg:=⟨ygC,ygn,ygJ,yqE⟩
def ySG:Nat→Option Seg:=fun q=>bif Nat.beq q 61 then some yBn else yET q
theorem yQK:FrOk prog ⟨yyu,45,ySG⟩ ypI:=(yQJ).loop (sg:=yBn) yb7 yAB (by decide) yP1 ycv yAT (by decide) (fun _=>rfl) (fun x r _ h=>h) ySb
abbrev yko:List Par:= [.rd tA,.rd tI]
abbrev yp1:List OT:= [⟨false,tL,(.ow .fz)⟩,⟨false,tB,.fz⟩]
def ytL (a0:dA) (a1:Int):Option (zaY yp1×zak yko) :=zkt (yqE (((a1,()),((),()),((),()),((),()),((),()),()),((a0.1,a0.2.1.1,a0.2.1.2,a0.2.2.1,a0.2.2.2.1,a0.2.2.2.2.1,a0.2.2.2.2.2.1,a0.2.2.2.2.2.2.1,a0.2.2.2.2.2.2.2.1,a0.2.2.2.2.2.2.2.2.1,a0.2.2.2.2.2.2.2.2.2.1,a0.2.2.2.2.2.2.2.2.2.2.1,a0.2.2.2.2.2.2.2.2.2.2.2,()),()),(([]:List Int),()))) (fun y2 =>bif(leb 0 y2.1.2.1.1)then let r4:=yfG y2.2.2.1 y2.1.2.1.1;bif(inb y2.1.2.1.1 y2.2.2.1.length)then some (((y2.2.2.1.set (y2.1.2.1.1).toNat r4),true,()),()) else none else some ((y2.2.2.1,true,()),())) (fun y2 =>some ((y2.2.2.1,y2.1.2.1.1,()),()))
theorem yVp:ConOk prog 227 ⟨yko,yp1,fun x=>ytL x.1 x.2.1⟩:=zkI (yQK) func227 ntmps227.symm fun x=>by kernel_rfl
def yg4 (a0:dA) (a1:Int):List Int×Bool:=yaA a0 a1
def yzw (a0:dA) (a1:Int):Bool:=yf a0.2.1
theorem yYF (a0:dA) (a1:Int) (hk:zjx yko (a0,a1,())) (hq:yzw a0 a1=true):ytL a0 a1=(fun n=>some ((n.1,n.2,()),())) (yg4 a0 a1):=by
 have hg:=yk.1 hq
 have h1:yqE (yOA a1 a0 [])=some (bif yYa (fun(i:Nat)=>yP a0 i a1) a0.2.1.1.toNat then .inr (yOH false [])else .inl (yOl (yaj (fun(i:Nat)=>yP a0 i a1) a0.2.1.1.toNat) (yaK a0 a1 a0.2.1.1.toNat))) :=
  zji (step:=ycv) (fun i=>yoZ a1 (yaj (fun(i:Nat)=>yP a0 i a1) i) i a0 (yaK a0 a1 i)) a0.2.1.1.toNat (fun i=> !yP a0 i a1&&leb 0 (yaj (fun(i:Nat)=>yP a0 i a1) i)) _ _ (fun i hi=>by
   simp only[ycv,yoZ,ypu,zky (show(i:Int)<a0.2.1.1 by omega),cond_true,wq ((i:Int)+1) (by omega) (by omega),Int.natCast_add,Int.natCast_one,Int.toNat_natCast,zkX,ymy,yaj];rw[zkF.2 (show((yaK a0 a1 i).length+ [yLI a0 i a1].length)*8≤140737488355328 by simp only[List.length_cons,List.length_nil,yxg]; omega),y40]
   cases yP a0 i a1<;>cases leb 0 (yaj (fun(i:Nat)=>yP a0 i a1) i)<;>rfl) (by simp only[ycv,yoZ,ypu,zk3 (show a0.2.1.1≤(a0.2.1.1.toNat:Int)by omega),cond_false]) _ (by show _<18446744073709551616; omega)
 unfold ytL yg4 yaA;rw[h1];cases yYa (fun(i:Nat)=>yP a0 i a1) a0.2.1.1.toNat
 ·simp only[cond_false,zkN,yfG]
  cases hm:leb 0 (yaj (fun(i:Nat)=>yP a0 i a1) a0.2.1.1.toNat)
  ·rfl
  ·obtain⟨h2,h3⟩:=y7u a0 a1 a0.2.1.1.toNat hm
   rw[h2,h3]; rfl
 ·rfl
def yk1 (a0:dA) (a1:Int):Option (zaY yp1×zak yko):=bif yzw a0 a1 then(fun n=>some ((n.1,n.2,()),())) (yg4 a0 a1)else none
theorem yI0 (a0:dA) (a1:Int) (h:yzw a0 a1=true):yk1 a0 a1=(fun n=>some ((n.1,n.2,()),())) (yg4 a0 a1):=by unfold yk1; rw[h]; rfl
def ys5:Con:=⟨yko,yp1,fun x=>yk1 x.1 x.2.1⟩
theorem yIU:ConOk prog 227 ys5:=(yVp).mono (fun x r hk h=>zkY h (fun hq=>yYF x.1 x.2.1 hk hq))
def yWo:Code:=(f229.body).getD .skip
def yWV:Env:=zkw TT [(82,yq),(150,ygY)] []
theorem yN8:FrOk prog ⟨yWV,14,fun _=>none⟩ yWo:=zkA mixed yd ⟨yy,ymA,trivial⟩
abbrev yvb:List Par:= [.rd tG,.rd tI]
abbrev yvC:List OT:= [⟨false,tB,.fz⟩]
def yEf (a0:dG) (a1:Int):Option (zaY yvC×zak yvb) :=let r1:=yf a0;bif r1 then let r2:=ya a1 0 (i64.wrap (a0.2-1));some ((r2,()),()) else some ((false,()),())
theorem yRL:ConOk prog 229 ⟨yvb,yvC,fun x=>yEf x.1 x.2.1⟩:=zkI (yN8) func229 ntmps229.symm fun x=>by kernel_rfl
def yfU (a0:dG) (a1:Int):Bool :=let r1:=yf a0;bif r1 then let r2:=ya a1 0 (i64.wrap (a0.2-1));r2 else false
def yqX:Con:=⟨yvb,yvC,fun x=>(fun n=>some ((n,()),())) (yfU x.1 x.2.1)⟩
theorem yUW (a0:dG) (a1:Int):yEf a0 a1=(fun n=>some ((n,()),())) (yfU a0 a1):=zkV (p:=fun(n:Bool)=>((n,()),())) (zkG (p:=fun(n:Bool)=>((n,()),())) rfl rfl)
theorem yG6:ConOk prog 229 yqX:=(yRL).mono (fun x r _ h=>(yUW x.1 x.2.1).trans h)
theorem ySo (g:dG) (s:Int):yfU g s=ycH g s:=by
 unfold yfU ycH;cases hg:yf g
 ·rfl
 have:=yk.1 hg;rw[ybm,wr (by omega) (by omega)]; rfl
end
end Go.Tf
