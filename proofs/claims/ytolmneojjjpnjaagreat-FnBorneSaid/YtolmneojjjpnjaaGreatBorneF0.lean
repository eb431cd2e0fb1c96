/- Functions of the program, and what they come to. -/
import Derived.Test.YtolmneojjjpnjaaGreatBorneTt
namespace Go.Tf
noncomputable section
open Go.Proofs Go.Proofs.Tryz IntKind
set_option synthInstance.maxHeartbeats 400000
set_option synthInstance.maxSize 10000
set_option linter.unusedVariables false
set_option linter.unusedSimpArgs false
set_option maxRecDepth 100000
def yYV:Code:=(f14.body).getD .skip
def yYW:Env:=zkw TT [] []
theorem yWs:FrOk prog ⟨yYW,6,fun _=>none⟩ yYV:=zkA mixed yc trivial
abbrev yFt:List Par:= [.rd tYs]
abbrev yFu:List OT:= [⟨false,tB,.fz⟩]
def yIU (a0:List Int):Option (zaY yFu×zak yFt) :=some (((ltb 1048576 (a0.length:Int)),()),())
theorem yXZ:ConOk prog 14 ⟨yFt,yFu,fun x=>yIU x.1⟩:=zkI (yWs) func14 ntmps14.symm fun x=>by kernel_rfl
def yzQ (a0:List Int):Bool :=(ltb 1048576 (a0.length:Int))
def yHm:Con:=⟨yFt,yFu,fun x=>(fun n=>some ((n,()),())) (yzQ x.1)⟩
theorem yYu (a0:List Int):yIU a0=(fun n=>some ((n,()),())) (yzQ a0):=zkV (p:=fun(n:Bool)=>((n,()),())) rfl
theorem yYw:ConOk prog 14 yHm:=(yXZ).mono (fun x r _ h=>(yYu x.1).trans h)
def yW {α:Type} (p:α→Bool) (l:List α):Int:=bif l.any p then((l.takeWhile (fun x=> !p x)).length:Int)else -1
theorem yVf {α:Type} (p:α→Bool):yW p []= -1:=rfl
theorem ys5 {α:Type} (p:α→Bool) (x:α) (l:List α):yW p (x::l)=bif p x then 0 else bif leb 0 (yW p l)then yW p l+1 else -1:=by
 unfold yW;rw[List.any_cons,List.takeWhile_cons];cases p x
 ·cases l.any p
  ·rfl
  ·simp only[Bool.false_or,Bool.not_false,if_true,cond_true,cond_false,List.length_cons]
   rw[zk2 (show(0:Int)≤((l.takeWhile (fun x=> !p x)).length:Int)by omega),cond_true]; omega
 ·simp
theorem yj4 {α:Type} {p:α→Bool} {d:α}: ∀{l:List α},leb 0 (yW p l)=true→inb (yW p l) l.length=true∧p (nth l (yW p l) d)=true
 | [],h=>by rw[yVf]at h; cases h
 | x::l,h=>by
  rw[ys5]at h ⊢;cases hx:p x
  ·rw[hx]at h
   cases hl:leb 0 (yW p l)
   ·rw[hl]at h; cases h
   ·obtain⟨h1,h2⟩:=yj4 (d:=d) hl
    have h3:=zj6.1 h1;have h4:=zj7.1 hl;simp only[cond_false,cond_true,List.length_cons];refine⟨zj6.2 (by omega),?_⟩;unfold nth at h2 ⊢;rw[show(yW p l+1).toNat=(yW p l).toNat+1 by omega,List.getD_cons_succ];exact h2
  ·simp only[cond_true,List.length_cons]
   refine⟨zj6.2 (by omega),?_⟩;exact hx
theorem yDB {A B α:Type} {step:A→Option (A ⊕ B)} (l:List α) (d:α) (f:Nat→A) (p:α→Bool) (b:Int→B) (c:B)
  (h: ∀i,i<l.length→step (f i)=some (bif p (l.getD i d)then .inr (b i)else .inl (f (i+1)))) (e:step (f l.length)=some (.inr c)) (fuel:Nat) (hf:l.length<fuel) :
  zF step fuel (f 0)=some (bif leb 0 (yW p l)then b (yW p l)else c):=by
 have: ∀(t q:List α) (fuel:Nat),q++t=l→t.length<fuel→zF step fuel (f q.length)=some (bif leb 0 (yW p t)then b (q.length+yW p t)else c):=by
  intro t
  induction t with
  | nil =>
   intro q fuel hq hf;obtain⟨fuel,rfl⟩: ∃m,fuel=m+1:=⟨fuel-1,by omega⟩;rw[List.append_nil]at hq;subst hq;simp only[zF,e]; rfl
  | cons x t ih =>
   intro q fuel hq hf;obtain⟨fuel,rfl⟩: ∃m,fuel=m+1:=⟨fuel-1,by omega⟩
   have hx:l.getD q.length d=x:=by
    subst hq;rw[zkJ (by simp)]; simp
   have hs:=h q.length (by rw[← hq]; simp);rw[hx]at hs;rw[ys5];cases hp:p x
   ·rw[hp]at hs
    have:=ih (q++ [x]) fuel (by rw[← hq]; simp) (by simp at hf; omega);simp only[List.length_append,List.length_cons,List.length_nil]at this;simp only[zF,hs,cond_false];rw[show q.length+1=q.length+(0+1)by omega,this];cases hl:leb 0 (yW p t)
    ·rfl
    ·have:=zj7.1 hl
     rw[cond_true,cond_true,zk2 (show 0≤yW p t+1 by omega),cond_true];congr 2; omega
   ·rw[hp]at hs
    simp only[zF,hs,cond_true];rw[zk2 (Int.le_refl 0),cond_true,Int.add_zero]
 have:=this l [] fuel rfl hf;simpa using this
theorem ysZ {α β:Type} (f:α→β): ∀(l:List α) (s:List β),l.foldl (fun s i=>s++ [f i]) s=s++l.map f
 | [],s=>by simp
 | x::l,s=>by rw[List.foldl_cons,ysZ f l]; simp
theorem yvn {α:Type} (l:List α):l.foldl (fun s i=>s++ [i]) []=l:=by
 have:=ysZ id l [];simpa using this
theorem yZN {α:Type} (l:List α) (d:α) {i:Nat} (h:i<l.length):l.take i++ [nth l i d]=l.take (i+1):=by rw[zkS,zkJ h,List.take_append_getElem h]
def ycj (e:dW) (s:Bool×List dW) (x:dW):Bool×List dW:=(s.1||leb e.1 x.1,(bif !s.1&&leb e.1 x.1 then s.2++ [e]else s.2)++(bif x.1 !=e.1 then[x]else[]))
def yFg (l:List dW) (e:dW):List dW:=bif(l.foldl (ycj e) (false,[])).1 then(l.foldl (ycj e) (false,[])).2 else(l.foldl (ycj e) (false,[])).2++ [e]
def yCk (a:dA) (l:List dW):dA:=(a.1,a.2.1,a.2.2.1,a.2.2.2.1,a.2.2.2.2.1,a.2.2.2.2.2.1,a.2.2.2.2.2.2.1,a.2.2.2.2.2.2.2.1,l,a.2.2.2.2.2.2.2.2.2)
abbrev yd:dM:=([],[],false,[])
def isW (x:Int):Bool:=leb 0 x&&leb x 65535
def yai (s:List Int):Bool:=leb (s.length:Int) 12&&s.all isW
theorem yzW {x:Int}:isW x=true↔0≤x∧x≤65535:=by simp[isW,zj7]
theorem yIV {s:List Int}:yai s=true↔s.length≤12∧ ∀x∈s,0≤x∧x≤65535:=by
 simp only[yai,Bool.and_eq_true,zj7,List.all_eq_true,yzW];constructor
 ·rintro⟨h1,h2⟩; exact⟨by omega,h2⟩
 ·rintro⟨h1,h2⟩; exact⟨by omega,h2⟩
theorem yYD: ∀{l:List Int},l.Pairwise (· < ·)↔ ∀i,i+1<l.length→l.getD i 0<l.getD (i+1) 0
 | []=>by simp
 | [x]=>by simp
 | x::y::l=>by
  have ih:=yYD (l:=y::l);constructor
  ·intro h i hi
   cases h with
   | cons h1 h2 =>
    cases i with
    | zero=>exact h1 y List.mem_cons_self
    | succ i=>exact ih.1 h2 i (by simpa using hi)
  ·intro h
   have h2:(y::l).Pairwise (· < ·):=ih.2 fun i hi=>h (i+1) (by simpa using hi)
   refine .cons (fun z hz=> ?_) h2;have h3:x<y:=h 0 (by simp);rcases List.mem_cons.1 hz with rfl | hz
   ·exact h3
   ·cases h2 with
    | cons h4 _=>exact Int.lt_trans h3 (h4 z hz)
def ynN (n:Nat) (l:List Int):Bool:=l.all (fun x=>inb x n)&&decide (l.Pairwise (· < ·))
def yq2 (n:Nat) (w:dW):Bool:=inb w.1 n&&yai w.2
def yr (m:dM):Bool:=m.1.all yai&&m.2.1.all (yq2 m.1.length)&&ynN m.1.length m.2.2.2&&leb 1 (m.1.length:Int)&&leb (m.1.length:Int) 20&&leb (m.2.1.length:Int) 60
def yCR (n:Nat) (l:List Int) (i:Nat):Bool:= !(inb (l.getD i 0) n)||(decide (0<i)&&leb (l.getD i 0) (l.getD (i-1) 0))
theorem yU2 (n:Nat) (l:List Int):(List.range l.length).any (yCR n l)= !(ynN n l):=by
 rw[Bool.eq_iff_iff,List.any_eq_true,Bool.not_eq_true',ynN,Bool.and_eq_false_iff,decide_eq_false_iff_not,yYD,List.all_eq_false];simp only[List.mem_range,yCR,Bool.or_eq_true,Bool.not_eq_true',Bool.and_eq_true,decide_eq_true_eq,zj7];constructor
 ·rintro⟨i,hi,h | ⟨h1,h2⟩⟩
  ·exact .inl ⟨l[i],List.getElem_mem hi,by rw[zkJ hi]at h; simp[h]⟩
  ·refine .inr fun h3=> ?_
   have:=h3 (i-1) (by omega);rw[show i-1+1=i by omega]at this;omega
 ·rintro(⟨x,hx,h⟩ | h)
  ·obtain⟨i,hi,rfl⟩:=List.getElem_of_mem hx
   exact⟨i,hi,.inl (by rw[zkJ hi]; simpa using h)⟩
  ·refine Classical.byContradiction fun hc=>h fun i hi=> ?_
   refine Classical.byContradiction fun h4=>hc ⟨i+1,hi,.inr ⟨by omega,?_⟩⟩
   rw[Nat.add_sub_cancel]; omega
def ygI (n:Int) (c:List dW) (s:List Int):List Int:=c.foldl (fun s w=>bif w.1==n then w.2 else s) s
def yzV (m:dM) (n:Int):Bool:=yr m&&(!m.2.2.1&&(inb n m.1.length&& !(m.2.2.2.any (· ==n))))
def yha (m:dM) (n:Int):List Int×Bool:=bif yzV m n then(ygI n m.2.1 (nth m.1 n []),true)else([],false)
theorem yFT {P:List Int→Prop} {n:Int}: ∀{c:List dW} {s:List Int},P s→(∀w∈c,P w.2)→P (ygI n c s)
 | [],_,h,_=>h
 | w::c,s,h,hc=>yFT (c:=c) (zkQ (hc w List.mem_cons_self) h) (fun x hx=>hc x (List.mem_cons_of_mem _ hx))
theorem yvr {α:Type} {P:α→Prop} {l:List α} {i:Int} {d:α} (h:inb i l.length=true) (hl: ∀x∈l,P x):P (nth l i d):=by
 obtain⟨h1,h2⟩:=zj6.1 h;unfold nth;rw[zkJ (show i.toNat<l.length by omega)];exact hl _ (List.getElem_mem _)
theorem yI9 {α:Type} {p:α→Bool} {l:List α} (h:leb 0 (yW p l)=false):yW p l= -1:=by
 unfold yW at h ⊢;cases ha:l.any p
 ·rfl
 ·rw[ha,cond_true,zk2 (show(0:Int)≤((l.takeWhile (fun x=> !p x)).length:Int)by omega)]at h; cases h
theorem yVg {α:Type} {p:α→Bool}: ∀{l:List α},leb 0 (yW p l)=true→(l.take ((yW p l).toNat+1)).filter (fun x=> !p x)=l.take (yW p l).toNat
 | [],h=>by rw[yVf]at h; cases h
 | x::l,h=>by
  rw[ys5]at h ⊢;cases hx:p x
  ·rw[hx]at h
   cases hl:leb 0 (yW p l)
   ·rw[hl]at h; cases h
   ·have h4:=zj7.1 hl
    simp only[cond_false,cond_true];rw[show(yW p l+1).toNat=(yW p l).toNat+1 by omega,List.take_succ_cons,List.take_succ_cons,List.filter_cons,hx,yVg hl]; rfl
  ·simp only[cond_true]
   show List.filter (fun x=> !p x) [x]= [];rw[List.filter_cons,hx]; rfl
theorem y0b {α:Type} {p:α→Bool} {l:List α} (h:leb 0 (yW p l)=false):l.filter (fun x=> !p x)=l:=by
 rw[List.filter_eq_self];intro x hx;unfold yW at h;cases ha:l.any p
 ·have:=List.any_eq_false.1 ha x hx
  simpa using this
 ·rw[ha,cond_true,zk2 (show(0:Int)≤((l.takeWhile (fun x=> !p x)).length:Int)by omega)]at h; cases h
def yan (a:dA):dA:=(a.1,a.2.1,a.2.2.1,a.2.2.2.1,a.2.2.2.2.1,i64.wrap (a.2.2.2.2.2.1+1),a.2.2.2.2.2.2)
def yQ (s:Int):Int:=bif leb 0 s&&leb s 1099511627776 then s+6 else -1
def ycf (a:dA) (m s:Int):Bool:=inb m a.2.2.1.length&&(!(nth a.2.2.1 m yd).2.2.1&&(m !=a.2.2.2.1||ltb s a.2.2.2.2.1))
def ycX (a:dA) (m s:Int):List Int×Bool:=yha (nth a.2.2.1 m yd) (yQ s)
def yp (a:dA) (m s:Int):Bool:=ycf a m s&&((ycX a m s).2&&((ycX a m s).1.length:Int)==1)
def yo9 (a:dA) (m s:Int):Int:=bif yp a m s then nth (ycX a m s).1 0 0 else 0
def xw (a b:Int):Int:=i64.wrap ((BitVec.ofInt IntKind.i64.bits a ^^^ BitVec.ofInt IntKind.i64.bits b).toNat:Int)
def yao (l:List Int):Int:=l.foldl xw 0
def bv (x:Int):BitVec 64:=BitVec.ofInt 64 x
theorem yXc (a b:Int):xw a b=(bv a ^^^ bv b).toInt:=by
 show i64.wrap ((bv a ^^^ bv b).toNat:Int)=_;rw[IntKind.wrap_i64,BitVec.toInt_eq_toNat_cond];have:=(bv a ^^^ bv b).isLt;split<;>omega
theorem yvf (v:BitVec 64):bv v.toInt=v:=by unfold bv; simp
theorem y0o {x:Int} (h: -9223372036854775808≤x) (h2:x≤9223372036854775807):(bv x).toInt=x:=by
 unfold bv;rw[BitVec.toInt_ofInt,Int.bmod_def];simp only[Nat.reducePow]at *;omega
def yeP (l:List Int):BitVec 64:=l.foldl (fun v x=>v ^^^ bv x) 0#64
theorem yni (l:List Int):yao l=(yeP l).toInt:=by
 have: ∀(l:List Int) (v:BitVec 64),l.foldl xw v.toInt=(l.foldl (fun v x=>v ^^^ bv x) v).toInt:=by
  intro l
  induction l with
  | nil=>intro _; rfl
  | cons x l ih =>
   intro v;rw[List.foldl_cons,List.foldl_cons,yXc,yvf,ih]
 have h:=this l 0#64;rwa[show(0#64:BitVec 64).toInt=0 from by decide]at h
theorem yZ1 (l:List Int) (x:Int):yeP (l++ [x])=yeP l ^^^ bv x:=by unfold yeP; rw[List.foldl_append]; rfl
theorem y0z {i:Int} {n:Nat} (h: ¬(0≤i∧i<(n:Int))):inb i n=false:=by
 cases e:inb i n
 ·rfl
 ·exact absurd (zj6.1 e) h
def ymG (l:List Int) (k:Int):Int:=bif inb k l.length then xw (yao l) (nth l k 0)else yao l
theorem yVu (u v:BitVec 64):u ^^^ v ^^^ v=u:=by rw[BitVec.xor_assoc,BitVec.xor_self,BitVec.xor_zero]
theorem yZJ (l:List Int) (k:Int):(List.range l.length).foldl (fun n (i:Nat)=>bif(i:Int) !=k then xw n (nth l i 0)else n) 0=ymG l k:=by
 have: ∀n,n≤l.length→(List.range n).foldl (fun n (i:Nat)=>bif(i:Int) !=k then xw n (nth l i 0)else n) 0=(bif inb k n then yeP (l.take n) ^^^ bv (nth l k 0)else yeP (l.take n)).toInt:=by
  intro n
  induction n with
  | zero =>
   intro _;rw[y0z (show ¬(0≤k∧k<((0:Nat):Int))by omega)];rfl
  | succ n ih =>
   intro hn;rw[List.range_succ,List.foldl_append,List.foldl_cons,List.foldl_nil,ih (by omega),← yZN l 0 (show n<l.length by omega),yZ1];by_cases hk:(n:Int)=k
   ·subst hk
    rw[show((n:Int) !=n)=false by simp,cond_false,y0z (show ¬(0≤(n:Int)∧(n:Int)<(n:Int))by omega),show inb (n:Int) (n+1)=true from zkR (Nat.lt_succ_self n),cond_false,cond_true,yVu]
   ·rw[show((n:Int) !=k)=true from bne_iff_ne.2 hk,cond_true,show inb k (n+1)=inb k n by rw[Bool.eq_iff_iff,zj6,zj6]; omega,yXc,yvf]
    cases inb k n
    ·rfl
    ·rw[cond_true,cond_true,BitVec.xor_assoc,BitVec.xor_comm (bv (nth l k 0)),← BitVec.xor_assoc]
 rw[this l.length (Nat.le_refl _),List.take_length];unfold ymG;rw[yXc,yni,yvf];cases inb k l.length<;>rfl
theorem yZI {l:List Int} {k:Int} (h:inb k l.length=true) (h0:nth l k 0=0):ymG l k=yao l:=by
 unfold ymG;rw[h,h0,cond_true,yXc,yni,yvf,show bv 0=0#64 by decide,BitVec.xor_zero]
theorem yVd {α β:Type} (f:α→List β): ∀(l:List α) (s:List β),l.foldl (fun s i=>s++f i) s=s++l.flatMap f
 | [],s=>by simp
 | x::l,s=>by rw[List.foldl_cons,yVd f l]; simp
abbrev yem:dA:=(0,(0,0),[],0,0,0,0,0,[],0,false,false)
def ygB (b:Nat→Bool) (c:List dW) (l:List (List Int)) (i:Nat):List (List Int):=bif b i then l.set (nth c i (0,[])).1.toNat (nth c i (0,[])).2 else l
def yi9 (b:Nat→Bool) (c:List dW) (l:List (List Int)):List (List Int):=(List.range c.length).foldl (ygB b c) l
theorem ycZ {m:dM} (h:yr m=true):m.1.all yai=true∧m.2.1.all (yq2 m.1.length)=true∧ynN m.1.length m.2.2.2=true∧1≤m.1.length∧m.1.length≤20∧m.2.1.length≤60:=by
 simp only[yr,Bool.and_eq_true,zj7]at h;exact⟨h.1.1.1.1.1,h.1.1.1.1.2,h.1.1.1.2,by omega,by omega,by omega⟩
theorem yXU {m:dM} (h:yr m=true) {i:Nat} (hi:i<m.2.1.length):inb (nth m.2.1 i (0,[])).1 m.1.length=true∧yai (nth m.2.1 i (0,[])).2=true:=by
 have h1:=List.all_eq_true.1 (ycZ h).2.1 m.2.1[i] (List.getElem_mem hi);rw[zkS,zkJ hi];exact Bool.and_eq_true_iff.1 h1
theorem yzP {b:Nat→Bool} {c:List dW} {l:List (List Int)} {i:Nat}:(ygB b c l i).length=l.length:=by
 unfold ygB; cases b i
 ·rfl
 ·exact List.length_set
theorem yPX {α β:Type} (P:β→Prop) (f:β→α→β) (h: ∀s x,P s→P (f s x)): ∀(l:List α) (s:β),P s→P (l.foldl f s)
 | [],_,hs=>hs
 | x::l,s,hs=>yPX P f h l (f s x) (h s x hs)
theorem yvW {b:Nat→Bool} {c:List dW} {l:List (List Int)}:(yi9 b c l).length=l.length :=
 yPX (fun x=>x.length=l.length) _ (fun s x hs=>by rw[yzP]; exact hs) _ l rfl
theorem yYs {P:List Int→Prop} {b:Nat→Bool} {c:List dW} {l:List (List Int)} (hl: ∀x∈l,P x) (hc: ∀w∈c,P w.2): ∀x∈yi9 b c l,P x:=by
 have: ∀(n:Nat),n≤c.length→ ∀x∈(List.range n).foldl (ygB b c) l,P x:=by
  intro n
  induction n with
  | zero=>intro _; exact hl
  | succ n ih =>
   intro hn x hx;rw[List.range_succ,List.foldl_append,List.foldl_cons,List.foldl_nil,ygB]at hx;cases hb:b n
   ·rw[hb]at hx; exact ih (by omega) x hx
   ·rw[hb,cond_true]at hx
    rcases List.mem_or_eq_of_mem_set hx with h | h
    ·exact ih (by omega) x h
    ·rw[h,zkS,zkJ (show n<c.length by omega)]
     exact hc _ (List.getElem_mem _)
 exact this _ (Nat.le_refl _)
def yaV (m:dM) (n:Int) (s:List Int):Bool:=yr m&&(!m.2.2.1&&(inb n m.1.length&&(yai s&&ltb (m.2.1.length:Int) 60)))
def yF4 (l:List Int) (n:Int):List Int:=l.filter (· !=n)
def yH (m:dM) (n:Int) (s:List Int):dM×Bool:=bif yaV m n s then((m.1,m.2.1++ [(n,s)],m.2.2.1,yF4 m.2.2.2 n),true)else(m,false)
def yq (m:dM):dM:=bif yr m&& !m.2.2.1 then(yi9 (fun _=>true) m.2.1 m.1,[],m.2.2.1,m.2.2.2)else m
def yg4 (m:dM):dM:=(m.1,[],true,m.2.2.2)
def yYg:Code:=(f82.body).getD .skip
def yYi:Env:=zkw TT [] []
theorem yTu:FrOk prog ⟨yYi,15,fun _=>none⟩ yYg:=zkA mixed yc trivial
abbrev yD6:List Par:= [.rd tI,.rd tI,.rd tI]
abbrev yD9:List OT:= [⟨false,tB,.fz⟩]
def yGh (a0 a1 a2:Int):Option (zaY yD9×zak yD6) :=bif(leb a1 a0)then some (((leb a0 a2),()),()) else some ((false,()),())
theorem yWP:ConOk prog 82 ⟨yD6,yD9,fun x=>yGh x.1 x.2.1 x.2.2.1⟩:=zkI (yTu) func82 ntmps82.symm fun x=>by kernel_rfl
def ya (a0 a1 a2:Int):Bool :=bif(leb a1 a0)then (leb a0 a2) else false
def yw:Con:=⟨yD6,yD9,fun x=>(fun n=>some ((n,()),())) (ya x.1 x.2.1 x.2.2.1)⟩
theorem yXW (a0 a1 a2:Int):yGh a0 a1 a2=(fun n=>some ((n,()),())) (ya a0 a1 a2):=zkV (p:=fun(n:Bool)=>((n,()),())) (zkG (p:=fun(n:Bool)=>((n,()),())) rfl rfl)
theorem yC:ConOk prog 82 yw:=(yWP).mono (fun x r _ h=>(yXW x.1 x.2.1 x.2.2.1).trans h)
theorem ys7 {a b c:Int}:ya a b c=true↔b≤a∧a≤c:=by
 unfold ya;cases h:leb b a
 ·have:=mt zk2 (by rw[h]; simp: ¬leb b a=true)
  simp[this]
 ·simp[zj7,zj7.1 h]
theorem y1J {a b c:Int} (h:b≤a) (h2:a≤c):ya a b c=true:=ys7.2 ⟨h,h2⟩
theorem ybR (x a b:Int):ya x a b=(leb a x&&leb x b):=by
 unfold ya; cases leb a x<;>rfl
theorem yh1 {x:Int} {n:Nat} (h:n≤1152921504606846976):ya x 0 (i64.wrap ((n:Int)-1))=inb x n:=by
 rw[wr (by omega) (by omega),Bool.eq_iff_iff,ys7,zj6]; omega
def yVH:Code:=(f81.body).getD .skip
def yWb:Env:=zkw TT [] []
theorem yMw:FrOk prog ⟨yWb,15,fun _=>none⟩ yVH:=zkA mixed yc trivial
abbrev yxq:List Par:= [.rd tI,.rd tI,.rd tI]
abbrev yxP:List OT:= [⟨false,tB,.fz⟩]
def yDU (a0 a1 a2:Int):Option (zaY yxP×zak yxq) :=bif(leb a1 a0)then some (((leb a0 a2),()),()) else some ((false,()),())
theorem yRs:ConOk prog 81 ⟨yxq,yxP,fun x=>yDU x.1 x.2.1 x.2.2.1⟩:=zkI (yMw) func81 ntmps81.symm fun x=>by kernel_rfl
def yf (a0 a1 a2:Int):Bool :=bif(leb a1 a0)then (leb a0 a2) else false
def yA:Con:=⟨yxq,yxP,fun x=>(fun n=>some ((n,()),())) (yf x.1 x.2.1 x.2.2.1)⟩
theorem yTN (a0 a1 a2:Int):yDU a0 a1 a2=(fun n=>some ((n,()),())) (yf a0 a1 a2):=zkV (p:=fun(n:Bool)=>((n,()),())) (zkG (p:=fun(n:Bool)=>((n,()),())) rfl rfl)
theorem yN:ConOk prog 81 yA:=(yRs).mono (fun x r _ h=>(yTN x.1 x.2.1 x.2.2.1).trans h)
theorem y9 (a b c:Int):yf a b c=ya a b c:=by kernel_rfl
def yVF:Code:=(f135.body).getD .skip
def yV9:Env:=zkw TT [(81,yA)] []
theorem yMu:FrOk prog ⟨yV9,5,fun _=>none⟩ yVF:=zkA mixed yc ⟨yN,trivial⟩
abbrev yxo:List Par:= [.rd tI]
abbrev yxN:List OT:= [⟨false,tB,.fz⟩]
def yDS (a0:Int):Option (zaY yxN×zak yxo) :=let r1:=yf a0 0 65535;some ((r1,()),())
theorem yRq:ConOk prog 135 ⟨yxo,yxN,fun x=>yDS x.1⟩:=zkI (yMu) func135 ntmps135.symm fun x=>by kernel_rfl
def yae (a0:Int):Bool :=let r1:=yf a0 0 65535;r1
def ysO:Con:=⟨yxo,yxN,fun x=>(fun n=>some ((n,()),())) (yae x.1)⟩
theorem yTL (a0:Int):yDS a0=(fun n=>some ((n,()),())) (yae a0):=zkV (p:=fun(n:Bool)=>((n,()),())) rfl
theorem yFb:ConOk prog 135 ysO:=(yRq).mono (fun x r _ h=>(yTL x.1).trans h)
def yVE:Code:=(f156.body).getD .skip
def yV8:Env:=zkw TT [(81,yA)] []
theorem yMt:FrOk prog ⟨yV8,11,fun _=>none⟩ yVE:=zkA mixed yc ⟨yN,trivial⟩
abbrev yxn:List Par:= [.rd tM,.rd tI]
abbrev yxM:List OT:= [⟨false,tB,.fz⟩]
def yDR (a0:dM) (a1:Int):Option (zaY yxM×zak yxn) :=let r1:=yf a1 0 (i64.wrap ((a0.1.length:Int)-1));some ((r1,()),())
theorem yRp:ConOk prog 156 ⟨yxn,yxM,fun x=>yDR x.1 x.2.1⟩:=zkI (yMt) func156 ntmps156.symm fun x=>by kernel_rfl
def ybq (a0:dM) (a1:Int):Bool :=let r1:=yf a1 0 (i64.wrap ((a0.1.length:Int)-1));r1
def yl2:Con:=⟨yxn,yxM,fun x=>(fun n=>some ((n,()),())) (ybq x.1 x.2.1)⟩
theorem yTK (a0:dM) (a1:Int):yDR a0 a1=(fun n=>some ((n,()),())) (ybq a0 a1):=zkV (p:=fun(n:Bool)=>((n,()),())) rfl
theorem yvt:ConOk prog 156 yl2:=(yRp).mono (fun x r _ h=>(yTK x.1 x.2.1).trans h)
def yno:Code:=(f187.body).getD .skip
def yuy:Env:=zkw TT [(135,ysO)] []
theorem yJ5:FrOk prog ⟨yuy,15,fun _=>none⟩ yno:=zkA mixed yc ⟨yFb,trivial⟩
def yz4:Nat→Option Seg:=fun _=>none
def yds:Shape:=⟨[(5,false,[.br tI]),(6,false,[.int .i64]),(7,false,[.int .i64])],[],[]⟩
def yix:Shape:=⟨[(5,false,[.br tI]),(6,false,[.int .i64]),(7,false,[.ci .i64 0])],[],[]⟩
def yiv:Shape:=⟨[],[],[]⟩
def yiF:Shape:=⟨[(2,false,[.bool])],[],[]⟩
def ync (v0:List Int) (v1 v2:Int):Option ((yds).X ⊕ ((yiv).X ⊕ (yiF).X)) :=bif(ltb v2 v1)then bif(inb v2 v0.length)then let r2:=yae (nth v0 v2 0);bif(!r2)then some (.inr (.inr (((false,()),()),(),()))) else some (.inl (((v0,()),(v1,()),((i64.wrap (v2+1)),()),()),(),())) else none else some (.inr (.inl ((),(),())))
def yb6 (x:(yds).X):=ync x.1.1.1 x.1.2.1.1 x.1.2.2.1.1
def ywl (x:(yix).X):(yds).X:=(((x.1.1.1,()),(x.1.2.1.1,()),(0,()),()),(),())
def yyH:Code:=(zd7 yno 64 52).getD .skip
theorem yJE:zd7 yno 64 13=some (.block 0 (.loop yyH)):=by kernel_rfl
theorem yLs (x:(yds).X):zhu ⟨yuy,15,yz4⟩ 0 yyH 52 yds yiv yiF x=yb6 x:=by kernel_rfl
def ywA (x:(yix).X):Nat:=18446744073709551616
def yoc (x:(yix).X):Option ((yiv).X ⊕ (yiF).X):=zF yb6 (ywA x) (ywl x)
def yw1:Seg:=⟨yix,yiv,yiF,yoc⟩
def yLU:Nat→Option Seg:=fun q=>bif Nat.beq q 13 then some yw1 else yz4 q
theorem yJ6:FrOk prog ⟨yuy,15,yLU⟩ yno:=(yJ5).loop (sg:=yw1) yds ywl (by decide) yJE yb6 ywA (by decide) (fun _=>rfl) (fun x r _ h=>h) yLs
abbrev ynA:List Par:= [.rd tL]
abbrev yu3:List OT:= [⟨false,tB,.fz⟩]
def yqD (a0:List Int):Option (zaY yu3×zak ynA) :=zkt (yoc (((a0,()),((a0.length:Int),()),((),()),()),(),())) (fun y2 =>some ((true,()),())) (fun y2 =>some ((y2.1.1.1,()),()))
theorem yOe:ConOk prog 187 ⟨ynA,yu3,fun x=>yqD x.1⟩:=zkI (yJ6) func187 ntmps187.symm fun x=>by kernel_rfl
def yak (a0:List Int):Bool:=a0.all yae
theorem yQ0 (a0:List Int) (hk:zjx ynA (a0,())):yqD a0=(fun n=>some ((n,()),())) (yak a0):=by
 have hb:a0.length*8≤2^47:=hk.1.1
 have hl:yoc (((a0,()),((a0.length:Int),()),((),()),()),(),())=some (bif a0.all yae then .inl ((),(),())else .inr (((false,()),()),(),())) :=
  zj9 (step:=yb6) a0 0 (fun i=>(((a0,()),((a0.length:Int),()),((i:Int),()),()),(),())) yae _ _ (fun i hi=>by
   simp only[yb6,ync,zkR hi,zkS,zky (show(i:Int)<a0.length by omega),cond_true,wq ((i:Int)+1) (by omega) (by omega),Int.natCast_add,Int.natCast_one]
   cases yae (a0.getD i 0)<;>rfl) (by simp only[yb6,ync,zk3 (Int.le_refl _),cond_false]) _ (by show _<18446744073709551616; omega)
 unfold yqD yak;rw[hl];cases a0.all yae<;>rfl
def yj0:Con:=⟨ynA,yu3,fun x=>(fun n=>some ((n,()),())) (yak x.1)⟩
theorem ytl:ConOk prog 187 yj0:=(yOe).mono (fun x r hk h=>(yQ0 x.1 hk).trans h)
def yXf:Code:=(f186.body).getD .skip
def yXr:Env:=zkw TT [(187,yj0)] []
theorem yP6:FrOk prog ⟨yXr,10,fun _=>none⟩ yXf:=zkA mixed yc ⟨ytl,trivial⟩
abbrev yAn:List Par:= [.rd tL]
abbrev yAy:List OT:= [⟨false,tB,.fz⟩]
def yFl (a0:List Int):Option (zaY yAy×zak yAn) :=bif(leb (a0.length:Int) 12)then let r1:=yak a0;some ((r1,()),()) else some ((false,()),())
theorem yUd:ConOk prog 186 ⟨yAn,yAy,fun x=>yFl x.1⟩:=zkI (yP6) func186 ntmps186.symm fun x=>by kernel_rfl
def ygE (a0:List Int):Bool :=bif(leb (a0.length:Int) 12)then let r1:=yak a0;r1 else false
def yvg:Con:=⟨yAn,yAy,fun x=>(fun n=>some ((n,()),())) (ygE x.1)⟩
theorem yWy (a0:List Int):yFl a0=(fun n=>some ((n,()),())) (ygE a0):=zkV (p:=fun(n:Bool)=>((n,()),())) (zkG (p:=fun(n:Bool)=>((n,()),())) rfl rfl)
theorem yGc:ConOk prog 186 yvg:=(yUd).mono (fun x r _ h=>(yWy x.1).trans h)
theorem yEd:ygE=yai:=funext fun s=>by
 unfold ygE yai yak;rw[show yae=isW from funext fun x=>by unfold yae; rw[y9,ybR]; rfl];cases leb (s.length:Int) 12<;>rfl
def ycc:Code:=(f127.body).getD .skip
def yf6:Env:=zkw TT [(81,yA),(156,yl2),(186,yvg)] []
theorem yP1:FrOk prog ⟨yf6,76,fun _=>none⟩ ycc:=zkA mixed yc ⟨yN,yvt,yGc,trivial⟩
def yEn:Nat→Option Seg:=fun _=>none
def yc1:Shape:=⟨[(1,false,[.ptr 0 0]),(10,false,[.br tL]),(11,false,[.int .i64]),(12,false,[.int .i64])],[(0,[.br tL,.br tW,.bool,.br tI])],[]⟩
def yhB:Shape:=⟨[(1,false,[.ptr 0 0]),(10,false,[.br tL]),(11,false,[.int .i64]),(12,false,[.ci .i64 0])],[(0,[.br tL,.br tW,.bool,.br tI])],[]⟩
def yhn:Shape:=⟨[(1,false,[.ptr 0 0])],[(0,[.br tL,.br tW,.bool,.br tI])],[]⟩
def yhQ:Shape:=⟨[(2,false,[.bool])],[],[]⟩
abbrev yqf (v0:List (List Int)) (v1 v2:Int) (v3:dM):(yc1).X:=((((),()),(v0,()),(v1,()),(v2,()),()),((v3.1,v3.2.1,v3.2.2.1,v3.2.2.2,()),()),())
abbrev yNi (v0:List (List Int)) (v1:Int) (v2:dM):(yhB).X:=((((),()),(v0,()),(v1,()),((),()),()),((v2.1,v2.2.1,v2.2.2.1,v2.2.2.2,()),()),())
abbrev yNa (v0:dM):(yhn).X:=((((),()),()),((v0.1,v0.2.1,v0.2.2.1,v0.2.2.2,()),()),())
abbrev yNv (v0:Bool):(yhQ).X:=(((v0,()),()),(),())
def yqQ (v0:List (List Int)) (v1 v2:Int) (v3:List (List Int)) (v4:List dW) (v5:Bool) (v6:List Int):Option ((yc1).X ⊕ ((yhn).X ⊕ (yhQ).X)) :=bif(ltb v2 v1)then bif(inb v2 v0.length)then let r2:=ygE (nth v0 v2 []);bif(!r2)then some (.inr (.inr (((false,()),()),(),()))) else some (.inl ((((),()),(v0,()),(v1,()),((i64.wrap (v2+1)),()),()),((v3,v4,v5,v6,()),()),())) else none else some (.inr (.inl ((((),()),()),((v3,v4,v5,v6,()),()),())))
def ydx (x:(yc1).X):=yqQ x.1.2.1.1 x.1.2.2.1.1 x.1.2.2.2.1.1 x.2.1.1.1 x.2.1.1.2.1 x.2.1.1.2.2.1 x.2.1.1.2.2.2.1
def yBm (x:(yhB).X):(yc1).X:=((((),()),(x.1.2.1.1,()),(x.1.2.2.1.1,()),(0,()),()),((x.2.1.1.1,x.2.1.1.2.1,x.2.1.1.2.2.1,x.2.1.1.2.2.2.1,()),()),())
def yCT:Code:=(zd7 ycc 64 52).getD .skip
theorem yPE:zd7 ycc 64 13=some (.block 0 (.loop yCT)):=by kernel_rfl
theorem ySi (x:(yc1).X):zhu ⟨yf6,76,yEn⟩ 0 yCT 52 yc1 yhn yhQ x=ydx x:=by kernel_rfl
def yBB (x:(yhB).X):Nat:=18446744073709551616
def yrM (x:(yhB).X):Option ((yhn).X ⊕ (yhQ).X):=zF ydx (yBB x) (yBm x)
def yCm:Seg:=⟨yhB,yhn,yhQ,yrM⟩
def yup:Nat→Option Seg:=fun q=>bif Nat.beq q 13 then some yCm else yEn q
theorem yP2:FrOk prog ⟨yf6,76,yup⟩ ycc:=(yP1).loop (sg:=yCm) yc1 yBm (by decide) yPE ydx yBB (by decide) (fun _=>rfl) (fun x r _ h=>h) ySi
def yc2:Shape:=⟨[(1,false,[.ptr 0 0]),(21,false,[.br tW]),(22,false,[.int .i64]),(23,false,[.int .i64])],[(0,[.br tL,.br tW,.bool,.br tI])],[]⟩
def yhC:Shape:=⟨[(1,false,[.ptr 0 0]),(21,false,[.br tW]),(22,false,[.int .i64]),(23,false,[.ci .i64 0])],[(0,[.br tL,.br tW,.bool,.br tI])],[]⟩
def yho:Shape:=⟨[(1,false,[.ptr 0 0])],[(0,[.br tL,.br tW,.bool,.br tI])],[]⟩
def yhR:Shape:=⟨[(2,false,[.bool])],[],[]⟩
abbrev yqg (v0:List dW) (v1 v2:Int) (v3:dM):(yc2).X:=((((),()),(v0,()),(v1,()),(v2,()),()),((v3.1,v3.2.1,v3.2.2.1,v3.2.2.2,()),()),())
abbrev yNj (v0:List dW) (v1:Int) (v2:dM):(yhC).X:=((((),()),(v0,()),(v1,()),((),()),()),((v2.1,v2.2.1,v2.2.2.1,v2.2.2.2,()),()),())
abbrev yNb (v0:dM):(yho).X:=((((),()),()),((v0.1,v0.2.1,v0.2.2.1,v0.2.2.2,()),()),())
abbrev yNw (v0:Bool):(yhR).X:=(((v0,()),()),(),())
def yqR (v0:List dW) (v1 v2:Int) (v3:List (List Int)) (v4:List dW) (v5:Bool) (v6:List Int):Option ((yc2).X ⊕ ((yho).X ⊕ (yhR).X)) :=bif(ltb v2 v1)then bif(inb v2 v0.length)then let r6:=ybq (v3,v4,v5,v6) ((nth v0 v2 (0,[])).1);bif(!(!r6))then let r7:=ygE ((nth v0 v2 (0,[])).2);bif(!r7)then some (.inr (.inr (((false,()),()),(),()))) else some (.inl ((((),()),(v0,()),(v1,()),((i64.wrap (v2+1)),()),()),((v3,v4,v5,v6,()),()),())) else some (.inr (.inr (((false,()),()),(),()))) else none else some (.inr (.inl ((((),()),()),((v3,v4,v5,v6,()),()),())))
def ydy (x:(yc2).X):=yqR x.1.2.1.1 x.1.2.2.1.1 x.1.2.2.2.1.1 x.2.1.1.1 x.2.1.1.2.1 x.2.1.1.2.2.1 x.2.1.1.2.2.2.1
def yBn (x:(yhC).X):(yc2).X:=((((),()),(x.1.2.1.1,()),(x.1.2.2.1.1,()),(0,()),()),((x.2.1.1.1,x.2.1.1.2.1,x.2.1.1.2.2.1,x.2.1.1.2.2.2.1,()),()),())
def yCU:Code:=(zd7 ycc 64 116).getD .skip
theorem yPF:zd7 ycc 64 29=some (.block 2 (.loop yCU)):=by kernel_rfl
theorem ySj (x:(yc2).X):zhu ⟨yf6,76,yup⟩ 2 yCU 116 yc2 yho yhR x=ydy x:=by kernel_rfl
def yBC (x:(yhC).X):Nat:=18446744073709551616
def yrN (x:(yhC).X):Option ((yho).X ⊕ (yhR).X):=zF ydy (yBC x) (yBn x)
def yCn:Seg:=⟨yhC,yho,yhR,yrN⟩
def yuq:Nat→Option Seg:=fun q=>bif Nat.beq q 29 then some yCn else yup q
theorem yP3:FrOk prog ⟨yf6,76,yuq⟩ ycc:=(yP2).loop (sg:=yCn) yc2 yBn (by decide) yPF ydy yBC (by decide) (fun _=>rfl) (fun x r _ h=>h) ySj
def yc3:Shape:=⟨[(1,false,[.ptr 0 0]),(40,false,[.br tI]),(41,false,[.int .i64]),(42,false,[.int .i64])],[(0,[.br tL,.br tW,.bool,.br tI])],[]⟩
def yhD:Shape:=⟨[(1,false,[.ptr 0 0]),(40,false,[.br tI]),(41,false,[.int .i64]),(42,false,[.ci .i64 0])],[(0,[.br tL,.br tW,.bool,.br tI])],[]⟩
def yhp:Shape:=⟨[(1,false,[.ptr 0 0])],[(0,[.br tL,.br tW,.bool,.br tI])],[]⟩
def yhS:Shape:=⟨[(2,false,[.bool])],[],[]⟩
abbrev yqh (v0:List Int) (v1 v2:Int) (v3:dM):(yc3).X:=((((),()),(v0,()),(v1,()),(v2,()),()),((v3.1,v3.2.1,v3.2.2.1,v3.2.2.2,()),()),())
abbrev yNk (v0:List Int) (v1:Int) (v2:dM):(yhD).X:=((((),()),(v0,()),(v1,()),((),()),()),((v2.1,v2.2.1,v2.2.2.1,v2.2.2.2,()),()),())
abbrev yNc (v0:dM):(yhp).X:=((((),()),()),((v0.1,v0.2.1,v0.2.2.1,v0.2.2.2,()),()),())
abbrev yNx (v0:Bool):(yhS).X:=(((v0,()),()),(),())
def yqS (v0:List Int) (v1 v2:Int) (v3:List (List Int)) (v4:List dW) (v5:Bool) (v6:List Int):Option ((yc3).X ⊕ ((yhp).X ⊕ (yhS).X)) :=bif(ltb v2 v1)then bif(inb v2 v0.length)then let r10:=ybq (v3,v4,v5,v6) (nth v0 v2 0);bif(!(!r10))then bif(ltb 0 v2)then bif(inb (i64.wrap (v2-1)) v6.length)then bif(leb (nth v0 v2 0) (nth v6 (i64.wrap (v2-1)) 0))then some (.inr (.inr (((false,()),()),(),()))) else some (.inl ((((),()),(v0,()),(v1,()),((i64.wrap (v2+1)),()),()),((v3,v4,v5,v6,()),()),())) else none else some (.inl ((((),()),(v0,()),(v1,()),((i64.wrap (v2+1)),()),()),((v3,v4,v5,v6,()),()),())) else some (.inr (.inr (((false,()),()),(),()))) else none else some (.inr (.inl ((((),()),()),((v3,v4,v5,v6,()),()),())))
def ydz (x:(yc3).X):=yqS x.1.2.1.1 x.1.2.2.1.1 x.1.2.2.2.1.1 x.2.1.1.1 x.2.1.1.2.1 x.2.1.1.2.2.1 x.2.1.1.2.2.2.1
def yBo (x:(yhD).X):(yc3).X:=((((),()),(x.1.2.1.1,()),(x.1.2.2.1.1,()),(0,()),()),((x.2.1.1.1,x.2.1.1.2.1,x.2.1.1.2.2.1,x.2.1.1.2.2.2.1,()),()),())
def yCV:Code:=(zd7 ycc 64 244).getD .skip
theorem yPG:zd7 ycc 64 61=some (.block 4 (.loop yCV)):=by kernel_rfl
theorem ySk (x:(yc3).X):zhu ⟨yf6,76,yuq⟩ 4 yCV 244 yc3 yhp yhS x=ydz x:=by kernel_rfl
def yBD (x:(yhD).X):Nat:=18446744073709551616
def yrO (x:(yhD).X):Option ((yhp).X ⊕ (yhS).X):=zF ydz (yBD x) (yBo x)
def yCo:Seg:=⟨yhD,yhp,yhS,yrO⟩
def yST:Nat→Option Seg:=fun q=>bif Nat.beq q 61 then some yCo else yuq q
theorem yP4:FrOk prog ⟨yf6,76,yST⟩ ycc:=(yP3).loop (sg:=yCo) yc3 yBo (by decide) yPG ydz yBD (by decide) (fun _=>rfl) (fun x r _ h=>h) ySk
abbrev yr0:List Par:= [.rd tM]
abbrev yAw:List OT:= [⟨false,tB,.fz⟩]
def yvE (a0:dM):Option (zaY yAw×zak yr0) :=zkt (yrM ((((),()),(a0.1,()),((a0.1.length:Int),()),((),()),()),((a0.1,a0.2.1,a0.2.2.1,a0.2.2.2,()),()),())) (fun y2 =>zkt (yrN ((((),()),(y2.2.1.1.2.1,()),((y2.2.1.1.2.1.length:Int),()),((),()),()),((y2.2.1.1.1,y2.2.1.1.2.1,y2.2.1.1.2.2.1,y2.2.1.1.2.2.2.1,()),()),())) (fun y7 =>zkt (yrO ((((),()),(y7.2.1.1.2.2.2.1,()),((y7.2.1.1.2.2.2.1.length:Int),()),((),()),()),((y7.2.1.1.1,y7.2.1.1.2.1,y7.2.1.1.2.2.1,y7.2.1.1.2.2.2.1,()),()),())) (fun y10 =>let r12:=yf (y10.2.1.1.1.length:Int) 1 20;bif r12 then some (((leb (y10.2.1.1.2.1.length:Int) 60),()),()) else some ((false,()),())) (fun y10 =>some ((y10.1.1.1,()),()))) (fun y7 =>some ((y7.1.1.1,()),()))) (fun y2 =>some ((y2.1.1.1,()),()))
theorem yUb:ConOk prog 127 ⟨yr0,yAw,fun x=>yvE x.1⟩:=zkI (yP4) func127 ntmps127.symm fun x=>by kernel_rfl
def ybn (a0:dM):Bool:=yr a0
theorem yWw (a0:dM) (hk:zjx yr0 (a0,())):yvE a0=(fun n=>some ((n,()),())) (ybn a0):=by
 have hb1:a0.1.length*24≤2^47:=hk.1.1.1;have hb2:a0.2.1.length*32≤2^47:=hk.1.2.1.1;have hb3:a0.2.2.2.length*8≤2^47:=hk.1.2.2.2.1
 have h1:yrM (yNi a0.1 a0.1.length a0)=some (bif a0.1.all yai then .inl (yNa a0)else .inr (yNv false)) :=
  zj9 (step:=ydx) a0.1 [] (fun i=>yqf a0.1 a0.1.length i a0) yai _ _ (fun i hi=>by
   simp only[ydx,yqf,yqQ,zky (show(i:Int)<a0.1.length by omega),cond_true,wq ((i:Int)+1) (by omega) (by omega),Int.natCast_add,Int.natCast_one,Int.toNat_natCast,zkR hi,zkS,yEd]
   cases yai (a0.1.getD i [])<;>rfl) (by simp only[ydx,yqf,yqQ,zk3 (Int.le_refl _),cond_false]) _ (by show _<18446744073709551616; omega)
 have h2:yrN (yNj a0.2.1 a0.2.1.length a0)=some (bif a0.2.1.all (yq2 a0.1.length)then .inl (yNb a0)else .inr (yNw false)) :=
  zj9 (step:=ydy) a0.2.1 (0,[]) (fun i=>yqg a0.2.1 a0.2.1.length i a0) (yq2 a0.1.length) _ _ (fun i hi=>by
   simp only[ydy,yqg,yqR,zky (show(i:Int)<a0.2.1.length by omega),cond_true,wq ((i:Int)+1) (by omega) (by omega),Int.natCast_add,Int.natCast_one,Int.toNat_natCast,zkR hi,zkS,yEd,ybq,y9,yh1 (show a0.1.length≤1152921504606846976 by omega),yq2]
   cases inb (a0.2.1.getD i (0,[])).1 a0.1.length<;>cases yai (a0.2.1.getD i (0,[])).2<;>rfl) (by simp only[ydy,yqg,yqR,zk3 (Int.le_refl _),cond_false]) _ (by show _<18446744073709551616; omega)
 have h3:yrO (yNk a0.2.2.2 a0.2.2.2.length a0)=some (bif(List.range a0.2.2.2.length).any (yCR a0.1.length a0.2.2.2)then .inr (yNx false)else .inl (yNc a0)) :=
  zji (step:=ydz) (fun i=>yqh a0.2.2.2 a0.2.2.2.length i a0) a0.2.2.2.length (yCR a0.1.length a0.2.2.2) _ _ (fun i hi=>by
   simp only[ydz,yqh,yqS,zky (show(i:Int)<a0.2.2.2.length by omega),cond_true,wq ((i:Int)+1) (by omega) (by omega),Int.natCast_add,Int.natCast_one,Int.toNat_natCast,zkR hi,zkS,ybq,y9,yh1 (show a0.1.length≤1152921504606846976 by omega),yCR];rcases Nat.eq_zero_or_pos i with rfl | h0
   ·cases inb (a0.2.2.2.getD 0 0) a0.1.length<;>rfl
   ·rw[show i64.wrap ((i:Int)-1)=((i-1:Nat):Int)by rw[wr (by omega) (by omega)]; omega,zkR (show i-1<a0.2.2.2.length by omega),zkS,zky (show(0:Int)<i by omega),decide_eq_true h0]
    cases inb (a0.2.2.2.getD i 0) a0.1.length<;>cases leb (a0.2.2.2.getD i 0) (a0.2.2.2.getD (i-1) 0)<;>rfl) (by simp only[ydz,yqh,yqS,zk3 (Int.le_refl _),cond_false]) _ (by show _<18446744073709551616; omega)
 unfold yvE ybn yr;rw[h1];cases a0.1.all yai
 ·rfl
 simp only[cond_true,zkN,h2];cases a0.2.1.all (yq2 a0.1.length)
 ·rfl
 simp only[cond_true,zkN,h3,yU2,y9,ybR];cases ynN a0.1.length a0.2.2.2
 ·rfl
 simp only[Bool.not_true,cond_false,zkN];cases leb 1 (a0.1.length:Int)<;>cases leb (a0.1.length:Int) 20<;>rfl
def yi7:Con:=⟨yr0,yAw,fun x=>(fun n=>some ((n,()),())) (ybn x.1)⟩
theorem ypP:ConOk prog 127 yi7:=(yUb).mono (fun x r hk h=>(yWw x.1 hk).trans h)
def yhc:Code:=(f201.body).getD .skip
def ymj:Env:=zkw TT [] []
theorem yET:FrOk prog ⟨ymj,19,fun _=>none⟩ yhc:=zkA mixed yc trivial
def yrx:Nat→Option Seg:=fun _=>none
def yas:Shape:=⟨[(0,false,[.br tI]),(1,false,[.int .i64]),(7,false,[.int .i64]),(8,false,[.int .i64])],[],[]⟩
def ycG:Shape:=⟨[(0,false,[.br tI]),(1,false,[.int .i64]),(7,false,[.int .i64]),(8,false,[.ci .i64 0])],[],[]⟩
def ycE:Shape:=⟨[],[],[]⟩
def ycI:Shape:=⟨[(4,false,[.int .i64])],[],[]⟩
abbrev yin (v0:List Int) (v1 v2 v3:Int):(yas).X:=(((v0,()),(v1,()),(v2,()),(v3,()),()),(),())
abbrev yEg (v0:List Int) (v1 v2:Int):(ycG).X:=(((v0,()),(v1,()),(v2,()),((),()),()),(),())
abbrev yEe  :(ycE).X:=((),(),())
abbrev ype (v0:Int):(ycI).X:=(((v0,()),()),(),())
def yiq (v0:List Int) (v1 v2 v3:Int):Option ((yas).X ⊕ ((ycE).X ⊕ (ycI).X)) :=bif(ltb v3 v2)then bif(inb v3 v0.length)then bif(v1==(nth v0 v3 0))then some (.inr (.inr (((v3,()),()),(),()))) else some (.inl (((v0,()),(v1,()),(v2,()),((i64.wrap (v3+1)),()),()),(),())) else none else some (.inr (.inl ((),(),())))
def yaA (x:(yas).X):=yiq x.1.1.1 x.1.2.1.1 x.1.2.2.1.1 x.1.2.2.2.1.1
def ypa (x:(ycG).X):(yas).X:=(((x.1.1.1,()),(x.1.2.1.1,()),(x.1.2.2.1.1,()),(0,()),()),(),())
def yq4:Code:=(zd7 yhc 64 52).getD .skip
theorem yEy:zd7 yhc 64 13=some (.block 0 (.loop yq4)):=by kernel_rfl
theorem yFh (x:(yas).X):zhu ⟨ymj,19,yrx⟩ 0 yq4 52 yas ycE ycI x=yaA x:=by kernel_rfl
def ypc (x:(ycG).X):Nat:=18446744073709551616
def yiR (x:(ycG).X):Option ((ycE).X ⊕ (ycI).X):=zF yaA (ypc x) (ypa x)
def yph:Seg:=⟨ycG,ycE,ycI,yiR⟩
def yFr:Nat→Option Seg:=fun q=>bif Nat.beq q 13 then some yph else yrx q
theorem yEU:FrOk prog ⟨ymj,19,yFr⟩ yhc:=(yET).loop (sg:=yph) yas ypa (by decide) yEy yaA ypc (by decide) (fun _=>rfl) (fun x r _ h=>h) yFh
abbrev yhi:List Par:= [.rd tL,.rd tI]
abbrev ymz:List OT:= [⟨false,tI,.fz⟩]
def ykg (a0:List Int) (a1:Int):Option (zaY ymz×zak yhi) :=zkt (yiR (((a0,()),(a1,()),((a0.length:Int),()),((),()),()),(),())) (fun y0 =>some (((-1),()),())) (fun y0 =>some ((y0.1.1.1,()),()))
theorem yFW:ConOk prog 201 ⟨yhi,ymz,fun x=>ykg x.1 x.2.1⟩:=zkI (yEU) func201 ntmps201.symm fun x=>by kernel_rfl
def yTy (l:List Int) (x:Int):Int:=bif l.any (· ==x)then((l.takeWhile (· !=x)).length:Int)else -1
def yeJ (a0:List Int) (a1:Int):Int:=yTy a0 a1
theorem yZb {A B α:Type} {step:A→Option (A ⊕ B)} (l:List α) (d:α) (f:Nat→A) (p:α→Bool) (b:Nat→B) (c:B)
  (h: ∀i,i<l.length→step (f i)=some (bif p (l.getD i d)then .inr (b i)else .inl (f (i+1)))) (e:step (f l.length)=some (.inr c)) (fuel:Nat) (hf:l.length<fuel) :
  zF step fuel (f 0)=some (bif l.any p then b (l.takeWhile (fun x=> !p x)).length else c):=by
 have: ∀(t q:List α) (fuel:Nat),q++t=l→t.length<fuel→zF step fuel (f q.length)=some (bif t.any p then b (q.length+(t.takeWhile (fun x=> !p x)).length)else c):=by
  intro t
  induction t with
  | nil =>
   intro q fuel hq hf;obtain⟨fuel,rfl⟩: ∃m,fuel=m+1:=⟨fuel-1,by omega⟩;rw[List.append_nil]at hq;subst hq;simp only[zF,e,List.any_nil,cond_false]
  | cons x t ih =>
   intro q fuel hq hf;obtain⟨fuel,rfl⟩: ∃m,fuel=m+1:=⟨fuel-1,by omega⟩
   have hx:l.getD q.length d=x:=by
    subst hq;rw[zkJ (by simp)]; simp
   have hs:=h q.length (by rw[← hq]; simp);rw[hx]at hs;cases hp:p x
   ·rw[hp]at hs
    have:=ih (q++ [x]) fuel (by rw[← hq]; simp) (by simp at hf; omega);simp only[List.length_append,List.length_cons,List.length_nil]at this;simp only[zF,hs,cond_false];simp only[List.any_cons,hp,Bool.false_or,List.takeWhile_cons,Bool.not_false,if_true,List.length_cons];rw[show q.length+((t.takeWhile (fun x=> !p x)).length+1)=q.length+(0+1)+(t.takeWhile (fun x=> !p x)).length by omega];exact this
   ·rw[hp]at hs
    simp only[zF,hs,cond_true,List.any_cons,hp,Bool.true_or,List.takeWhile_cons,Bool.not_true,Bool.false_eq_true,if_false,List.length_nil,Nat.add_zero]
 have:=this l [] fuel rfl hf;simpa using this
theorem yGN (a0:List Int) (a1:Int) (hk:zjx yhi (a0,a1,())):ykg a0 a1=(fun n=>some ((n,()),())) (yeJ a0 a1):=by
 have hb:a0.length*8≤2^47:=hk.1.1
 have h1:yiR (yEg a0 a1 a0.length)=some (bif a0.any (· ==a1)then .inr (ype ((a0.takeWhile (fun x=> !(x==a1))).length:Int))else .inl yEe) :=
  yZb (step:=yaA) a0 0 (fun i=>yin a0 a1 a0.length i) (· ==a1) (fun i=> .inr (ype (i:Int))) _ (fun i hi=>by
   simp only[yaA,yin,yiq,zky (show(i:Int)<a0.length by omega),cond_true,wq ((i:Int)+1) (by omega) (by omega),Int.natCast_add,Int.natCast_one,Int.toNat_natCast,zkR hi,zkS];rw[show(a1==a0.getD i 0)=(a0.getD i 0==a1)by rw[Bool.eq_iff_iff,beq_iff_eq,beq_iff_eq]; exact eq_comm]
   cases(a0.getD i 0==a1)<;>rfl) (by simp only[yaA,yin,yiq,zk3 (Int.le_refl _),cond_false]) _ (by show _<18446744073709551616; omega)
 unfold ykg yeJ yTy;rw[h1];cases a0.any (· ==a1)<;>rfl
def ysQ:Con:=⟨yhi,ymz,fun x=>(fun n=>some ((n,()),())) (yeJ x.1 x.2.1)⟩
theorem yGW:ConOk prog 201 ysQ:=(yFW).mono (fun x r hk h=>(yGN x.1 x.2.1 hk).trans h)
def yEl:Code:=(f157.body).getD .skip
def yEx:Env:=zkw TT [(201,ysQ)] []
theorem yBz:FrOk prog ⟨yEx,9,fun _=>none⟩ yEl:=zkA mixed yc ⟨yGW,trivial⟩
abbrev yeQ:List Par:= [.rd tL,.rd tI]
abbrev yi4:List OT:= [⟨false,tB,.fz⟩]
def yg2 (a0:List Int) (a1:Int):Option (zaY yi4×zak yeQ) :=let r1:=yeJ a0 a1;some (((leb 0 r1),()),())
theorem yCE:ConOk prog 157 ⟨yeQ,yi4,fun x=>yg2 x.1 x.2.1⟩:=zkI (yBz) func157 ntmps157.symm fun x=>by kernel_rfl
def ycM (a0:List Int) (a1:Int):Bool:=a0.any (· ==a1)
theorem yEi (a0:List Int) (a1:Int) (hk:zjx yeQ (a0,a1,())):yg2 a0 a1=(fun n=>some ((n,()),())) (ycM a0 a1):=by
 unfold yg2 ycM yeJ yTy;cases a0.any (· ==a1)
 ·rfl
 ·simp only[cond_true]
  rw[zk2 (show(0:Int)≤((a0.takeWhile (· !=a1)).length:Int)by omega)]
def yn3:Con:=⟨yeQ,yi4,fun x=>(fun n=>some ((n,()),())) (ycM x.1 x.2.1)⟩
theorem yEj:ConOk prog 157 yn3:=(yCE).mono (fun x r hk h=>(yEi x.1 x.2.1 hk).trans h)
def yO5:Code:=(f158.body).getD .skip
def yPu:Env:=zkw TT [] []
theorem yHH:FrOk prog ⟨yPu,6,fun _=>none⟩ yO5:=zkA mixed yc trivial
abbrev ylD:List Par:= [.rd tL]
abbrev ysn:List OT:= [⟨false,tL,(.ow .fz)⟩]
def yoP (a0:List Int):Option (zaY ysn×zak ylD) :=bif(zkl ([]:List Int).length a0.length 8)then some (((([]:List Int)++a0),()),()) else none
theorem yK1:ConOk prog 158 ⟨ylD,ysn,fun x=>yoP x.1⟩:=zkI (yHH) func158 ntmps158.symm fun x=>by kernel_rfl
def yn (a0:List Int):List Int:=a0
theorem yNM (a0:List Int) (hk:zjx ylD (a0,())):yoP a0=(fun n=>some ((n,()),())) (yn a0):=by
 have hb:a0.length*8≤2^47:=hk.1.1;unfold yoP yn;rw[show zkl ([]:List Int).length a0.length 8=true by rw[zkF,List.length_nil]; omega];rfl
def yaP:Con:=⟨ylD,ysn,fun x=>(fun n=>some ((n,()),())) (yn x.1)⟩
theorem ycA:ConOk prog 158 yaP:=(yK1).mono (fun x r hk h=>(yNM x.1 hk).trans h)
def ynl:Code:=(f87.body).getD .skip
def yuv:Env:=zkw TT [(127,yi7),(156,yl2),(157,yn3),(158,yaP)] []
theorem yJQ:FrOk prog ⟨yuv,49,fun _=>none⟩ ynl:=zkA mixed yc ⟨ypP,yvt,yEj,ycA,trivial⟩
def yz0:Nat→Option Seg:=fun _=>none
def ybG:Shape:=⟨[(1,false,[.int .i64]),(6,false,[.br tI]),(34,false,[.br tW]),(35,false,[.int .i64]),(36,false,[.int .i64])],[],[]⟩
def yfr:Shape:=⟨[(1,false,[.int .i64]),(6,false,[.br tI]),(34,false,[.br tW]),(35,false,[.int .i64]),(36,false,[.ci .i64 0])],[],[]⟩
def yff:Shape:=⟨[(6,false,[.br tI])],[],[]⟩
def yiB:Shape:=⟨[],[],[]⟩
abbrev ymK (v0:Int) (v1:List Int) (v2:List dW) (v3 v4:Int):(ybG).X:=(((v0,()),(v1,()),(v2,()),(v3,()),(v4,()),()),(),())
abbrev yIe (v0:Int) (v1:List Int) (v2:List dW) (v3:Int):(yfr).X:=(((v0,()),(v1,()),(v2,()),(v3,()),((),()),()),(),())
abbrev ywK (v0:List Int):(yff).X:=(((v0,()),()),(),())
def ym7 (v0:Int) (v1:List Int) (v2:List dW) (v3 v4:Int):Option ((ybG).X ⊕ ((yff).X ⊕ (yiB).X)) :=bif(ltb v4 v3)then bif(inb v4 v2.length)then bif((nth v2 v4 (0,[])).1==v0)then some (.inl (((v0,()),((nth v2 v4 (0,[])).2,()),(v2,()),(v3,()),((i64.wrap (v4+1)),()),()),(),())) else some (.inl (((v0,()),(v1,()),(v2,()),(v3,()),((i64.wrap (v4+1)),()),()),(),())) else none else some (.inr (.inl (((v1,()),()),(),())))
def yb1 (x:(ybG).X):=ym7 x.1.1.1 x.1.2.1.1 x.1.2.2.1.1 x.1.2.2.2.1.1 x.1.2.2.2.2.1.1
def ywg (x:(yfr).X):(ybG).X:=(((x.1.1.1,()),(x.1.2.1.1,()),(x.1.2.2.1.1,()),(x.1.2.2.2.1.1,()),(0,()),()),(),())
def yyC:Code:=(zd7 ynl 64 244).getD .skip
theorem yJz:zd7 ynl 64 61=some (.block 0 (.loop yyC)):=by kernel_rfl
theorem yLn (x:(ybG).X):zhu ⟨yuv,49,yz0⟩ 0 yyC 244 ybG yff yiB x=yb1 x:=by kernel_rfl
def ywv (x:(yfr).X):Nat:=18446744073709551616
def yn7 (x:(yfr).X):Option ((yff).X ⊕ (yiB).X):=zF yb1 (ywv x) (ywg x)
def ywW:Seg:=⟨yfr,yff,yiB,yn7⟩
def yLQ:Nat→Option Seg:=fun q=>bif Nat.beq q 61 then some ywW else yz0 q
theorem yJR:FrOk prog ⟨yuv,49,yLQ⟩ ynl:=(yJQ).loop (sg:=ywW) ybG ywg (by decide) yJz yb1 ywv (by decide) (fun _=>rfl) (fun x r _ h=>h) yLn
abbrev ynw:List Par:= [.rd tM,.rd tI]
abbrev yuU:List OT:= [⟨false,tL,(.ow .fz)⟩,⟨false,tB,.fz⟩]
def yqy (a0:dM) (a1:Int):Option (zaY yuU×zak ynw) :=let r1:=ybn a0;bif(!(!r1))then bif(!a0.2.2.1)then let r2:=ybq a0 a1;bif(!(!r2))then let r3:=ycM a0.2.2.2 a1;bif r3 then some (([],false,()),()) else bif(inb a1 a0.1.length)then zkt (yn7 (((a1,()),((nth a0.1 a1 []),()),(a0.2.1,()),((a0.2.1.length:Int),()),((),()),()),(),())) (fun y3 =>let r5:=yn y3.1.1.1;some ((r5,true,()),())) (fun y3 =>none) else none else some (([],false,()),()) else some (([],false,()),()) else some (([],false,()),())
theorem yN4:ConOk prog 87 ⟨ynw,yuU,fun x=>yqy x.1 x.2.1⟩:=zkI (yJR) func87 ntmps87.symm fun x=>by kernel_rfl
def yji (a0:dM) (a1:Int):List Int×Bool:=yha a0 a1
theorem yQQ (a0:dM) (a1:Int) (hk:zjx ynw (a0,a1,())):yqy a0 a1=(fun n=>some ((n.1,n.2,()),())) (yji a0 a1):=by
 have hb1:a0.1.length*24≤2^47:=hk.1.1.1;have hb2:a0.2.1.length*32≤2^47:=hk.1.2.1.1
 have h1: ∀s,yn7 (yIe a1 s a0.2.1 a0.2.1.length)=some (.inl (ywK (ygI a1 a0.2.1 s))):=fun s =>
  zkx (step:=yb1) a0.2.1 (0,[]) (fun i s=>ymK a1 s a0.2.1 a0.2.1.length i) (fun s w=>bif w.1==a1 then w.2 else s) (fun _ _=>True) (fun s=> .inl (ywK s)) (fun i s hi _=>⟨by
   simp only[yb1,ymK,ym7,zky (show(i:Int)<a0.2.1.length by omega),cond_true,wq ((i:Int)+1) (by omega) (by omega),Int.natCast_add,Int.natCast_one,Int.toNat_natCast,zkR hi,zkS]
   cases((a0.2.1.getD i (0,[])).1==a1)<;>rfl,trivial⟩) (fun s _=>by simp only[yb1,ymK,ym7,zk3 (Int.le_refl _),cond_false]) s trivial _ (by show _<18446744073709551616; omega)
 unfold yqy yji yha yzV ybq;rw[y9,yh1 (show a0.1.length≤1152921504606846976 by omega)];unfold ybn ycM yn;simp only[h1,zkN];cases yr a0
 ·rfl
 cases a0.2.2.1
 ·cases inb a1 a0.1.length
  ·rfl
  ·cases a0.2.2.2.any (· ==a1)<;>rfl
 ·rfl
def yA3:Con:=⟨ynw,yuU,fun x=>(fun n=>some ((n.1,n.2,()),())) (yji x.1 x.2.1)⟩
theorem yRV:ConOk prog 87 yA3:=(yN4).mono (fun x r hk h=>(yQQ x.1 x.2.1 hk).trans h)
def yVB:Code:=(f88.body).getD .skip
def yV5:Env:=zkw TT [] []
theorem yMq:FrOk prog ⟨yV5,8,fun _=>none⟩ yVB:=zkA mixed yc trivial
abbrev yxk:List Par:= [.rd tI]
abbrev yxJ:List OT:= [⟨false,tI,.fz⟩]
def yDO (a0:Int):Option (zaY yxJ×zak yxk) :=bif(ltb a0 0)then some (((-1),()),()) else some (((i64.wrap (2+(a0.tmod 4))),()),())
theorem yRm:ConOk prog 88 ⟨yxk,yxJ,fun x=>yDO x.1⟩:=zkI (yMq) func88 ntmps88.symm fun x=>by kernel_rfl
def ypI (a0:Int):Int :=bif(ltb a0 0)then (-1) else (i64.wrap (2+(a0.tmod 4)))
def yC7:Con:=⟨yxk,yxJ,fun x=>(fun n=>some ((n,()),())) (ypI x.1)⟩
theorem yTH (a0:Int):yDO a0=(fun n=>some ((n,()),())) (ypI a0):=zkV (p:=fun(n:Int)=>((n,()),())) (zkG (p:=fun(n:Int)=>((n,()),())) rfl rfl)
theorem yUx:ConOk prog 88 yC7:=(yRm).mono (fun x r _ h=>(yTH x.1).trans h)
def yXd:Code:=(f123.body).getD .skip
def yXp:Env:=zkw TT [(81,yA)] []
theorem yP0:FrOk prog ⟨yXp,11,fun _=>none⟩ yXd:=zkA mixed yc ⟨yN,trivial⟩
abbrev yAl:List Par:= [.rd tG]
abbrev yAv:List OT:= [⟨false,tB,.fz⟩]
def yFj (a0:dG):Option (zaY yAv×zak yAl) :=let r1:=yf a0.1 3 5;bif r1 then let r2:=yf a0.2 1 8;some ((r2,()),()) else some ((false,()),())
theorem yUa:ConOk prog 123 ⟨yAl,yAv,fun x=>yFj x.1⟩:=zkI (yP0) func123 ntmps123.symm fun x=>by kernel_rfl
def ybm (a0:dG):Bool :=let r1:=yf a0.1 3 5;bif r1 then let r2:=yf a0.2 1 8;r2 else false
def yfW:Con:=⟨yAl,yAv,fun x=>(fun n=>some ((n,()),())) (ybm x.1)⟩
theorem yWv (a0:dG):yFj a0=(fun n=>some ((n,()),())) (ybm a0):=zkV (p:=fun(n:Bool)=>((n,()),())) (zkG (p:=fun(n:Bool)=>((n,()),())) rfl rfl)
theorem ykJ:ConOk prog 123 yfW:=(yUa).mono (fun x r _ h=>(yWv x.1).trans h)
def yLN:Code:=(f109.body).getD .skip
def yL3:Env:=zkw TT [(81,yA),(123,yfW)] []
theorem yGx:FrOk prog ⟨yL3,14,fun _=>none⟩ yLN:=zkA mixed yc ⟨yN,ykJ,trivial⟩
abbrev yp4:List Par:= [.rd tG,.rd tI]
abbrev yp6:List OT:= [⟨false,tB,.fz⟩]
def ywS (a0:dG) (a1:Int):Option (zaY yp6×zak yp4) :=let r1:=ybm a0;bif r1 then let r2:=yf a1 0 (i64.wrap (a0.2-1));some ((r2,()),()) else some ((false,()),())
theorem yIC:ConOk prog 109 ⟨yp4,yp6,fun x=>ywS x.1 x.2.1⟩:=zkI (yGx) func109 ntmps109.symm fun x=>by kernel_rfl
def yam (a0:dG) (a1:Int):Bool :=let r1:=ybm a0;bif r1 then let r2:=yf a1 0 (i64.wrap (a0.2-1));r2 else false
def ycJ:Con:=⟨yp4,yp6,fun x=>(fun n=>some ((n,()),())) (yam x.1 x.2.1)⟩
theorem yKO (a0:dG) (a1:Int):ywS a0 a1=(fun n=>some ((n,()),())) (yam a0 a1):=zkV (p:=fun(n:Bool)=>((n,()),())) (zkG (p:=fun(n:Bool)=>((n,()),())) rfl rfl)
theorem yfK:ConOk prog 109 ycJ:=(yIC).mono (fun x r _ h=>(yKO x.1 x.2.1).trans h)
def yVC:Code:=(f129.body).getD .skip
def yV6:Env:=zkw TT [(187,yj0)] []
theorem yMr:FrOk prog ⟨yV6,15,fun _=>none⟩ yVC:=zkA mixed yc ⟨ytl,trivial⟩
abbrev yxl:List Par:= [.rd tG,.rd tL]
abbrev yxK:List OT:= [⟨false,tB,.fz⟩]
def yDP (a0:dG) (a1:List Int):Option (zaY yxK×zak yxl) :=bif((a1.length:Int)==(i64.wrap (a0.1-1)))then let r1:=yak a1;some ((r1,()),()) else some ((false,()),())
theorem yRn:ConOk prog 129 ⟨yxl,yxK,fun x=>yDP x.1 x.2.1⟩:=zkI (yMr) func129 ntmps129.symm fun x=>by kernel_rfl
def ydK (a0:dG) (a1:List Int):Bool :=bif((a1.length:Int)==(i64.wrap (a0.1-1)))then let r1:=yak a1;r1 else false
def ysN:Con:=⟨yxl,yxK,fun x=>(fun n=>some ((n,()),())) (ydK x.1 x.2.1)⟩
theorem yTI (a0:dG) (a1:List Int):yDP a0 a1=(fun n=>some ((n,()),())) (ydK a0 a1):=zkV (p:=fun(n:Bool)=>((n,()),())) (zkG (p:=fun(n:Bool)=>((n,()),())) rfl rfl)
theorem yFa:ConOk prog 129 ysN:=(yRn).mono (fun x r _ h=>(yTI x.1 x.2.1).trans h)
def yXi:Code:=(f150.body).getD .skip
def yXu:Env:=zkw TT [(82,yw)] []
theorem yQd:FrOk prog ⟨yXu,11,fun _=>none⟩ yXi:=zkA mixed yc ⟨yC,trivial⟩
abbrev yAo:List Par:= [.rd tG]
abbrev yAD:List OT:= [⟨false,tB,.fz⟩]
def yFn (a0:dG):Option (zaY yAD×zak yAo) :=let r1:=ya a0.1 3 5;bif r1 then let r2:=ya a0.2 1 8;some ((r2,()),()) else some ((false,()),())
theorem yUi:ConOk prog 150 ⟨yAo,yAD,fun x=>yFn x.1⟩:=zkI (yQd) func150 ntmps150.symm fun x=>by kernel_rfl
def ye (a0:dG):Bool :=let r1:=ya a0.1 3 5;bif r1 then let r2:=ya a0.2 1 8;r2 else false
def yfX:Con:=⟨yAo,yAD,fun x=>(fun n=>some ((n,()),())) (ye x.1)⟩
theorem yWD (a0:dG):yFn a0=(fun n=>some ((n,()),())) (ye a0):=zkV (p:=fun(n:Bool)=>((n,()),())) (zkG (p:=fun(n:Bool)=>((n,()),())) rfl rfl)
theorem ykK:ConOk prog 150 yfX:=(yUi).mono (fun x r _ h=>(yWD x.1).trans h)
theorem yk {a:Int×Int}:ye a=true↔(3≤a.1∧a.1≤5)∧1≤a.2∧a.2≤8:=by
 unfold ye;cases h:ya a.1 3 5
 ·have: ¬(3≤a.1∧a.1≤5):=fun e=>by rw[ys7.2 e]at h; simp at h
  simp[this]
 ·simp only[cond_true,ys7]
  exact⟨fun e=>⟨ys7.1 h,e⟩,fun e=>e.2⟩
def ygC (a:dA) (i:Nat):Bool:= !(yr (nth a.2.2.1 i yd))||((((nth a.2.2.1 i yd).1.length:Int) !=6+a.2.1.2)||((nth a.2.2.1 i yd).2.2.1&&(((i:Int) !=a.2.2.2.1)&& !a.2.2.2.2.2.2.2.2.2.2.2)))
def ykz (a:dA):Bool:= !((List.range a.2.2.1.length).any (ygC a))&&(a.2.2.1.length:Int)==a.2.1.1
def yg3 (g:dG) (l:List dW) (i:Nat):Bool:= !(leb 0 (nth l i (0,[])).1&&leb (nth l i (0,[])).1 (g.2-1))||(((nth l i (0,[])).2.length:Int) !=g.1-1||(!((nth l i (0,[])).2.all isW)||(decide (0<i)&&leb (nth l i (0,[])).1 (nth l ((i-1:Nat):Int) (0,[])).1)))
def yaz (g:dG) (l:List dW):Bool:= !((List.range l.length).any (yg3 g l))
def yP (a:dA):Bool :=ye a.2.1&&((leb 1 a.1&&leb a.1 60000)&&(ykz a&&(yaz a.2.1 a.2.2.2.2.2.2.2.2.1&&((leb (-1) a.2.2.2.1&&leb a.2.2.2.1 (a.2.1.1-1))&&((leb 0 a.2.2.2.2.1&&leb a.2.2.2.2.1 a.2.1.2)&&(!(a.2.2.2.1== -1&&a.2.2.2.2.1 !=0) && ((leb 0 a.2.2.2.2.2.2.1&&leb a.2.2.2.2.2.2.1 60000)&&((leb a.2.2.2.2.2.2.1 a.2.2.2.2.2.1&&leb a.2.2.2.2.2.1 60000)&&(leb a.2.2.2.2.2.1 (a.2.2.2.2.2.2.1+4)&&((leb 0 a.2.2.2.2.2.2.2.1&&leb a.2.2.2.2.2.2.2.1 60000)&&(leb (-1) a.2.2.2.2.2.2.2.2.2.1&&leb a.2.2.2.2.2.2.2.2.2.1 1000)))))))))))
theorem yfU {a:dA} (h:yP a=true):ye a.2.1=true:=(Bool.and_eq_true_iff.1 h).1
theorem yYZ {a:dA} (h:yP a=true):ykz a=true:=by simp only[yP,Bool.and_eq_true]at h; exact h.2.2.1
theorem yHk {a:dA} (h:yP a=true):(a.2.2.1.length:Int)=a.2.1.1:=by have:=yYZ h; simp only[ykz,Bool.and_eq_true,beq_iff_eq]at this; exact this.2
theorem yZH {a:dA} (h:ykz a=true) {i:Nat} (hi:i<a.2.2.1.length):yr (nth a.2.2.1 i yd)=true∧((nth a.2.2.1 i yd).1.length:Int)=6+a.2.1.2∧((nth a.2.2.1 i yd).2.2.1=true→(i:Int)=a.2.2.2.1∨a.2.2.2.2.2.2.2.2.2.2.2=true):=by
 simp only[ykz,Bool.and_eq_true,Bool.not_eq_true',List.any_eq_false,List.mem_range]at h;have:=h.1 i hi;simp only[ygC,Bool.not_eq_true,Bool.or_eq_false_iff,Bool.not_eq_false',bne_eq_false_iff_eq,Bool.and_eq_false_iff]at this;refine⟨this.1,this.2.1,fun hf=> ?_⟩;rcases this.2.2 with h1 | h1 | h1
 ·rw[hf]at h1; cases h1
 ·exact .inl h1
 ·exact .inr h1
theorem yH1 (a:Int×Int):ybm a=ye a:=by kernel_rfl
theorem yTp: ∀{l:List Int} {lo n:Int},l.Pairwise (· < ·)→(∀x∈l,lo≤x∧x<n)→lo≤n→(l.length:Int)≤n-lo
 | [],lo,n,_,_,h=>by simp; omega
 | x::l,lo,n,hp,hx,h=>by
  cases hp with
  | cons h1 h2 =>
   have h3:=hx x List.mem_cons_self;have:=yTp (l:=l) (lo:=x+1) (n:=n) h2 (fun y hy=>⟨h1 y hy,(hx y (List.mem_cons_of_mem _ hy)).2⟩) (by omega);rw[List.length_cons]; omega
theorem yq3 {n:Nat} {l:List Int}:ynN n l=true↔(∀x∈l,0≤x∧x<n)∧l.Pairwise (· < ·):=by
 simp only[ynN,Bool.and_eq_true,List.all_eq_true,zj6,decide_eq_true_eq]
theorem yvp {m:dM} (h1:m.1.all yai=true) (h2:m.2.1.all (yq2 m.1.length)=true) (h3:ynN m.1.length m.2.2.2=true) (h4:1≤m.1.length) (h5:m.1.length≤20) (h6:m.2.1.length≤60):yr m=true:=by
 simp only[yr,h1,h2,h3,Bool.true_and,Bool.and_eq_true,zj7];omega
theorem yZa {m:dM} (b:Nat→Bool) (h:yr m=true):(yi9 b m.2.1 m.1).all yai=true:=by
 obtain⟨h1,h2,_⟩:=ycZ h;rw[List.all_eq_true];exact yYs (P:=fun x=>yai x=true) (fun x hx=>List.all_eq_true.1 h1 x hx) (fun w hw=>(Bool.and_eq_true_iff.1 (List.all_eq_true.1 h2 w hw)).2)
theorem yYf {m:dM} (n:Int) (s:List Int) (h:yr m=true):yr (yH m n s).1=true:=by
 unfold yH;cases hc:yaV m n s
 ·exact h
 ·simp only[yaV,Bool.and_eq_true,Bool.not_eq_true',zka]at hc
  obtain⟨h1,h2,h3,h4,h5,h6⟩:=ycZ h;refine yvp h1 ?_ ?_ h4 h5 (by show(m.2.1++ [(n,s)]).length≤60; rw[List.length_append]; simp only[List.length_cons,List.length_nil]; omega)
  ·show(m.2.1++ [(n,s)]).all (yq2 m.1.length)=true
   rw[List.all_append,h2];simp[yq2,hc.2.2.1,hc.2.2.2.1]
  ·show ynN m.1.length (yF4 m.2.2.2 n)=true
   obtain⟨b1,b2⟩:=yq3.1 h3;exact yq3.2 ⟨fun x hx=>b1 x (List.mem_filter.1 hx).1,b2.filter _⟩
theorem yw8 (m:dM) (n:Int) (s:List Int):(yH m n s).1.1=m.1∧(yH m n s).1.2.2.1=m.2.2.1:=by
 unfold yH;cases yaV m n s<;>exact⟨rfl,rfl⟩
theorem yZ8 {m:dM} (h:yr m=true):yr (yq m)=true:=by
 unfold yq;cases hc:(yr m&& !m.2.2.1)
 ·exact h
 ·obtain⟨h1,h2,h3,h4,h5,h6⟩:=ycZ h
  refine yvp (yZa _ h) rfl ?_ ?_ ?_ (Nat.zero_le _)
  ·show ynN (yi9 _ m.2.1 m.1).length m.2.2.2=true; rw[yvW]; exact h3
  ·show 1≤(yi9 _ m.2.1 m.1).length; rw[yvW]; exact h4
  ·show(yi9 _ m.2.1 m.1).length≤20; rw[yvW]; exact h5
theorem ywr (m:dM):(yq m).1.length=m.1.length∧(yq m).2.2.1=m.2.2.1:=by
 unfold yq;cases(yr m&& !m.2.2.1)
 ·exact⟨rfl,rfl⟩
 ·exact⟨yvW,rfl⟩
theorem yTt {m:dM} (h:yr m=true):yr (yg4 m)=true:=by
 obtain⟨h1,h2,h3,h4,h5,h6⟩:=ycZ h;exact yvp h1 rfl h3 h4 h5 (Nat.zero_le _)
def yzO (p:Nat→Bool) (n:Nat):Nat:=((List.range n).filter (fun i=> !p i)).length
theorem yQD (p:Nat→Bool) (n:Nat):yzO p (n+1)=bif p n then yzO p n else yzO p n+1:=by
 unfold yzO;rw[List.range_succ,List.filter_append,List.length_append,List.filter_cons];cases p n<;>simp
theorem yYL {α:Type} (A:List α) (y:α) (t:List α) (d:α):(A++y::t).getD A.length d=y:=by
 rw[List.getD_eq_getElem?_getD,List.getElem?_append_right (Nat.le_refl _),Nat.sub_self]; rfl
theorem yYR {α:Type} (A:List α) (y z:α) (t:List α):(A++y::t).set A.length z=A++z::t:=by
 rw[List.set_append_right _ _ (Nat.le_refl _),Nat.sub_self]; rfl
def yEZ (l:List Int) (n:Int):List Int:=l.filter (fun x=>ltb x n)++n::l.filter (fun x=>ltb n x)
def spoil (m:dM) (n:Int):dM:=bif yr m&&(inb n m.1.length&& !(m.2.2.2.any (· ==n)))then(m.1,m.2.1,m.2.2.1,yEZ m.2.2.2 n)else m
theorem yX5 {l:List Int} {n:Int} (h:l.Pairwise (· < ·)) (hn:n∉l):l=l.filter (fun x=>ltb x n)++l.filter (fun x=>ltb n x):=by
 induction l with
 | nil=>rfl
 | cons x t ih =>
  obtain⟨hx,ht⟩:=List.pairwise_cons.1 h;simp only[List.mem_cons,not_or]at hn;rw[List.filter_cons,List.filter_cons];by_cases hlt:x<n
  ·rw[zky hlt,zk3 (show x≤n by omega)]
   simp only[if_true,Bool.false_eq_true,if_false,List.cons_append];rw[← ih ht hn.2]
  ·have h3:t.filter (fun x=>ltb x n)= []:=List.filter_eq_nil_iff.2 (fun y hy=>by rw[zk3 (by have:=hx y hy; omega)]; simp)
   have h4:t.filter (fun x=>ltb n x)=t:=List.filter_eq_self.2 (fun y hy=>zky (by have:=hx y hy; omega));rw[zk3 (show n≤x by omega),zky (show n<x by omega),h3,h4]; rfl
theorem yX6 {m:dM} (n:Int) (h:yr m=true):yr (spoil m n)=true:=by
 unfold spoil;cases hc:(yr m&&(inb n m.1.length&& !(m.2.2.2.any (· ==n))))
 ·exact h
 ·simp only[Bool.and_eq_true]at hc
  have hi:=zj6.1 hc.2.1;obtain⟨h1,h2,h3,h4,h5,h6⟩:=ycZ h;rw[yq3]at h3;refine yvp h1 h2 ?_ h4 h5 h6;show ynN m.1.length (yEZ m.2.2.2 n)=true;rw[yq3];unfold yEZ;refine⟨fun x hx=> ?_,?_⟩
  ·rcases List.mem_append.1 hx with g | g
   ·exact h3.1 x (List.mem_filter.1 g).1
   ·rcases List.mem_cons.1 g with rfl | g
    ·exact hi
    ·exact h3.1 x (List.mem_filter.1 g).1
  ·rw[List.pairwise_append,List.pairwise_cons]
   refine⟨h3.2.filter _,⟨fun y hy=>zka.1 (List.mem_filter.1 hy).2,h3.2.filter _⟩,fun x hx y hy=> ?_⟩;have g1:=zka.1 (List.mem_filter.1 hx).2;rcases List.mem_cons.1 hy with rfl | hy
   ·exact g1
   ·exact Int.lt_trans g1 (zka.1 (List.mem_filter.1 hy).2)
theorem yD4 (m:dM) (n:Int):(spoil m n).1=m.1∧(spoil m n).2.2.1=m.2.2.1:=by
 unfold spoil;cases(yr m&&(inb n m.1.length&& !(m.2.2.2.any (· ==n))))<;>exact⟨rfl,rfl⟩
def yX (g:dG) (s:Int):Bool:=ye g&&(leb 0 s&&leb s (g.2-1))
def yg (g:dG) (s:Int):Int:=bif yX g s then g.1-1-s.tmod g.1 else -1
def ybl (g:dG) (s i:Int):Int:=bif yX g s&&(leb 0 i&&leb i (g.1-2))then(yg g s+1+i).tmod g.1 else -1
theorem yaq {g:dG} {s:Int}:yX g s=true↔ye g=true∧0≤s∧s≤g.2-1:=by simp[yX,zj7]
theorem yjH {g:dG} {s:Int} (h:yX g s=true):0≤yg g s∧yg g s≤g.1-1:=by
 have h1:=yaq.1 h;have h2:=yk.1 h1.1;unfold yg;rw[h,cond_true,Int.tmod_eq_emod_of_nonneg h1.2.1];have:=Int.emod_nonneg s (show g.1≠0 by omega);have:=Int.emod_lt_of_pos s (show 0<g.1 by omega);omega
theorem yTr {g:dG} {s i:Int} (h:yX g s=true) (h1:0≤i) (h2:i≤g.1-2):0≤ybl g s i∧ybl g s i≤g.1-1:=by
 have h3:=yk.1 (yaq.1 h).1;have h4:=yjH h;unfold ybl;rw[h,zk2 h1,zk2 h2,Bool.and_self,Bool.and_self,cond_true,Int.tmod_eq_emod_of_nonneg (by omega)];have:=Int.emod_nonneg (yg g s+1+i) (show g.1≠0 by omega);have:=Int.emod_lt_of_pos (yg g s+1+i) (show 0<g.1 by omega);omega
def yu (p:Nat→Bool):Nat→Int
 | 0=> -1
 | n+1=>bif p n then yu p n else n
def yek (p:Nat→Bool) (n:Nat):Bool:=(List.range n).any (fun i=> !p i&&leb 0 (yu p i))
theorem yH4 (p:Nat→Bool): ∀n,yu p n= -1∨(0≤yu p n∧yu p n<n∧p (yu p n).toNat=false)
 | 0=> .inl rfl
 | n+1=>by
  unfold yu;cases h:p n
  ·exact .inr ⟨by show(0:Int)≤n; omega,by show(n:Int)<_; omega,h⟩
  ·rcases yH4 p n with h1 | h1
   ·exact .inl h1
   ·exact .inr ⟨h1.1,by show yu p n<_; omega,h1.2.2⟩
def yR (a:dA) (s:Int) (n:Nat):List Int:=(List.range n).map (fun(i:Nat)=>yo9 a i s)
theorem yeO (a:dA) (s:Int) (n:Nat):(yR a s n).length=n:=by unfold yR; rw[List.length_map,List.length_range]
theorem yGk (a:dA) (s:Int) (n:Nat):yR a s n++ [yo9 a n s]=yR a s (n+1):=by unfold yR; rw[List.range_succ,List.map_append]; rfl
theorem yYB (a:dA) (s:Int) {i n:Nat} (h:i<n):nth (yR a s n) i 0=yo9 a i s:=by
 unfold yR;rw[zkS,zkJ (by rw[List.length_map,List.length_range]; exact h)]; simp
def yJ (a:dA) (s:Int):List Int×Bool :=bif yek (fun(i:Nat)=>yp a i s) a.2.1.1.toNat then([],false) else bif leb 0 (yu (fun(i:Nat)=>yp a i s) a.2.1.1.toNat)then((yR a s a.2.1.1.toNat).set (yu (fun(i:Nat)=>yp a i s) a.2.1.1.toNat).toNat (yao (yR a s a.2.1.1.toNat)),true) else(yR a s a.2.1.1.toNat,true)
theorem yI2 {a:dA} {s:Int} (h:(yJ a s).2=true):(yJ a s).1.length=a.2.1.1.toNat:=by
 unfold yJ at h ⊢;cases h1:yek (fun(i:Nat)=>yp a i s) a.2.1.1.toNat
 ·cases leb 0 (yu (fun(i:Nat)=>yp a i s) a.2.1.1.toNat)
  ·exact yeO _ _ _
  ·simp only[cond_false,cond_true,List.length_set]; exact yeO _ _ _
 ·rw[h1]at h; cases h
theorem yVm (a:dA) (s:Int) (n:Nat) (h:leb 0 (yu (fun(i:Nat)=>yp a i s) n)=true):inb (yu (fun(i:Nat)=>yp a i s) n) (yR a s n).length=true∧ymG (yR a s n) (yu (fun(i:Nat)=>yp a i s) n)=yao (yR a s n):=by
 rcases yH4 (fun(i:Nat)=>yp a i s) n with h1 | h1
 ·rw[h1]at h; cases h
 ·have h2:inb (yu (fun(i:Nat)=>yp a i s) n) (yR a s n).length=true:=by rw[yeO,zj6]; exact⟨h1.1,h1.2.1⟩
  refine⟨h2,yZI h2 ?_⟩;have h3:=yYB a s (show(yu (fun(i:Nat)=>yp a i s) n).toNat<n by omega);rw[show(((yu (fun(i:Nat)=>yp a i s) n).toNat:Nat):Int)=yu (fun(i:Nat)=>yp a i s) n by omega]at h3;rw[h3];unfold yo9
  have h4:yp a (yu (fun(i:Nat)=>yp a i s) n) s=false:=by
   have:=h1.2.2;have this:yp a ((yu (fun(i:Nat)=>yp a i s) n).toNat:Nat) s=false:=h1.2.2;rwa[show(((yu (fun(i:Nat)=>yp a i s) n).toNat:Nat):Int)=yu (fun(i:Nat)=>yp a i s) n by omega]at this
  rw[h4]; rfl
def ynO (a:dA) (s:Int):List Int×Bool:=bif(yJ a s).2 then((List.range (a.2.1.1-1).toNat).map (fun(i:Nat)=>nth (yJ a s).1 (ybl a.2.1 s i) 0),true)else([],false)
def ybB (a:dA) (s:Int):List Int×Bool:=bif yP a&&(!a.2.2.2.2.2.2.2.2.2.2.2&&yX a.2.1 s)then ynO a s else([],false)
theorem yZv (a:dA) (s:Int):(ynO a s).1.length≤(a.2.1.1-1).toNat:=by
 unfold ynO;cases(yJ a s).2
 ·exact Nat.zero_le _
 ·simp
def yvl (a:dA):List Int:=bif yP a&&(List.range a.2.1.2.toNat).all (fun(s:Nat)=>(ybB a s).2)then(List.range a.2.1.2.toNat).flatMap (fun(s:Nat)=>(ybB a s).1)else[]
theorem yvU (g:dG) (s:Int):yam g s=yX g s:=by
 unfold yam yX;rw[yH1];cases hg:ye g
 ·rfl
 have:=yk.1 hg;rw[y9,ybR,wr (by omega) (by omega)]; rfl
theorem yY2 {a:dA} (s:Int) (hg:ye a.2.1=true):(ybB a s).1.length≤4:=by
 have:=yk.1 hg;unfold ybB;cases(yP a&&(!a.2.2.2.2.2.2.2.2.2.2.2&&yX a.2.1 s))
 ·exact Nat.zero_le _
 ·have:=yZv a s
  show(ynO a s).1.length≤4;omega
theorem yQF (p:Nat→Bool): ∀n,leb 0 (yu p n)=decide (1≤yzO p n)∧yek p n=decide (2≤yzO p n)
 | 0=>⟨rfl,rfl⟩
 | n+1=>by
  obtain⟨h1,h2⟩:=yQF p n
  have e:yek p (n+1)=(yek p n||(!p n&&leb 0 (yu p n))):=by
   unfold yek;rw[List.range_succ,List.any_append]; simp
  have e2:yu p (n+1)=bif p n then yu p n else n:=rfl;rw[e,e2,yQD,h2,h1];cases hp:p n
  ·simp only[cond_false,Bool.not_false,Bool.true_and]
   refine⟨by rw[zk2 (show(0:Int)≤n by omega)]; simp,?_⟩;rw[Bool.eq_iff_iff,Bool.or_eq_true,decide_eq_true_eq,decide_eq_true_eq,decide_eq_true_eq]; omega
  ·simp[h1]
def yim (m:dM) (n:Int):List Int:=ygI n m.2.1 (nth m.1 n [])
def yg1 (m:dM) (n:Int):Bool:=m.2.2.2.any (· ==n)
def yAt (m:dM) (n:Int) (v:List Int):Prop:=v=nth m.1 n []∨ ∃w∈m.2.1,w.1=n∧w.2=v
theorem yQL (n:Int): ∀(c:List dW) (s:List Int),ygI n c s=s∨ ∃w∈c,w.1=n∧w.2=ygI n c s
 | [],s=> .inl rfl
 | w::c,s=>by
  show ygI n c (bif w.1==n then w.2 else s)=s∨ ∃x∈w::c,x.1=n∧x.2=ygI n c (bif w.1==n then w.2 else s);rcases yQL n c (bif w.1==n then w.2 else s)with h | ⟨x,hx,h1,h2⟩
  ·rw[h]
   cases hw:(w.1==n)
   ·exact .inl rfl
   ·exact .inr ⟨w,List.mem_cons_self,beq_iff_eq.1 hw,rfl⟩
  ·exact .inr ⟨x,List.mem_cons_of_mem _ hx,h1,h2⟩
theorem yMh (m:dM) (n:Int):yAt m n (yim m n):=yQL n m.2.1 _
theorem yLG (n:Int) (c:List dW) (w:dW) (s:List Int):ygI n (c++ [w]) s=bif w.1==n then w.2 else ygI n c s:=by
 unfold ygI; rw[List.foldl_append]; rfl
theorem y0l {m:dM} {n:Int} (h:yr m=true) (h1:m.2.2.1=false) (h2:inb n m.1.length=true):yha m n=bif yg1 m n then([],false)else(yim m n,true):=by
 unfold yha yzV;rw[h,h1,h2];show(bif !(yg1 m n)then(yim m n,true)else([],false))=_;cases yg1 m n<;>rfl
theorem yLy {m:dM} {n:Int} {s:List Int} (h:yr m=true) (h1:m.2.2.1=false) (h2:inb n m.1.length=true) (h3:yai s=true) (h4:m.2.1.length<60):yaV m n s=true:=by
 unfold yaV;rw[h,h1,h2,h3,zky (by omega)]; rfl
theorem yGa {m:dM} {n:Int} {s:List Int} (h:yaV m n s=true):(yH m n s).1=(m.1,m.2.1++ [(n,s)],m.2.2.1,yF4 m.2.2.2 n):=by unfold yH; rw[h]; rfl
theorem yDq {m:dM} {n:Int} {s:List Int} (h:yaV m n s=true) (k:Int):yim (yH m n s).1 k=bif n==k then s else yim m k:=by
 rw[yGa h]; exact yLG _ _ _ _
theorem yZ2 (l:List Int) (n k:Int):(yF4 l n).any (· ==k)=(l.any (· ==k)&&k !=n):=by
 rw[Bool.eq_iff_iff];simp only[yF4,List.any_eq_true,List.mem_filter,Bool.and_eq_true,beq_iff_eq,bne_iff_ne];constructor
 ·rintro⟨x,⟨h1,h2⟩,rfl⟩; exact⟨⟨x,h1,rfl⟩,h2⟩
 ·rintro⟨⟨x,h1,rfl⟩,h2⟩; exact⟨x,⟨h1,h2⟩,rfl⟩
theorem yv0 {m:dM} {n:Int} {s:List Int} (h:yaV m n s=true) (k:Int):yg1 (yH m n s).1 k=(yg1 m k&&k !=n):=by
 rw[yGa h]; exact yZ2 _ _ _
theorem yZh {m:dM} {n:Int} {s:List Int} {k:Int} {v:List Int} (h:yAt (yH m n s).1 k v):yAt m k v∨(k=n∧v=s):=by
 cases hc:yaV m n s
 ·unfold yH at h; rw[hc]at h; exact .inl h
 ·rw[yGa hc]at h
  rcases h with h | ⟨w,hw,h1,h2⟩
  ·exact .inl (.inl h)
  ·rcases List.mem_append.1 hw with hw | hw
   ·exact .inl (.inr ⟨w,hw,h1,h2⟩)
   ·rw[List.mem_singleton.1 hw]at h1 h2; exact .inr ⟨h1.symm,h2.symm⟩
theorem yBX {α:Type} {l:List α} {i k:Int} {x d:α} (hi:inb i l.length=true) (hk:0≤k):nth (l.set i.toNat x) k d=bif i==k then x else nth l k d:=by
 have h1:=zj6.1 hi;unfold nth;rw[List.getD_eq_getElem?_getD,List.getD_eq_getElem?_getD,List.getElem?_set];by_cases h:i=k
 ·subst h; simp[show i.toNat<l.length by omega]
 ·rw[if_neg (by omega),show(i==k)=false from beq_eq_false_iff_ne.2 h]; rfl
theorem y0P (b:Nat→Bool) {c:List dW} {l:List (List Int)} {k:Int} (hk:0≤k) (hc: ∀w∈c,inb w.1 l.length=true) :
  ∀n,n≤c.length→((List.range n).foldl (ygB b c) l).length=l.length∧(nth ((List.range n).foldl (ygB b c) l) k []=nth l k []∨ ∃w∈c,w.1=k∧w.2=nth ((List.range n).foldl (ygB b c) l) k []) ∧
   ((∀i,b i=true)→nth ((List.range n).foldl (ygB b c) l) k []=ygI k (c.take n) (nth l k [])):=by
 intro n
 induction n with
 | zero=>intro _; exact⟨rfl,.inl rfl,fun _=>rfl⟩
 | succ n ih =>
  intro hn;obtain⟨h1,h2,h3⟩:=ih (by omega);rw[List.range_succ,List.foldl_append,List.foldl_cons,List.foldl_nil];have hnc:n<c.length:=by omega
  generalize (List.range n).foldl (ygB b c) l=L at h1 h2 h3 ⊢;refine⟨yzP.trans h1,?_⟩;unfold ygB;rw[zkS,zkJ hnc];have hw:inb c[n].1 L.length=true:=by rw[h1]; exact hc _ (List.getElem_mem hnc)
  cases hb:b n
  ·refine⟨h2,fun h=> ?_⟩
   rw[h n]at hb; cases hb
  ·simp only[cond_true,yBX hw hk]
   constructor
   ·cases he:(c[n].1==k)
    ·exact h2
    ·exact .inr ⟨c[n],List.getElem_mem hnc,beq_iff_eq.1 he,rfl⟩
   ·intro h
    rw[h3 h,List.take_add_one,List.getElem?_eq_getElem hnc];exact(yLG k _ _ _).symm
theorem y0j {m:dM} (h:yr m=true): ∀w∈m.2.1,inb w.1 m.1.length=true:=fun w hw=>by
 have:=List.all_eq_true.1 (ycZ h).2.1 w hw;simp only[yq2,Bool.and_eq_true]at this; exact this.1
theorem yZz {m:dM} {k:Int} (h:yr m=true) (h1:m.2.2.1=false) (hk:0≤k):nth (yq m).1 k []=yim m k:=by
 have:=(y0P (fun _=>true) hk (y0j h) m.2.1.length (Nat.le_refl _)).2.2 (fun _=>rfl);rw[List.take_length]at this;unfold yq;rw[h,h1]; exact this
theorem yFB {m:dM} (h:yr m=true) (h1:m.2.2.1=false):(yq m).2.1= []∧(yq m).2.2=m.2.2:=by
 unfold yq;rw[h,h1];refine⟨rfl,?_⟩;show(false,m.2.2.2)=m.2.2;rw[← h1]
theorem yPW {m:dM} {k:Int} {v:List Int} (h:yr m=true) (h1:m.2.2.1=false) (hk:0≤k) (hv:yAt (yq m) k v):v=yim m k:=by
 rcases hv with hv | ⟨w,hw,_⟩
 ·rw[hv,yZz h h1 hk]
 ·rw[(yFB h h1).1]at hw; cases hw
theorem yZy {m:dM} {k:Int} (h:yr m=true) (h1:m.2.2.1=false) (hk:0≤k):yim (yq m) k=yim m k:=yPW h h1 hk (yMh _ _)
theorem yHp (m:dM) (k:Int):yg1 (yq m) k=yg1 m k:=by
 unfold yq;cases(yr m&& !m.2.2.1)<;>rfl
theorem y03 {x:Int} (h:isW x=true):(bv x).toNat<2^16:=by
 have:=yzW.1 h;unfold bv;rw[BitVec.toNat_ofInt];omega
theorem y1a {v:BitVec 64} (h:v.toNat<2^16):isW v.toInt=true:=by
 rw[BitVec.toInt_eq_toNat_of_lt (by omega)];exact yzW.2 (by omega)
theorem y00: ∀(l:List Int),l.all isW=true→(yeP l).toNat<2^16:=by
 intro l h
 have: ∀(l:List Int) (v:BitVec 64),v.toNat<2^16→l.all isW=true→(l.foldl (fun v x=>v ^^^ bv x) v).toNat<2^16:=by
  intro l
  induction l with
  | nil=>intro v hv _; exact hv
  | cons x t ih =>
   intro v hv h;simp only[List.all_cons,Bool.and_eq_true]at h;refine ih _ ?_ h.2;rw[BitVec.toNat_xor];exact Nat.xor_lt_two_pow hv (y03 h.1)
 exact this l 0#64 (by decide) h
theorem yVt {l:List Int} (h:l.all isW=true):isW (yao l)=true:=by
 rw[yni]; exact y1a (y00 l h)
theorem yI3 {l:List Int}:l.all isW=true↔ ∀x∈l,isW x=true:=by simp
theorem yT8 {l:List Int} {i:Int} (h:l.all isW=true):isW (nth l i 0)=true:=by
 unfold nth;rw[List.getD_eq_getElem?_getD];cases e:l[i.toNat]? with
 | none=>rfl
 | some x=>exact yI3.1 h x (List.mem_of_getElem? e)
theorem yUX {l:List Int} {i:Nat} {x:Int} (h:l.all isW=true) (hx:isW x=true):(l.set i x).all isW=true:=by
 rw[yI3]at h ⊢;intro y hy;rcases List.mem_or_eq_of_mem_set hy with h1 | rfl
 ·exact h y h1
 ·exact hx
theorem yZj {m:dM} {n:Int} (h:(yha m n).2=true):yai (yha m n).1=true:=by
 unfold yha at h ⊢;cases hc:yzV m n
 ·rw[hc]at h; cases h
 ·simp only[yzV,Bool.and_eq_true]at hc
  obtain⟨h1,h2,h3,_,_,_⟩:=ycZ hc.1;refine yFT (P:=fun s=>yai s=true) ?_ fun w hw=> ?_
  ·exact yvr (P:=fun s=>yai s=true) hc.2.2.1 (fun x hx=>List.all_eq_true.1 h1 x hx)
  ·have:=List.all_eq_true.1 h2 w hw
   simp only[yq2,Bool.and_eq_true]at this;exact this.2
theorem y0x (a:dA) (m s:Int):isW (yo9 a m s)=true:=by
 unfold yo9;cases h:yp a m s
 ·rfl
 ·simp only[yp,Bool.and_eq_true]at h
  have:=yZj (m:=nth a.2.2.1 m yd) (n:=yQ s) h.2.1;simp only[yai,Bool.and_eq_true]at this;exact yT8 this.2
theorem yCB (a:dA) (s:Int) (n:Nat):(yR a s n).all isW=true:=by
 rw[yI3];unfold yR;intro x hx;obtain⟨i,_,rfl⟩:=List.mem_map.1 hx;exact y0x a i s
theorem yZY (a:dA) (s:Int):(yJ a s).1.all isW=true:=by
 unfold yJ;cases yek (fun(i:Nat)=>yp a i s) a.2.1.1.toNat
 ·cases leb 0 (yu (fun(i:Nat)=>yp a i s) a.2.1.1.toNat)
  ·exact yCB _ _ _
  ·exact yUX (yCB _ _ _) (yVt (yCB _ _ _))
 ·rfl
theorem yU7 (a:dA) (s:Int):(ynO a s).1.all isW=true:=by
 unfold ynO;cases(yJ a s).2
 ·rfl
 ·rw[yI3]
  intro x hx;obtain⟨i,_,rfl⟩:=List.mem_map.1 hx;exact yT8 (yZY a s)
def ynn:Code:=(f126.body).getD .skip
def yux:Env:=zkw TT [(109,ycJ),(129,ysN)] []
theorem yJZ:FrOk prog ⟨yux,44,fun _=>none⟩ ynn:=zkA mixed yc ⟨yfK,yFa,trivial⟩
def yz3:Nat→Option Seg:=fun _=>none
def ybK:Shape:=⟨[(1,false,[.ptr 0 0]),(6,false,[.br tW]),(7,false,[.int .i64]),(8,false,[.int .i64])],[(0,[.int .i64,.int .i64,.int .i64,.br tM,.int .i64,.int .i64,.int .i64,.int .i64,.int .i64,.br tW,.int .i64,.bool,.bool])],[]⟩
def yfv:Shape:=⟨[(1,false,[.ptr 0 0]),(6,false,[.br tW]),(7,false,[.int .i64]),(8,false,[.ci .i64 0])],[(0,[.int .i64,.int .i64,.int .i64,.br tM,.int .i64,.int .i64,.int .i64,.int .i64,.int .i64,.br tW,.int .i64,.bool,.bool])],[]⟩
def yfj:Shape:=⟨[],[],[]⟩
def yfD:Shape:=⟨[(2,false,[.bool])],[],[]⟩
abbrev ymO (v0:List dW) (v1 v2:Int) (v3:dA):(ybK).X:=((((),()),(v0,()),(v1,()),(v2,()),()),((v3.1,v3.2.1.1,v3.2.1.2,v3.2.2.1,v3.2.2.2.1,v3.2.2.2.2.1,v3.2.2.2.2.2.1,v3.2.2.2.2.2.2.1,v3.2.2.2.2.2.2.2.1,v3.2.2.2.2.2.2.2.2.1,v3.2.2.2.2.2.2.2.2.2.1,v3.2.2.2.2.2.2.2.2.2.2.1,v3.2.2.2.2.2.2.2.2.2.2.2,()),()),())
abbrev yIi (v0:List dW) (v1:Int) (v2:dA):(yfv).X:=((((),()),(v0,()),(v1,()),((),()),()),((v2.1,v2.2.1.1,v2.2.1.2,v2.2.2.1,v2.2.2.2.1,v2.2.2.2.2.1,v2.2.2.2.2.2.1,v2.2.2.2.2.2.2.1,v2.2.2.2.2.2.2.2.1,v2.2.2.2.2.2.2.2.2.1,v2.2.2.2.2.2.2.2.2.2.1,v2.2.2.2.2.2.2.2.2.2.2.1,v2.2.2.2.2.2.2.2.2.2.2.2,()),()),())
abbrev yH7  :(yfj).X:=((),(),())
abbrev yIp (v0:Bool):(yfD).X:=(((v0,()),()),(),())
def ynb (v0:List dW) (v1 v2 v3 v4 v5:Int) (v6:List dM) (v7 v8 v9 v10 v11:Int) (v12:List dW) (v13:Int) (v14 v15:Bool):Option ((ybK).X ⊕ ((yfj).X ⊕ (yfD).X)) :=bif(ltb v2 v1)then bif(inb v2 v0.length)then let r4:=yam (v4,v5) ((nth v0 v2 (0,[])).1);bif(!(!r4))then bif(ltb 0 v2)then bif(inb (i64.wrap (v2-1)) v12.length)then bif(!(leb ((nth v0 v2 (0,[])).1) ((nth v12 (i64.wrap (v2-1)) (0,[])).1)))then let r5:=ydK (v4,v5) ((nth v0 v2 (0,[])).2);bif(!r5)then some (.inr (.inr (((false,()),()),(),()))) else some (.inl ((((),()),(v0,()),(v1,()),((i64.wrap (v2+1)),()),()),((v3,v4,v5,v6,v7,v8,v9,v10,v11,v12,v13,v14,v15,()),()),())) else some (.inr (.inr (((false,()),()),(),()))) else none else let r6:=ydK (v4,v5) ((nth v0 v2 (0,[])).2);bif(!r6)then some (.inr (.inr (((false,()),()),(),()))) else some (.inl ((((),()),(v0,()),(v1,()),((i64.wrap (v2+1)),()),()),((v3,v4,v5,v6,v7,v8,v9,v10,v11,v12,v13,v14,v15,()),()),())) else some (.inr (.inr (((false,()),()),(),()))) else none else some (.inr (.inl ((),(),())))
def yb5 (x:(ybK).X):=ynb x.1.2.1.1 x.1.2.2.1.1 x.1.2.2.2.1.1 x.2.1.1.1 x.2.1.1.2.1 x.2.1.1.2.2.1 x.2.1.1.2.2.2.1 x.2.1.1.2.2.2.2.1 x.2.1.1.2.2.2.2.2.1 x.2.1.1.2.2.2.2.2.2.1 x.2.1.1.2.2.2.2.2.2.2.1 x.2.1.1.2.2.2.2.2.2.2.2.1 x.2.1.1.2.2.2.2.2.2.2.2.2.1 x.2.1.1.2.2.2.2.2.2.2.2.2.2.1 x.2.1.1.2.2.2.2.2.2.2.2.2.2.2.1 x.2.1.1.2.2.2.2.2.2.2.2.2.2.2.2.1
def ywk (x:(yfv).X):(ybK).X:=((((),()),(x.1.2.1.1,()),(x.1.2.2.1.1,()),(0,()),()),((x.2.1.1.1,x.2.1.1.2.1,x.2.1.1.2.2.1,x.2.1.1.2.2.2.1,x.2.1.1.2.2.2.2.1,x.2.1.1.2.2.2.2.2.1,x.2.1.1.2.2.2.2.2.2.1,x.2.1.1.2.2.2.2.2.2.2.1,x.2.1.1.2.2.2.2.2.2.2.2.1,x.2.1.1.2.2.2.2.2.2.2.2.2.1,x.2.1.1.2.2.2.2.2.2.2.2.2.2.1,x.2.1.1.2.2.2.2.2.2.2.2.2.2.2.1,x.2.1.1.2.2.2.2.2.2.2.2.2.2.2.2.1,()),()),())
def yyG:Code:=(zd7 ynn 64 52).getD .skip
theorem yJD:zd7 ynn 64 13=some (.block 0 (.loop yyG)):=by kernel_rfl
theorem yLr (x:(ybK).X):zhu ⟨yux,44,yz3⟩ 0 yyG 52 ybK yfj yfD x=yb5 x:=by kernel_rfl
def ywz (x:(yfv).X):Nat:=18446744073709551616
def yob (x:(yfv).X):Option ((yfj).X ⊕ (yfD).X):=zF yb5 (ywz x) (ywk x)
def yw0:Seg:=⟨yfv,yfj,yfD,yob⟩
def yLT:Nat→Option Seg:=fun q=>bif Nat.beq q 13 then some yw0 else yz3 q
theorem yJ0:FrOk prog ⟨yux,44,yLT⟩ ynn:=(yJZ).loop (sg:=yw0) ybK ywk (by decide) yJD yb5 ywz (by decide) (fun _=>rfl) (fun x r _ h=>h) yLr
abbrev yiT:List Par:= [.rd tA]
abbrev ynG:List OT:= [⟨false,tB,.fz⟩]
def yqC (a0:dA):Option (zaY ynG×zak yiT) :=zkt (yob ((((),()),(a0.2.2.2.2.2.2.2.2.1,()),((a0.2.2.2.2.2.2.2.2.1.length:Int),()),((),()),()),((a0.1,a0.2.1.1,a0.2.1.2,a0.2.2.1,a0.2.2.2.1,a0.2.2.2.2.1,a0.2.2.2.2.2.1,a0.2.2.2.2.2.2.1,a0.2.2.2.2.2.2.2.1,a0.2.2.2.2.2.2.2.2.1,a0.2.2.2.2.2.2.2.2.2.1,a0.2.2.2.2.2.2.2.2.2.2.1,a0.2.2.2.2.2.2.2.2.2.2.2,()),()),())) (fun y6 =>some ((true,()),())) (fun y6 =>some ((y6.1.1.1,()),()))
theorem yN9:ConOk prog 126 ⟨yiT,ynG,fun x=>yqC x.1⟩:=zkI (yJ0) func126 ntmps126.symm fun x=>by kernel_rfl
def yjj (a0:dA):Bool:=yaz a0.2.1 a0.2.2.2.2.2.2.2.2.1
def yvy (a0:dA):Bool:=ye a0.2.1
theorem ys6 (l:List Int):yak l=l.all isW:=by
 unfold yak;rw[show yae=isW from funext fun x=>by unfold yae; rw[y9,ybR]; rfl]
theorem yQV (a0:dA) (hk:zjx yiT (a0,())) (hq:yvy a0=true):yqC a0=(fun n=>some ((n,()),())) (yjj a0):=by
 have hb:a0.2.2.2.2.2.2.2.2.1.length*32≤2^47:=hk.1.2.2.2.2.2.2.2.2.1.1;have hg:=yk.1 hq;have hq':ye a0.2.1=true:=hq
 have h1:yob (yIi a0.2.2.2.2.2.2.2.2.1 a0.2.2.2.2.2.2.2.2.1.length a0)=some (bif(List.range a0.2.2.2.2.2.2.2.2.1.length).any (yg3 a0.2.1 a0.2.2.2.2.2.2.2.2.1)then .inr (yIp false)else .inl yH7) :=
  zji (step:=yb5) (fun i=>ymO a0.2.2.2.2.2.2.2.2.1 a0.2.2.2.2.2.2.2.2.1.length i a0) a0.2.2.2.2.2.2.2.2.1.length (yg3 a0.2.1 a0.2.2.2.2.2.2.2.2.1) _ _ (fun i hi=>by
   simp only[yb5,ymO,ynb,zky (show(i:Int)<a0.2.2.2.2.2.2.2.2.1.length by omega),cond_true,wq ((i:Int)+1) (by omega) (by omega),Int.natCast_add,Int.natCast_one,Int.toNat_natCast,zkR hi,zkX,yam,ydK,yH1,hq',y9,ybR,ys6,wq (a0.2.1.2-1) (by omega) (by omega),wq (a0.2.1.1-1) (by omega) (by omega),yg3,bne];rcases Nat.eq_zero_or_pos i with rfl | h0
   ·cases(leb 0 (nth a0.2.2.2.2.2.2.2.2.1 ((0:Nat):Int) (0,[])).1&&leb (nth a0.2.2.2.2.2.2.2.2.1 ((0:Nat):Int) (0,[])).1 (a0.2.1.2-1))<;>cases(((nth a0.2.2.2.2.2.2.2.2.1 ((0:Nat):Int) (0,[])).2.length:Int)==a0.2.1.1-1)<;>cases((nth a0.2.2.2.2.2.2.2.2.1 ((0:Nat):Int) (0,[])).2.all isW)<;>rfl
   ·rw[show i64.wrap ((i:Int)-1)=((i-1:Nat):Int)by rw[wr (by omega) (by omega)]; omega,zkR (show i-1<a0.2.2.2.2.2.2.2.2.1.length by omega),zky (show(0:Int)<i by omega),decide_eq_true h0]
    cases(leb 0 (nth a0.2.2.2.2.2.2.2.2.1 (i:Int) (0,[])).1&&leb (nth a0.2.2.2.2.2.2.2.2.1 (i:Int) (0,[])).1 (a0.2.1.2-1))<;>cases(((nth a0.2.2.2.2.2.2.2.2.1 (i:Int) (0,[])).2.length:Int)==a0.2.1.1-1)<;>cases((nth a0.2.2.2.2.2.2.2.2.1 (i:Int) (0,[])).2.all isW)<;>cases leb (nth a0.2.2.2.2.2.2.2.2.1 (i:Int) (0,[])).1 (nth a0.2.2.2.2.2.2.2.2.1 ((i-1:Nat):Int) (0,[])).1<;>rfl) (by simp only[yb5,ymO,ynb,zk3 (Int.le_refl _),cond_false]) _ (by show _<18446744073709551616; omega)
 unfold yqC yjj yaz;rw[h1];cases(List.range a0.2.2.2.2.2.2.2.2.1.length).any (yg3 a0.2.1 a0.2.2.2.2.2.2.2.2.1)<;>rfl
def ynX (a0:dA):Option (zaY ynG×zak yiT):=bif yvy a0 then(fun n=>some ((n,()),())) (yjj a0)else none
theorem ySc (a0:dA) (h:yvy a0=true):ynX a0=(fun n=>some ((n,()),())) (yjj a0):=by unfold ynX; rw[h]; rfl
def yA5:Con:=⟨yiT,ynG,fun x=>ynX x.1⟩
theorem yRX:ConOk prog 126 yA5:=(yN9).mono (fun x r hk h=>zkY h (fun hq=>yQV x.1 hk hq))
def yVT:Code:=(f226.body).getD .skip
def yWn:Env:=zkw TT [(82,yw)] []
theorem yMN:FrOk prog ⟨yWn,5,fun _=>none⟩ yVT:=zkA mixed yc ⟨yC,trivial⟩
abbrev yxy:List Par:= [.rd tI]
abbrev yx2:List OT:= [⟨false,tB,.fz⟩]
def yDZ (a0:Int):Option (zaY yx2×zak yxy) :=let r1:=ya a0 0 65535;some ((r1,()),())
theorem yRG:ConOk prog 226 ⟨yxy,yx2,fun x=>yDZ x.1⟩:=zkI (yMN) func226 ntmps226.symm fun x=>by kernel_rfl
def yT (a0:Int):Bool :=let r1:=ya a0 0 65535;r1
def yDi:Con:=⟨yxy,yx2,fun x=>(fun n=>some ((n,()),())) (yT x.1)⟩
theorem yTY (a0:Int):yDZ a0=(fun n=>some ((n,()),())) (yT a0):=zkV (p:=fun(n:Bool)=>((n,()),())) rfl
theorem yUI:ConOk prog 226 yDi:=(yRG).mono (fun x r _ h=>(yTY x.1).trans h)
def ynq:Code:=(f200.body).getD .skip
def yuA:Env:=zkw TT [(226,yDi)] []
theorem yKk:FrOk prog ⟨yuA,16,fun _=>none⟩ ynq:=zkA mixed yc ⟨yUI,trivial⟩
def yz9:Nat→Option Seg:=fun _=>none
def ydt:Shape:=⟨[(0,false,[.br tI]),(3,false,[.int .i64])],[],[]⟩
def yiy:Shape:=⟨[(0,false,[.br tI]),(3,false,[.ci .i64 0])],[],[]⟩
def yiw:Shape:=⟨[],[],[]⟩
def yiH:Shape:=⟨[(2,false,[.bool])],[],[]⟩
def ynf (v0:List Int) (v1:Int):Option ((ydt).X ⊕ ((yiw).X ⊕ (yiH).X)) :=bif(ltb v1 (v0.length:Int))then bif(inb v1 v0.length)then let r2:=yT (nth v0 v1 0);bif(!r2)then some (.inr (.inr (((false,()),()),(),()))) else some (.inl (((v0,()),((i64.wrap (v1+1)),()),()),(),())) else none else some (.inr (.inl ((),(),())))
def yb9 (x:(ydt).X):=ynf x.1.1.1 x.1.2.1.1
def ywo (x:(yiy).X):(ydt).X:=(((x.1.1.1,()),(0,()),()),(),())
def yyK:Code:=(zd7 ynq 64 52).getD .skip
theorem yJH:zd7 ynq 64 13=some (.block 0 (.loop yyK)):=by kernel_rfl
theorem yLv (x:(ydt).X):zhu ⟨yuA,16,yz9⟩ 0 yyK 52 ydt yiw yiH x=yb9 x:=by kernel_rfl
def ywD (x:(yiy).X):Nat:=18446744073709551616
def yoe (x:(yiy).X):Option ((yiw).X ⊕ (yiH).X):=zF yb9 (ywD x) (ywo x)
def yw4:Seg:=⟨yiy,yiw,yiH,yoe⟩
def yLX:Nat→Option Seg:=fun q=>bif Nat.beq q 13 then some yw4 else yz9 q
theorem yKl:FrOk prog ⟨yuA,16,yLX⟩ ynq:=(yKk).loop (sg:=yw4) ydt ywo (by decide) yJH yb9 ywD (by decide) (fun _=>rfl) (fun x r _ h=>h) yLv
abbrev ynF:List Par:= [.rd tL]
abbrev yvc:List OT:= [⟨false,tB,.fz⟩]
def yqK (a0:List Int):Option (zaY yvc×zak ynF) :=zkt (yoe (((a0,()),((),()),()),(),())) (fun y2 =>some ((true,()),())) (fun y2 =>some ((y2.1.1.1,()),()))
theorem yOp:ConOk prog 200 ⟨ynF,yvc,fun x=>yqK x.1⟩:=zkI (yKl) func200 ntmps200.symm fun x=>by kernel_rfl
def yac (a0:List Int):Bool:=a0.all yT
theorem yQ9 (a0:List Int) (hk:zjx ynF (a0,())):yqK a0=(fun n=>some ((n,()),())) (yac a0):=by
 have hb:a0.length*8≤2^47:=hk.1.1
 have hl:yoe (((a0,()),((),()),()),(),())=some (bif a0.all yT then .inl ((),(),())else .inr (((false,()),()),(),())) :=
  zj9 (step:=yb9) a0 0 (fun i=>(((a0,()),((i:Int),()),()),(),())) yT _ _ (fun i hi=>by
   simp only[yb9,ynf,zkR hi,zkS,zky (show(i:Int)<a0.length by omega),cond_true,wq ((i:Int)+1) (by omega) (by omega),Int.natCast_add,Int.natCast_one]
   cases yT (a0.getD i 0)<;>rfl) (by simp only[yb9,ynf,zk3 (Int.le_refl _),cond_false]) _ (by show _<18446744073709551616; omega)
 unfold yqK yac;rw[hl];cases a0.all yT<;>rfl
def ygz:Con:=⟨ynF,yvc,fun x=>(fun n=>some ((n,()),())) (yac x.1)⟩
theorem ymf:ConOk prog 200 ygz:=(yOp).mono (fun x r hk h=>(yQ9 x.1 hk).trans h)
theorem yXH (a:Int):yae a=yT a:=by kernel_rfl
def ynr:Code:=(f152.body).getD .skip
def yuB:Env:=zkw TT [(82,yw),(200,ygz)] []
theorem yKm:FrOk prog ⟨yuB,57,fun _=>none⟩ ynr:=zkA mixed yc ⟨yC,ymf,trivial⟩
def yAa:Nat→Option Seg:=fun _=>none
def ybN:Shape:=⟨[(1,false,[.ptr 0 0]),(3,false,[.int .i64])],[(0,[.int .i64,.int .i64,.int .i64,.br tM,.int .i64,.int .i64,.int .i64,.int .i64,.int .i64,.br tW,.int .i64,.bool,.bool])],[]⟩
def yfy:Shape:=⟨[(1,false,[.ptr 0 0]),(3,false,[.ci .i64 0])],[(0,[.int .i64,.int .i64,.int .i64,.br tM,.int .i64,.int .i64,.int .i64,.int .i64,.int .i64,.br tW,.int .i64,.bool,.bool])],[]⟩
def yfm:Shape:=⟨[],[],[]⟩
def yfF:Shape:=⟨[(2,false,[.bool])],[],[]⟩
abbrev ymR (v0:Int) (v1:dA):(ybN).X:=((((),()),(v0,()),()),((v1.1,v1.2.1.1,v1.2.1.2,v1.2.2.1,v1.2.2.2.1,v1.2.2.2.2.1,v1.2.2.2.2.2.1,v1.2.2.2.2.2.2.1,v1.2.2.2.2.2.2.2.1,v1.2.2.2.2.2.2.2.2.1,v1.2.2.2.2.2.2.2.2.2.1,v1.2.2.2.2.2.2.2.2.2.2.1,v1.2.2.2.2.2.2.2.2.2.2.2,()),()),())
abbrev yIl (v0:dA):(yfy).X:=((((),()),((),()),()),((v0.1,v0.2.1.1,v0.2.1.2,v0.2.2.1,v0.2.2.2.1,v0.2.2.2.2.1,v0.2.2.2.2.2.1,v0.2.2.2.2.2.2.1,v0.2.2.2.2.2.2.2.1,v0.2.2.2.2.2.2.2.2.1,v0.2.2.2.2.2.2.2.2.2.1,v0.2.2.2.2.2.2.2.2.2.2.1,v0.2.2.2.2.2.2.2.2.2.2.2,()),()),())
abbrev yH9  :(yfm).X:=((),(),())
abbrev yIr (v0:Bool):(yfF).X:=(((v0,()),()),(),())
def yng (v0 v1 v2 v3:Int) (v4:List dM) (v5 v6 v7 v8 v9:Int) (v10:List dW) (v11:Int) (v12 v13:Bool):Option ((ybN).X ⊕ ((yfm).X ⊕ (yfF).X)) :=bif(ltb v0 (v10.length:Int))then bif(inb v0 v10.length)then let r3:=ya ((nth v10 v0 (0,[])).1) 0 (i64.wrap (v3-1));bif(!(!r3))then bif(!((((nth v10 v0 (0,[])).2).length:Int) !=(i64.wrap (v2-1))))then let r4:=yac ((nth v10 v0 (0,[])).2);bif(!(!r4))then bif(ltb 0 v0)then bif(inb (i64.wrap (v0-1)) v10.length)then bif(leb ((nth v10 v0 (0,[])).1) ((nth v10 (i64.wrap (v0-1)) (0,[])).1))then some (.inr (.inr (((false,()),()),(),()))) else some (.inl ((((),()),((i64.wrap (v0+1)),()),()),((v1,v2,v3,v4,v5,v6,v7,v8,v9,v10,v11,v12,v13,()),()),())) else none else some (.inl ((((),()),((i64.wrap (v0+1)),()),()),((v1,v2,v3,v4,v5,v6,v7,v8,v9,v10,v11,v12,v13,()),()),())) else some (.inr (.inr (((false,()),()),(),()))) else some (.inr (.inr (((false,()),()),(),()))) else some (.inr (.inr (((false,()),()),(),()))) else none else some (.inr (.inl ((),(),())))
def yca (x:(ybN).X):=yng x.1.2.1.1 x.2.1.1.1 x.2.1.1.2.1 x.2.1.1.2.2.1 x.2.1.1.2.2.2.1 x.2.1.1.2.2.2.2.1 x.2.1.1.2.2.2.2.2.1 x.2.1.1.2.2.2.2.2.2.1 x.2.1.1.2.2.2.2.2.2.2.1 x.2.1.1.2.2.2.2.2.2.2.2.1 x.2.1.1.2.2.2.2.2.2.2.2.2.1 x.2.1.1.2.2.2.2.2.2.2.2.2.2.1 x.2.1.1.2.2.2.2.2.2.2.2.2.2.2.1 x.2.1.1.2.2.2.2.2.2.2.2.2.2.2.2.1
def ywp (x:(yfy).X):(ybN).X:=((((),()),(0,()),()),((x.2.1.1.1,x.2.1.1.2.1,x.2.1.1.2.2.1,x.2.1.1.2.2.2.1,x.2.1.1.2.2.2.2.1,x.2.1.1.2.2.2.2.2.1,x.2.1.1.2.2.2.2.2.2.1,x.2.1.1.2.2.2.2.2.2.2.1,x.2.1.1.2.2.2.2.2.2.2.2.1,x.2.1.1.2.2.2.2.2.2.2.2.2.1,x.2.1.1.2.2.2.2.2.2.2.2.2.2.1,x.2.1.1.2.2.2.2.2.2.2.2.2.2.2.1,x.2.1.1.2.2.2.2.2.2.2.2.2.2.2.2.1,()),()),())
def yyL:Code:=(zd7 ynr 64 52).getD .skip
theorem yJI:zd7 ynr 64 13=some (.block 0 (.loop yyL)):=by kernel_rfl
theorem yLw (x:(ybN).X):zhu ⟨yuB,57,yAa⟩ 0 yyL 52 ybN yfm yfF x=yca x:=by kernel_rfl
def ywE (x:(yfy).X):Nat:=18446744073709551616
def yof (x:(yfy).X):Option ((yfm).X ⊕ (yfF).X):=zF yca (ywE x) (ywp x)
def yw5:Seg:=⟨yfy,yfm,yfF,yof⟩
def yLY:Nat→Option Seg:=fun q=>bif Nat.beq q 13 then some yw5 else yAa q
theorem yKn:FrOk prog ⟨yuB,57,yLY⟩ ynr:=(yKm).loop (sg:=yw5) ybN ywp (by decide) yJI yca ywE (by decide) (fun _=>rfl) (fun x r _ h=>h) yLw
abbrev yiW:List Par:= [.rd tA]
abbrev ynJ:List OT:= [⟨false,tB,.fz⟩]
def yqL (a0:dA):Option (zaY ynJ×zak yiW) :=zkt (yof ((((),()),((),()),()),((a0.1,a0.2.1.1,a0.2.1.2,a0.2.2.1,a0.2.2.2.1,a0.2.2.2.2.1,a0.2.2.2.2.2.1,a0.2.2.2.2.2.2.1,a0.2.2.2.2.2.2.2.1,a0.2.2.2.2.2.2.2.2.1,a0.2.2.2.2.2.2.2.2.2.1,a0.2.2.2.2.2.2.2.2.2.2.1,a0.2.2.2.2.2.2.2.2.2.2.2,()),()),())) (fun y4 =>some ((true,()),())) (fun y4 =>some ((y4.1.1.1,()),()))
theorem yOq:ConOk prog 152 ⟨yiW,ynJ,fun x=>yqL x.1⟩:=zkI (yKn) func152 ntmps152.symm fun x=>by kernel_rfl
def yjo (a0:dA):Bool:=yaz a0.2.1 a0.2.2.2.2.2.2.2.2.1
def yvA (a0:dA):Bool:=ye a0.2.1
theorem yhb (l:List Int):yac l=l.all isW:=by
 unfold yac;rw[show yT=isW from funext fun x=>by unfold yT; rw[ybR]; rfl]
theorem yRa (a0:dA) (hk:zjx yiW (a0,())) (hq:yvA a0=true):yqL a0=(fun n=>some ((n,()),())) (yjo a0):=by
 have hb:a0.2.2.2.2.2.2.2.2.1.length*32≤2^47:=hk.1.2.2.2.2.2.2.2.2.1.1;have hg:=yk.1 hq
 have h1:yof (yIl a0)=some (bif(List.range a0.2.2.2.2.2.2.2.2.1.length).any (yg3 a0.2.1 a0.2.2.2.2.2.2.2.2.1)then .inr (yIr false)else .inl yH9) :=
  zji (step:=yca) (fun i=>ymR i a0) a0.2.2.2.2.2.2.2.2.1.length (yg3 a0.2.1 a0.2.2.2.2.2.2.2.2.1) _ _ (fun i hi=>by
   simp only[yca,ymR,yng,zky (show(i:Int)<a0.2.2.2.2.2.2.2.2.1.length by omega),cond_true,wq ((i:Int)+1) (by omega) (by omega),Int.natCast_add,Int.natCast_one,Int.toNat_natCast,zkR hi,ybR,yhb,wq (a0.2.1.2-1) (by omega) (by omega),wq (a0.2.1.1-1) (by omega) (by omega),yg3];rcases Nat.eq_zero_or_pos i with rfl | h0
   ·cases(leb 0 (nth a0.2.2.2.2.2.2.2.2.1 ((0:Nat):Int) (0,[])).1&&leb (nth a0.2.2.2.2.2.2.2.2.1 ((0:Nat):Int) (0,[])).1 (a0.2.1.2-1))<;>cases(((nth a0.2.2.2.2.2.2.2.2.1 ((0:Nat):Int) (0,[])).2.length:Int) !=a0.2.1.1-1)<;>cases((nth a0.2.2.2.2.2.2.2.2.1 ((0:Nat):Int) (0,[])).2.all isW)<;>rfl
   ·rw[show i64.wrap ((i:Int)-1)=((i-1:Nat):Int)by rw[wr (by omega) (by omega)]; omega,zkR (show i-1<a0.2.2.2.2.2.2.2.2.1.length by omega),zky (show(0:Int)<i by omega),decide_eq_true h0]
    cases(leb 0 (nth a0.2.2.2.2.2.2.2.2.1 (i:Int) (0,[])).1&&leb (nth a0.2.2.2.2.2.2.2.2.1 (i:Int) (0,[])).1 (a0.2.1.2-1))<;>cases(((nth a0.2.2.2.2.2.2.2.2.1 (i:Int) (0,[])).2.length:Int) !=a0.2.1.1-1)<;>cases((nth a0.2.2.2.2.2.2.2.2.1 (i:Int) (0,[])).2.all isW)<;>cases leb (nth a0.2.2.2.2.2.2.2.2.1 (i:Int) (0,[])).1 (nth a0.2.2.2.2.2.2.2.2.1 ((i-1:Nat):Int) (0,[])).1<;>rfl) (by simp only[yca,ymR,yng,zk3 (Int.le_refl _),cond_false]) _ (by show _<18446744073709551616; omega)
 unfold yqL yjo yaz;rw[h1];cases(List.range a0.2.2.2.2.2.2.2.2.1.length).any (yg3 a0.2.1 a0.2.2.2.2.2.2.2.2.1)<;>rfl
def ynY (a0:dA):Option (zaY ynJ×zak yiW):=bif yvA a0 then(fun n=>some ((n,()),())) (yjo a0)else none
theorem ySf (a0:dA) (h:yvA a0=true):ynY a0=(fun n=>some ((n,()),())) (yjo a0):=by unfold ynY; rw[h]; rfl
def yBh:Con:=⟨yiW,ynJ,fun x=>ynY x.1⟩
theorem ySa:ConOk prog 152 yBh:=(yOq).mono (fun x r hk h=>zkY h (fun hq=>yRa x.1 hk hq))
def yXe:Code:=(f159.body).getD .skip
def yXq:Env:=zkw TT [(81,yA),(187,yj0)] []
theorem yP5:FrOk prog ⟨yXq,22,fun _=>none⟩ yXe:=zkA mixed yc ⟨yN,ytl,trivial⟩
abbrev yAm:List Par:= [.rd tN]
abbrev yAx:List OT:= [⟨false,tB,.fz⟩]
def yFk (a0:dN):Option (zaY yAx×zak yAm) :=let r1:=yf a0.1 0 60000;bif r1 then let r2:=yf a0.2.1 0 7;bif r2 then let r3:=yf (a0.2.2.length:Int) 2 4;bif r3 then let r4:=yak a0.2.2;some ((r4,()),()) else some ((false,()),()) else some ((false,()),()) else some ((false,()),())
theorem yUc:ConOk prog 159 ⟨yAm,yAx,fun x=>yFk x.1⟩:=zkI (yP5) func159 ntmps159.symm fun x=>by kernel_rfl
def ymT (a0:dN):Bool :=let r1:=yf a0.1 0 60000;bif r1 then let r2:=yf a0.2.1 0 7;bif r2 then let r3:=yf (a0.2.2.length:Int) 2 4;bif r3 then let r4:=yak a0.2.2;r4 else false else false else false
def yEF:Con:=⟨yAm,yAx,fun x=>(fun n=>some ((n,()),())) (ymT x.1)⟩
theorem yWx (a0:dN):yFk a0=(fun n=>some ((n,()),())) (ymT a0):=zkV (p:=fun(n:Bool)=>((n,()),())) (zkG (p:=fun(n:Bool)=>((n,()),())) (zkG (p:=fun(n:Bool)=>((n,()),())) (zkG (p:=fun(n:Bool)=>((n,()),())) rfl rfl) rfl) rfl)
theorem yWS:ConOk prog 159 yEF:=(yUc).mono (fun x r _ h=>(yWx x.1).trans h)
def yXj:Code:=(f162.body).getD .skip
def yXv:Env:=zkw TT [(82,yw),(200,ygz)] []
theorem yQi:FrOk prog ⟨yXv,22,fun _=>none⟩ yXj:=zkA mixed yc ⟨yC,ymf,trivial⟩
abbrev yAp:List Par:= [.rd tN]
abbrev yAF:List OT:= [⟨false,tB,.fz⟩]
def yFo (a0:dN):Option (zaY yAF×zak yAp) :=let r1:=ya a0.1 0 60000;bif r1 then let r2:=ya a0.2.1 0 7;bif r2 then let r3:=ya (a0.2.2.length:Int) 2 4;bif r3 then let r4:=yac a0.2.2;some ((r4,()),()) else some ((false,()),()) else some ((false,()),()) else some ((false,()),())
theorem yUk:ConOk prog 162 ⟨yAp,yAF,fun x=>yFo x.1⟩:=zkI (yQi) func162 ntmps162.symm fun x=>by kernel_rfl
def ybo (a0:dN):Bool :=let r1:=ya a0.1 0 60000;bif r1 then let r2:=ya a0.2.1 0 7;bif r2 then let r3:=ya (a0.2.2.length:Int) 2 4;bif r3 then let r4:=yac a0.2.2;r4 else false else false else false
def yEI:Con:=⟨yAp,yAF,fun x=>(fun n=>some ((n,()),())) (ybo x.1)⟩
theorem yWF (a0:dN):yFo a0=(fun n=>some ((n,()),())) (ybo a0):=zkV (p:=fun(n:Bool)=>((n,()),())) (zkG (p:=fun(n:Bool)=>((n,()),())) (zkG (p:=fun(n:Bool)=>((n,()),())) (zkG (p:=fun(n:Bool)=>((n,()),())) rfl rfl) rfl) rfl)
theorem yWV:ConOk prog 162 yEI:=(yUk).mono (fun x r _ h=>(yWF x.1).trans h)
abbrev y1v:dN:=(0,0,[])
def ykN (r:dN):List Int:=bif ybo r then 21322::r.1::r.2.1::(r.2.2.length:Int)::r.2.2 else[]
def y0B (l:List Int):dN:=(nth l 1 0,nth l 2 0,l.drop 4)
def y07 (l:List Int):dN×Bool:=bif leb 4 (l.length:Int)&&(nth l 0 0==21322&&(nth l 3 0==(l.length:Int)-4&&ybo (y0B l)))then(y0B l,true)else(y1v,false)
theorem yVo {r:dN}:ybo r=true↔(0≤r.1∧r.1≤60000)∧(0≤r.2.1∧r.2.1≤7)∧(2≤(r.2.2.length:Int)∧(r.2.2.length:Int)≤4)∧r.2.2.all isW=true:=by
 unfold ybo;simp only[yhb,← ys7];cases ya r.1 0 60000<;>cases ya r.2.1 0 7<;>cases ya (r.2.2.length:Int) 2 4<;>simp
theorem yYq (r:dN):ymT r=ybo r:=by
 unfold ymT ybo;simp only[y9,ys6,yhb]
def yVO:Code:=(f91.body).getD .skip
def yWi:Env:=zkw TT [] []
theorem yMI:FrOk prog ⟨yWi,8,fun _=>none⟩ yVO:=zkA mixed yc trivial
abbrev yxt:List Par:= [.rd tI]
abbrev yxX:List OT:= [⟨false,tI,.fz⟩]
def yDX (a0:Int):Option (zaY yxX×zak yxt) :=bif(ltb a0 0)then some (((-1),()),()) else some (((i64.wrap (2+(a0.tmod 4))),()),())
theorem yRB:ConOk prog 91 ⟨yxt,yxX,fun x=>yDX x.1⟩:=zkI (yMI) func91 ntmps91.symm fun x=>by kernel_rfl
def yO (a0:Int):Int :=bif(ltb a0 0)then (-1) else (i64.wrap (2+(a0.tmod 4)))
def yDd:Con:=⟨yxt,yxX,fun x=>(fun n=>some ((n,()),())) (yO x.1)⟩
theorem yTW (a0:Int):yDX a0=(fun n=>some ((n,()),())) (yO a0):=zkV (p:=fun(n:Int)=>((n,()),())) (zkG (p:=fun(n:Int)=>((n,()),())) rfl rfl)
theorem yUD:ConOk prog 91 yDd:=(yRB).mono (fun x r _ h=>(yTW x.1).trans h)
theorem yXG (q:Int):ypI q=yO q:=rfl
def yVG:Code:=(f125.body).getD .skip
def yWa:Env:=zkw TT [(81,yA)] []
theorem yMv:FrOk prog ⟨yWa,26,fun _=>none⟩ yVG:=zkA mixed yc ⟨yN,trivial⟩
abbrev yxp:List Par:= [.rd tG,.rd tI,.rd tI]
abbrev yxO:List OT:= [⟨false,tB,.fz⟩]
def yDT (a0:dG) (a1 a2:Int):Option (zaY yxO×zak yxp) :=let r1:=yf a1 (-1) (i64.wrap (a0.1-1));bif r1 then let r2:=yf a2 0 a0.2;bif r2 then bif(!(a2==0))then some (((a1 !=(-1)),()),()) else some ((true,()),()) else some ((false,()),()) else some ((false,()),())
theorem yRr:ConOk prog 125 ⟨yxp,yxO,fun x=>yDT x.1 x.2.1 x.2.2.1⟩:=zkI (yMv) func125 ntmps125.symm fun x=>by kernel_rfl
def ye8 (a0:dG) (a1 a2:Int):Bool :=let r1:=yf a1 (-1) (i64.wrap (a0.1-1));bif r1 then let r2:=yf a2 0 a0.2;bif r2 then bif(!(a2==0))then (a1 !=(-1)) else true else false else false
def ysP:Con:=⟨yxp,yxO,fun x=>(fun n=>some ((n,()),())) (ye8 x.1 x.2.1 x.2.2.1)⟩
theorem yTM (a0:dG) (a1 a2:Int):yDT a0 a1 a2=(fun n=>some ((n,()),())) (ye8 a0 a1 a2):=zkV (p:=fun(n:Bool)=>((n,()),())) (zkG (p:=fun(n:Bool)=>((n,()),())) (zkG (p:=fun(n:Bool)=>((n,()),())) (zkG (p:=fun(n:Bool)=>((n,()),())) rfl rfl) rfl) rfl)
theorem yFc:ConOk prog 125 ysP:=(yRr).mono (fun x r _ h=>(yTM x.1 x.2.1 x.2.2.1).trans h)
end
end Go.Tf
