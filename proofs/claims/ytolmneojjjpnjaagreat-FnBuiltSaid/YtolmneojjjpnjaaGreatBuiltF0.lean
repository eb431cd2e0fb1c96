/- Functions of the program, and what they come to. -/
import Derived.Test.YtolmneojjjpnjaaGreatBuiltTt
namespace Go.Tf
noncomputable section
open Go.Proofs Go.Proofs.Tryz IntKind
set_option synthInstance.maxHeartbeats 400000
set_option synthInstance.maxSize 10000
set_option linter.unusedVariables false
set_option linter.unusedSimpArgs false
set_option maxRecDepth 100000
def yVu:Code:=(f14.body).getD .skip
def yVv:Env:=zkw TT [] []
theorem ySU:FrOk prog ⟨yVv,6,fun _=>none⟩ yVu:=zkA mixed ye trivial
abbrev yC9:List Par:= [.rd tYs]
abbrev yDb:List OT:= [⟨false,tB,.fz⟩]
def yFV (a0:List Int):Option (zaY yDb×zak yC9) :=some (((ltb 1048576 (a0.length:Int)),()),())
theorem yUG:ConOk prog 14 ⟨yC9,yDb,fun x=>yFV x.1⟩:=zkI (ySU) func14 ntmps14.symm fun x=>by kernel_rfl
def yxp (a0:List Int):Bool :=(ltb 1048576 (a0.length:Int))
def yEC:Con:=⟨yC9,yDb,fun x=>(fun n=>some ((n,()),())) (yxp x.1)⟩
theorem yU2 (a0:List Int):yFV a0=(fun n=>some ((n,()),())) (yxp a0):=zkV (p:=fun(n:Bool)=>((n,()),())) rfl
theorem yU3:ConOk prog 14 yEC:=(yUG).mono (fun x r _ h=>(yU2 x.1).trans h)
def yau {α:Type} (p:α→Bool) (l:List α):Int:=bif l.any p then((l.takeWhile (fun x=> !p x)).length:Int)else -1
theorem yRK {α:Type} (p:α→Bool):yau p []= -1:=rfl
theorem yxn {α:Type} (p:α→Bool) (x:α) (l:List α):yau p (x::l)=bif p x then 0 else bif leb 0 (yau p l)then yau p l+1 else -1:=by
 unfold yau;rw[List.any_cons,List.takeWhile_cons];cases p x
 ·cases l.any p
  ·rfl
  ·simp only[Bool.false_or,Bool.not_false,if_true,cond_true,cond_false,List.length_cons]
   rw[zk2 (show(0:Int)≤((l.takeWhile (fun x=> !p x)).length:Int)by omega),cond_true]; omega
 ·simp
theorem yk9 {α:Type} {p:α→Bool} {d:α}: ∀{l:List α},leb 0 (yau p l)=true→inb (yau p l) l.length=true∧p (nth l (yau p l) d)=true
 | [],h=>by rw[yRK]at h; cases h
 | x::l,h=>by
  rw[yxn]at h ⊢;cases hx:p x
  ·rw[hx]at h
   cases hl:leb 0 (yau p l)
   ·rw[hl]at h; cases h
   ·obtain⟨h1,h2⟩:=yk9 (d:=d) hl
    have h3:=zj6.1 h1;have h4:=zj7.1 hl;simp only[cond_false,cond_true,List.length_cons];refine⟨zj6.2 (by omega),?_⟩;unfold nth at h2 ⊢;rw[show(yau p l+1).toNat=(yau p l).toNat+1 by omega,List.getD_cons_succ];exact h2
  ·simp only[cond_true,List.length_cons]
   refine⟨zj6.2 (by omega),?_⟩;exact hx
theorem yFg {A B α:Type} {step:A→Option (A ⊕ B)} (l:List α) (d:α) (f:Nat→A) (p:α→Bool) (b:Int→B) (c:B)
  (h: ∀i,i<l.length→step (f i)=some (bif p (l.getD i d)then .inr (b i)else .inl (f (i+1)))) (e:step (f l.length)=some (.inr c)) (fuel:Nat) (hf:l.length<fuel) :
  zF step fuel (f 0)=some (bif leb 0 (yau p l)then b (yau p l)else c):=by
 have: ∀(t q:List α) (fuel:Nat),q++t=l→t.length<fuel→zF step fuel (f q.length)=some (bif leb 0 (yau p t)then b (q.length+yau p t)else c):=by
  intro t
  induction t with
  | nil =>
   intro q fuel hq hf;obtain⟨fuel,rfl⟩: ∃m,fuel=m+1:=⟨fuel-1,by omega⟩;rw[List.append_nil]at hq;subst hq;simp only[zF,e]; rfl
  | cons x t ih =>
   intro q fuel hq hf;obtain⟨fuel,rfl⟩: ∃m,fuel=m+1:=⟨fuel-1,by omega⟩
   have hx:l.getD q.length d=x:=by
    subst hq;rw[zkJ (by simp)]; simp
   have hs:=h q.length (by rw[← hq]; simp);rw[hx]at hs;rw[yxn];cases hp:p x
   ·rw[hp]at hs
    have:=ih (q++ [x]) fuel (by rw[← hq]; simp) (by simp at hf; omega);simp only[List.length_append,List.length_cons,List.length_nil]at this;simp only[zF,hs,cond_false];rw[show q.length+1=q.length+(0+1)by omega,this];cases hl:leb 0 (yau p t)
    ·rfl
    ·have:=zj7.1 hl
     rw[cond_true,cond_true,zk2 (show 0≤yau p t+1 by omega),cond_true];congr 2; omega
   ·rw[hp]at hs
    simp only[zF,hs,cond_true];rw[zk2 (Int.le_refl 0),cond_true,Int.add_zero]
 have:=this l [] fuel rfl hf;simpa using this
theorem yma {α β:Type} (f:α→β): ∀(l:List α) (s:List β),l.foldl (fun s i=>s++ [f i]) s=s++l.map f
 | [],s=>by simp
 | x::l,s=>by rw[List.foldl_cons,yma f l]; simp
theorem ysW {α:Type} (l:List α):l.foldl (fun s i=>s++ [i]) []=l:=by
 have:=yma id l [];simpa using this
theorem yWk {α:Type} (l:List α) (d:α) {i:Nat} (h:i<l.length):l.take i++ [nth l i d]=l.take (i+1):=by rw[zkS,zkJ h,List.take_append_getElem h]
def yb0 (e:dW) (s:Bool×List dW) (x:dW):Bool×List dW:=(s.1||leb e.1 x.1,(bif !s.1&&leb e.1 x.1 then s.2++ [e]else s.2)++(bif x.1 !=e.1 then[x]else[]))
def yFK (l:List dW) (e:dW):List dW:=bif(l.foldl (yb0 e) (false,[])).1 then(l.foldl (yb0 e) (false,[])).2 else(l.foldl (yb0 e) (false,[])).2++ [e]
def ytt (a:dA) (l:List dW):dA:=(a.1,a.2.1,a.2.2.1,a.2.2.2.1,a.2.2.2.2.1,a.2.2.2.2.2.1,a.2.2.2.2.2.2.1,a.2.2.2.2.2.2.2.1,l,a.2.2.2.2.2.2.2.2.2)
abbrev yf:dM:=([],[],false,[])
def isW (x:Int):Bool:=leb 0 x&&leb x 65535
def yao (s:List Int):Bool:=leb (s.length:Int) 12&&s.all isW
theorem ysY {x:Int}:isW x=true↔0≤x∧x≤65535:=by simp[isW,zj7]
theorem yBz {s:List Int}:yao s=true↔s.length≤12∧ ∀x∈s,0≤x∧x≤65535:=by
 simp only[yao,Bool.and_eq_true,zj7,List.all_eq_true,ysY];constructor
 ·rintro⟨h1,h2⟩; exact⟨by omega,h2⟩
 ·rintro⟨h1,h2⟩; exact⟨by omega,h2⟩
theorem yU8: ∀{l:List Int},l.Pairwise (· < ·)↔ ∀i,i+1<l.length→l.getD i 0<l.getD (i+1) 0
 | []=>by simp
 | [x]=>by simp
 | x::y::l=>by
  have ih:=yU8 (l:=y::l);constructor
  ·intro h i hi
   cases h with
   | cons h1 h2 =>
    cases i with
    | zero=>exact h1 y List.mem_cons_self
    | succ i=>exact ih.1 h2 i (by simpa using hi)
  ·intro h
   have h2:(y::l).Pairwise (· < ·):=ih.2 fun i hi=>h (i+1) (by simpa using hi)
   refine .cons (fun z hz=> ?_) h2;have h3:x<y:=h 0 (by simp);rcases List.mem_cons.1 hz with rfl | hz
   ·exact h3
   ·cases h2 with
    | cons h4 _=>exact Int.lt_trans h3 (h4 z hz)
def ynS (n:Nat) (l:List Int):Bool:=l.all (fun x=>inb x n)&&decide (l.Pairwise (· < ·))
def yo5 (n:Nat) (w:dW):Bool:=inb w.1 n&&yao w.2
def yD (m:dM):Bool:=m.1.all yao&&m.2.1.all (yo5 m.1.length)&&ynS m.1.length m.2.2.2&&leb 1 (m.1.length:Int)&&leb (m.1.length:Int) 20&&leb (m.2.1.length:Int) 60
def yAt (n:Nat) (l:List Int) (i:Nat):Bool:= !(inb (l.getD i 0) n)||(decide (0<i)&&leb (l.getD i 0) (l.getD (i-1) 0))
theorem yRz (n:Nat) (l:List Int):(List.range l.length).any (yAt n l)= !(ynS n l):=by
 rw[Bool.eq_iff_iff,List.any_eq_true,Bool.not_eq_true',ynS,Bool.and_eq_false_iff,decide_eq_false_iff_not,yU8,List.all_eq_false];simp only[List.mem_range,yAt,Bool.or_eq_true,Bool.not_eq_true',Bool.and_eq_true,decide_eq_true_eq,zj7];constructor
 ·rintro⟨i,hi,h | ⟨h1,h2⟩⟩
  ·exact .inl ⟨l[i],List.getElem_mem hi,by rw[zkJ hi]at h; simp[h]⟩
  ·refine .inr fun h3=> ?_
   have:=h3 (i-1) (by omega);rw[show i-1+1=i by omega]at this;omega
 ·rintro(⟨x,hx,h⟩ | h)
  ·obtain⟨i,hi,rfl⟩:=List.getElem_of_mem hx
   exact⟨i,hi,.inl (by rw[zkJ hi]; simpa using h)⟩
  ·refine Classical.byContradiction fun hc=>h fun i hi=> ?_
   refine Classical.byContradiction fun h4=>hc ⟨i+1,hi,.inr ⟨by omega,?_⟩⟩
   rw[Nat.add_sub_cancel]; omega
def yfG (n:Int) (c:List dW) (s:List Int):List Int:=c.foldl (fun s w=>bif w.1==n then w.2 else s) s
def yxv (m:dM) (n:Int):Bool:=yD m&&(!m.2.2.1&&(inb n m.1.length&& !(m.2.2.2.any (· ==n))))
def yf1 (m:dM) (n:Int):List Int×Bool:=bif yxv m n then(yfG n m.2.1 (nth m.1 n []),true)else([],false)
theorem yDs {P:List Int→Prop} {n:Int}: ∀{c:List dW} {s:List Int},P s→(∀w∈c,P w.2)→P (yfG n c s)
 | [],_,h,_=>h
 | w::c,s,h,hc=>yDs (c:=c) (zkQ (hc w List.mem_cons_self) h) (fun x hx=>hc x (List.mem_cons_of_mem _ hx))
theorem yCN {α:Type} {P:α→Prop} {l:List α} {i:Int} {d:α} (h:inb i l.length=true) (hl: ∀x∈l,P x):P (nth l i d):=by
 obtain⟨h1,h2⟩:=zj6.1 h;unfold nth;rw[zkJ (show i.toNat<l.length by omega)];exact hl _ (List.getElem_mem _)
theorem yF5 {α:Type} {p:α→Bool} {l:List α} (h:leb 0 (yau p l)=false):yau p l= -1:=by
 unfold yau at h ⊢;cases ha:l.any p
 ·rfl
 ·rw[ha,cond_true,zk2 (show(0:Int)≤((l.takeWhile (fun x=> !p x)).length:Int)by omega)]at h; cases h
theorem yRL {α:Type} {p:α→Bool}: ∀{l:List α},leb 0 (yau p l)=true→(l.take ((yau p l).toNat+1)).filter (fun x=> !p x)=l.take (yau p l).toNat
 | [],h=>by rw[yRK]at h; cases h
 | x::l,h=>by
  rw[yxn]at h ⊢;cases hx:p x
  ·rw[hx]at h
   cases hl:leb 0 (yau p l)
   ·rw[hl]at h; cases h
   ·have h4:=zj7.1 hl
    simp only[cond_false,cond_true];rw[show(yau p l+1).toNat=(yau p l).toNat+1 by omega,List.take_succ_cons,List.take_succ_cons,List.filter_cons,hx,yRL hl]; rfl
  ·simp only[cond_true]
   show List.filter (fun x=> !p x) [x]= [];rw[List.filter_cons,hx]; rfl
theorem yWG {α:Type} {p:α→Bool} {l:List α} (h:leb 0 (yau p l)=false):l.filter (fun x=> !p x)=l:=by
 rw[List.filter_eq_self];intro x hx;unfold yau at h;cases ha:l.any p
 ·have:=List.any_eq_false.1 ha x hx
  simpa using this
 ·rw[ha,cond_true,zk2 (show(0:Int)≤((l.takeWhile (fun x=> !p x)).length:Int)by omega)]at h; cases h
def yam (a:dA):dA:=(a.1,a.2.1,a.2.2.1,a.2.2.2.1,a.2.2.2.2.1,i64.wrap (a.2.2.2.2.2.1+1),a.2.2.2.2.2.2)
def yz (s:Int):Int:=bif leb 0 s&&leb s 1099511627776 then s+6 else -1
def yck (a:dA) (m s:Int):Bool:=inb m a.2.2.1.length&&(!(nth a.2.2.1 m yf).2.2.1&&(m !=a.2.2.2.1||ltb s a.2.2.2.2.1))
def ycv (a:dA) (m s:Int):List Int×Bool:=yf1 (nth a.2.2.1 m yf) (yz s)
def yw (a:dA) (m s:Int):Bool:=yck a m s&&((ycv a m s).2&&((ycv a m s).1.length:Int)==1)
def yhn (a:dA) (m s:Int):Int:=bif yw a m s then nth (ycv a m s).1 0 0 else 0
def xw (a b:Int):Int:=i64.wrap ((BitVec.ofInt IntKind.i64.bits a ^^^ BitVec.ofInt IntKind.i64.bits b).toNat:Int)
def ya0 (l:List Int):Int:=l.foldl xw 0
def yyo (a:dA) (s:Int):Bool:=(List.range a.2.2.1.length).all (fun(i:Nat)=>yw a i s)
def yeX (a:dA) (s:Int):Int×Bool:=bif yyo a s then(ya0 ((List.range a.2.2.1.length).map (fun(i:Nat)=>yhn a i s)),true)else(0,false)
def yTK (a:dA):Bool:=(List.range (min a.2.1.2.toNat 20)).all (fun(s:Nat)=> !((yeX a s).2&&(yeX a s).1 !=0))
def bv (x:Int):BitVec 64:=BitVec.ofInt 64 x
theorem yTN (a b:Int):xw a b=(bv a ^^^ bv b).toInt:=by
 show i64.wrap ((bv a ^^^ bv b).toNat:Int)=_;rw[IntKind.wrap_i64,BitVec.toInt_eq_toNat_cond];have:=(bv a ^^^ bv b).isLt;split<;>omega
theorem ysP (v:BitVec 64):bv v.toInt=v:=by unfold bv; simp
theorem yW2 {x:Int} (h: -9223372036854775808≤x) (h2:x≤9223372036854775807):(bv x).toInt=x:=by
 unfold bv;rw[BitVec.toInt_ofInt,Int.bmod_def];simp only[Nat.reducePow]at *;omega
def yea (l:List Int):BitVec 64:=l.foldl (fun v x=>v ^^^ bv x) 0#64
theorem ylJ (l:List Int):ya0 l=(yea l).toInt:=by
 have: ∀(l:List Int) (v:BitVec 64),l.foldl xw v.toInt=(l.foldl (fun v x=>v ^^^ bv x) v).toInt:=by
  intro l
  induction l with
  | nil=>intro _; rfl
  | cons x l ih =>
   intro v;rw[List.foldl_cons,List.foldl_cons,yTN,ysP,ih]
 have h:=this l 0#64;rwa[show(0#64:BitVec 64).toInt=0 from by decide]at h
theorem yWx (l:List Int) (x:Int):yea (l++ [x])=yea l ^^^ bv x:=by unfold yea; rw[List.foldl_append]; rfl
theorem yXc {i:Int} {n:Nat} (h: ¬(0≤i∧i<(n:Int))):inb i n=false:=by
 cases e:inb i n
 ·rfl
 ·exact absurd (zj6.1 e) h
def yla (l:List Int) (k:Int):Int:=bif inb k l.length then xw (ya0 l) (nth l k 0)else ya0 l
theorem yR0 (u v:BitVec 64):u ^^^ v ^^^ v=u:=by rw[BitVec.xor_assoc,BitVec.xor_self,BitVec.xor_zero]
theorem yWb (l:List Int) (k:Int):(List.range l.length).foldl (fun n (i:Nat)=>bif(i:Int) !=k then xw n (nth l i 0)else n) 0=yla l k:=by
 have: ∀n,n≤l.length→(List.range n).foldl (fun n (i:Nat)=>bif(i:Int) !=k then xw n (nth l i 0)else n) 0=(bif inb k n then yea (l.take n) ^^^ bv (nth l k 0)else yea (l.take n)).toInt:=by
  intro n
  induction n with
  | zero =>
   intro _;rw[yXc (show ¬(0≤k∧k<((0:Nat):Int))by omega)];rfl
  | succ n ih =>
   intro hn;rw[List.range_succ,List.foldl_append,List.foldl_cons,List.foldl_nil,ih (by omega),← yWk l 0 (show n<l.length by omega),yWx];by_cases hk:(n:Int)=k
   ·subst hk
    rw[show((n:Int) !=n)=false by simp,cond_false,yXc (show ¬(0≤(n:Int)∧(n:Int)<(n:Int))by omega),show inb (n:Int) (n+1)=true from zkR (Nat.lt_succ_self n),cond_false,cond_true,yR0]
   ·rw[show((n:Int) !=k)=true from bne_iff_ne.2 hk,cond_true,show inb k (n+1)=inb k n by rw[Bool.eq_iff_iff,zj6,zj6]; omega,yTN,ysP]
    cases inb k n
    ·rfl
    ·rw[cond_true,cond_true,BitVec.xor_assoc,BitVec.xor_comm (bv (nth l k 0)),← BitVec.xor_assoc]
 rw[this l.length (Nat.le_refl _),List.take_length];unfold yla;rw[yTN,ylJ,ysP];cases inb k l.length<;>rfl
theorem yWa {l:List Int} {k:Int} (h:inb k l.length=true) (h0:nth l k 0=0):yla l k=ya0 l:=by
 unfold yla;rw[h,h0,cond_true,yTN,ylJ,ysP,show bv 0=0#64 by decide,BitVec.xor_zero]
abbrev ydf:dA:=(0,(0,0),[],0,0,0,0,0,[],0,false,false)
def yfw (b:Nat→Bool) (c:List dW) (l:List (List Int)) (i:Nat):List (List Int):=bif b i then l.set (nth c i (0,[])).1.toNat (nth c i (0,[])).2 else l
def yh5 (b:Nat→Bool) (c:List dW) (l:List (List Int)):List (List Int):=(List.range c.length).foldl (yfw b c) l
theorem yeY {m:dM} (h:yD m=true):m.1.all yao=true∧m.2.1.all (yo5 m.1.length)=true∧ynS m.1.length m.2.2.2=true∧1≤m.1.length∧m.1.length≤20∧m.2.1.length≤60:=by
 simp only[yD,Bool.and_eq_true,zj7]at h;exact⟨h.1.1.1.1.1,h.1.1.1.1.2,h.1.1.1.2,by omega,by omega,by omega⟩
theorem yUy {m:dM} (h:yD m=true) {i:Nat} (hi:i<m.2.1.length):inb (nth m.2.1 i (0,[])).1 m.1.length=true∧yao (nth m.2.1 i (0,[])).2=true:=by
 have h1:=List.all_eq_true.1 (yeY h).2.1 m.2.1[i] (List.getElem_mem hi);rw[zkS,zkJ hi];exact Bool.and_eq_true_iff.1 h1
theorem yxo {b:Nat→Bool} {c:List dW} {l:List (List Int)} {i:Nat}:(yfw b c l i).length=l.length:=by
 unfold yfw; cases b i
 ·rfl
 ·exact List.length_set
theorem yMe {α β:Type} (P:β→Prop) (f:β→α→β) (h: ∀s x,P s→P (f s x)): ∀(l:List α) (s:β),P s→P (l.foldl f s)
 | [],_,hs=>hs
 | x::l,s,hs=>yMe P f h l (f s x) (h s x hs)
theorem ytG {b:Nat→Bool} {c:List dW} {l:List (List Int)}:(yh5 b c l).length=l.length :=
 yMe (fun x=>x.length=l.length) _ (fun s x hs=>by rw[yxo]; exact hs) _ l rfl
theorem yU1 {P:List Int→Prop} {b:Nat→Bool} {c:List dW} {l:List (List Int)} (hl: ∀x∈l,P x) (hc: ∀w∈c,P w.2): ∀x∈yh5 b c l,P x:=by
 have: ∀(n:Nat),n≤c.length→ ∀x∈(List.range n).foldl (yfw b c) l,P x:=by
  intro n
  induction n with
  | zero=>intro _; exact hl
  | succ n ih =>
   intro hn x hx;rw[List.range_succ,List.foldl_append,List.foldl_cons,List.foldl_nil,yfw]at hx;cases hb:b n
   ·rw[hb]at hx; exact ih (by omega) x hx
   ·rw[hb,cond_true]at hx
    rcases List.mem_or_eq_of_mem_set hx with h | h
    ·exact ih (by omega) x h
    ·rw[h,zkS,zkJ (show n<c.length by omega)]
     exact hc _ (List.getElem_mem _)
 exact this _ (Nat.le_refl _)
def yaS (m:dM) (n:Int) (s:List Int):Bool:=yD m&&(!m.2.2.1&&(inb n m.1.length&&(yao s&&ltb (m.2.1.length:Int) 60)))
def yDx (l:List Int) (n:Int):List Int:=l.filter (· !=n)
def yQ (m:dM) (n:Int) (s:List Int):dM×Bool:=bif yaS m n s then((m.1,m.2.1++ [(n,s)],m.2.2.1,yDx m.2.2.2 n),true)else(m,false)
def yx (m:dM):dM:=bif yD m&& !m.2.2.1 then(yh5 (fun _=>true) m.2.1 m.1,[],m.2.2.1,m.2.2.2)else m
def ydr (m:dM):dM:=(m.1,[],true,m.2.2.2)
def ySc:Code:=(f81.body).getD .skip
def ySF:Env:=zkw TT [] []
theorem yI1:FrOk prog ⟨ySF,15,fun _=>none⟩ ySc:=zkA mixed ye trivial
abbrev yu4:List Par:= [.rd tI,.rd tI,.rd tI]
abbrev yvq:List OT:= [⟨false,tB,.fz⟩]
def yBq (a0 a1 a2:Int):Option (zaY yvq×zak yu4) :=bif(leb a1 a0)then some (((leb a0 a2),()),()) else some ((false,()),())
theorem yNR:ConOk prog 81 ⟨yu4,yvq,fun x=>yBq x.1 x.2.1 x.2.2.1⟩:=zkI (yI1) func81 ntmps81.symm fun x=>by kernel_rfl
def yg (a0 a1 a2:Int):Bool :=bif(leb a1 a0)then (leb a0 a2) else false
def yO:Con:=⟨yu4,yvq,fun x=>(fun n=>some ((n,()),())) (yg x.1 x.2.1 x.2.2.1)⟩
theorem yQd (a0 a1 a2:Int):yBq a0 a1 a2=(fun n=>some ((n,()),())) (yg a0 a1 a2):=zkV (p:=fun(n:Bool)=>((n,()),())) (zkG (p:=fun(n:Bool)=>((n,()),())) rfl rfl)
theorem yX:ConOk prog 81 yO:=(yNR).mono (fun x r _ h=>(yQd x.1 x.2.1 x.2.2.1).trans h)
def yUS:Code:=(f82.body).getD .skip
def yUU:Env:=zkw TT [] []
theorem yPS:FrOk prog ⟨yUU,15,fun _=>none⟩ yUS:=zkA mixed ye trivial
abbrev yBH:List Par:= [.rd tI,.rd tI,.rd tI]
abbrev yBM:List OT:= [⟨false,tB,.fz⟩]
def yDP (a0 a1 a2:Int):Option (zaY yBM×zak yBH) :=bif(leb a1 a0)then some (((leb a0 a2),()),()) else some ((false,()),())
theorem yTm:ConOk prog 82 ⟨yBH,yBM,fun x=>yDP x.1 x.2.1 x.2.2.1⟩:=zkI (yPS) func82 ntmps82.symm fun x=>by kernel_rfl
def yb (a0 a1 a2:Int):Bool :=bif(leb a1 a0)then (leb a0 a2) else false
def yK:Con:=⟨yBH,yBM,fun x=>(fun n=>some ((n,()),())) (yb x.1 x.2.1 x.2.2.1)⟩
theorem yUD (a0 a1 a2:Int):yDP a0 a1 a2=(fun n=>some ((n,()),())) (yb a0 a1 a2):=zkV (p:=fun(n:Bool)=>((n,()),())) (zkG (p:=fun(n:Bool)=>((n,()),())) rfl rfl)
theorem yU:ConOk prog 82 yK:=(yTm).mono (fun x r _ h=>(yUD x.1 x.2.1 x.2.2.1).trans h)
theorem yqQ {a b c:Int}:yb a b c=true↔b≤a∧a≤c:=by
 unfold yb;cases h:leb b a
 ·have:=mt zk2 (by rw[h]; simp: ¬leb b a=true)
  simp[this]
 ·simp[zj7,zj7.1 h]
theorem yYc {a b c:Int} (h:b≤a) (h2:a≤c):yb a b c=true:=yqQ.2 ⟨h,h2⟩
theorem yan (a b c:Int):yg a b c=yb a b c:=by kernel_rfl
theorem ycN (x a b:Int):yb x a b=(leb a x&&leb x b):=by
 unfold yb; cases leb a x<;>rfl
theorem yje {x:Int} {n:Nat} (h:n≤1152921504606846976):yb x 0 (i64.wrap ((n:Int)-1))=inb x n:=by
 rw[wr (by omega) (by omega),Bool.eq_iff_iff,yqQ,zj6]; omega
def yTP:Code:=(f123.body).getD .skip
def yT2:Env:=zkw TT [(81,yO)] []
theorem yMi:FrOk prog ⟨yT2,11,fun _=>none⟩ yTP:=zkA mixed ye ⟨yX,trivial⟩
abbrev yxT:List Par:= [.rd tG]
abbrev yx2:List OT:= [⟨false,tB,.fz⟩]
def yC0 (a0:dG):Option (zaY yx2×zak yxT) :=let r1:=yg a0.1 3 5;bif r1 then let r2:=yg a0.2 1 8;some ((r2,()),()) else some ((false,()),())
theorem yQB:ConOk prog 123 ⟨yxT,yx2,fun x=>yC0 x.1⟩:=zkI (yMi) func123 ntmps123.symm fun x=>by kernel_rfl
def ybY (a0:dG):Bool :=let r1:=yg a0.1 3 5;bif r1 then let r2:=yg a0.2 1 8;r2 else false
def yh1:Con:=⟨yxT,yx2,fun x=>(fun n=>some ((n,()),())) (ybY x.1)⟩
theorem ySZ (a0:dG):yC0 a0=(fun n=>some ((n,()),())) (ybY a0):=zkV (p:=fun(n:Bool)=>((n,()),())) (zkG (p:=fun(n:Bool)=>((n,()),())) rfl rfl)
theorem ynX:ConOk prog 123 yh1:=(yQB).mono (fun x r _ h=>(ySZ x.1).trans h)
def ySb:Code:=(f125.body).getD .skip
def ySE:Env:=zkw TT [(81,yO)] []
theorem yI0:FrOk prog ⟨ySE,26,fun _=>none⟩ ySb:=zkA mixed ye ⟨yX,trivial⟩
abbrev yu3:List Par:= [.rd tG,.rd tI,.rd tI]
abbrev yvp:List OT:= [⟨false,tB,.fz⟩]
def yBp (a0:dG) (a1 a2:Int):Option (zaY yvp×zak yu3) :=let r1:=yg a1 (-1) (i64.wrap (a0.1-1));bif r1 then let r2:=yg a2 0 a0.2;bif r2 then bif(!(a2==0))then some (((a1 !=(-1)),()),()) else some ((true,()),()) else some ((false,()),()) else some ((false,()),())
theorem yNQ:ConOk prog 125 ⟨yu3,yvp,fun x=>yBp x.1 x.2.1 x.2.2.1⟩:=zkI (yI0) func125 ntmps125.symm fun x=>by kernel_rfl
def yep (a0:dG) (a1 a2:Int):Bool :=let r1:=yg a1 (-1) (i64.wrap (a0.1-1));bif r1 then let r2:=yg a2 0 a0.2;bif r2 then bif(!(a2==0))then (a1 !=(-1)) else true else false else false
def yqD:Con:=⟨yu3,yvp,fun x=>(fun n=>some ((n,()),())) (yep x.1 x.2.1 x.2.2.1)⟩
theorem yQc (a0:dG) (a1 a2:Int):yBp a0 a1 a2=(fun n=>some ((n,()),())) (yep a0 a1 a2):=zkV (p:=fun(n:Bool)=>((n,()),())) (zkG (p:=fun(n:Bool)=>((n,()),())) (zkG (p:=fun(n:Bool)=>((n,()),())) (zkG (p:=fun(n:Bool)=>((n,()),())) rfl rfl) rfl) rfl)
theorem yCR:ConOk prog 125 yqD:=(yNQ).mono (fun x r _ h=>(yQc x.1 x.2.1 x.2.2.1).trans h)
def yIm:Code:=(f109.body).getD .skip
def yIA:Env:=zkw TT [(81,yO),(123,yh1)] []
theorem yDY:FrOk prog ⟨yIA,14,fun _=>none⟩ yIm:=zkA mixed ye ⟨yX,ynX,trivial⟩
abbrev yod:List Par:= [.rd tG,.rd tI]
abbrev yog:List OT:= [⟨false,tB,.fz⟩]
def yuB (a0:dG) (a1:Int):Option (zaY yog×zak yod) :=let r1:=ybY a0;bif r1 then let r2:=yg a1 0 (i64.wrap (a0.2-1));some ((r2,()),()) else some ((false,()),())
theorem yFF:ConOk prog 109 ⟨yod,yog,fun x=>yuB x.1 x.2.1⟩:=zkI (yDY) func109 ntmps109.symm fun x=>by kernel_rfl
def yaK (a0:dG) (a1:Int):Bool :=let r1:=ybY a0;bif r1 then let r2:=yg a1 0 (i64.wrap (a0.2-1));r2 else false
def yd3:Con:=⟨yod,yog,fun x=>(fun n=>some ((n,()),())) (yaK x.1 x.2.1)⟩
theorem yHr (a0:dG) (a1:Int):yuB a0 a1=(fun n=>some ((n,()),())) (yaK a0 a1):=zkV (p:=fun(n:Bool)=>((n,()),())) (zkG (p:=fun(n:Bool)=>((n,()),())) rfl rfl)
theorem yhD:ConOk prog 109 yd3:=(yFF).mono (fun x r _ h=>(yHr x.1 x.2.1).trans h)
def ySa:Code:=(f135.body).getD .skip
def ySD:Env:=zkw TT [(81,yO)] []
theorem yIZ:FrOk prog ⟨ySD,5,fun _=>none⟩ ySa:=zkA mixed ye ⟨yX,trivial⟩
abbrev yu2:List Par:= [.rd tI]
abbrev yvo:List OT:= [⟨false,tB,.fz⟩]
def yBo (a0:Int):Option (zaY yvo×zak yu2) :=let r1:=yg a0 0 65535;some ((r1,()),())
theorem yNP:ConOk prog 135 ⟨yu2,yvo,fun x=>yBo x.1⟩:=zkI (yIZ) func135 ntmps135.symm fun x=>by kernel_rfl
def yaz (a0:Int):Bool :=let r1:=yg a0 0 65535;r1
def yAO:Con:=⟨yu2,yvo,fun x=>(fun n=>some ((n,()),())) (yaz x.1)⟩
theorem yQb (a0:Int):yBo a0=(fun n=>some ((n,()),())) (yaz a0):=zkV (p:=fun(n:Bool)=>((n,()),())) rfl
theorem yQ3:ConOk prog 135 yAO:=(yNP).mono (fun x r _ h=>(yQb x.1).trans h)
def ylN:Code:=(f187.body).getD .skip
def ysb:Env:=zkw TT [(135,yAO)] []
theorem yGP:FrOk prog ⟨ysb,15,fun _=>none⟩ ylN:=zkA mixed ye ⟨yQ3,trivial⟩
def yxC:Nat→Option Seg:=fun _=>none
def ycR:Shape:=⟨[(5,false,[.br tI]),(6,false,[.int .i64]),(7,false,[.int .i64])],[],[]⟩
def yhq:Shape:=⟨[(5,false,[.br tI]),(6,false,[.int .i64]),(7,false,[.ci .i64 0])],[],[]⟩
def yho:Shape:=⟨[],[],[]⟩
def yhx:Shape:=⟨[(2,false,[.bool])],[],[]⟩
def ylC (v0:List Int) (v1 v2:Int):Option ((ycR).X ⊕ ((yho).X ⊕ (yhx).X)) :=bif(ltb v2 v1)then bif(inb v2 v0.length)then let r2:=yaz (nth v0 v2 0);bif(!r2)then some (.inr (.inr (((false,()),()),(),()))) else some (.inl (((v0,()),(v1,()),((i64.wrap (v2+1)),()),()),(),())) else none else some (.inr (.inl ((),(),())))
def ybR (x:(ycR).X):=ylC x.1.1.1 x.1.2.1.1 x.1.2.2.1.1
def yt8 (x:(yhq).X):(ycR).X:=(((x.1.1.1,()),(x.1.2.1.1,()),(0,()),()),(),())
def ywg:Code:=(zd7 ylN 64 52).getD .skip
theorem yGt:zd7 ylN 64 13=some (.block 0 (.loop ywg)):=by kernel_rfl
theorem yH1 (x:(ycR).X):zhu ⟨ysb,15,yxC⟩ 0 ywg 52 ycR yho yhx x=ybR x:=by kernel_rfl
def yul (x:(yhq).X):Nat:=18446744073709551616
def ymz (x:(yhq).X):Option ((yho).X ⊕ (yhx).X):=zF ybR (yul x) (yt8 x)
def yuI:Seg:=⟨yhq,yho,yhx,ymz⟩
def yIr:Nat→Option Seg:=fun q=>bif Nat.beq q 13 then some yuI else yxC q
theorem yGQ:FrOk prog ⟨ysb,15,yIr⟩ ylN:=(yGP).loop (sg:=yuI) ycR yt8 (by decide) yGt ybR yul (by decide) (fun _=>rfl) (fun x r _ h=>h) yH1
abbrev ylX:List Par:= [.rd tL]
abbrev ysF:List OT:= [⟨false,tB,.fz⟩]
def yoH (a0:List Int):Option (zaY ysF×zak ylX) :=zkt (ymz (((a0,()),((a0.length:Int),()),((),()),()),(),())) (fun y2 =>some ((true,()),())) (fun y2 =>some ((y2.1.1.1,()),()))
theorem yKF:ConOk prog 187 ⟨ylX,ysF,fun x=>yoH x.1⟩:=zkI (yGQ) func187 ntmps187.symm fun x=>by kernel_rfl
def yaP (a0:List Int):Bool:=a0.all yaz
theorem yNr (a0:List Int) (hk:zjx ylX (a0,())):yoH a0=(fun n=>some ((n,()),())) (yaP a0):=by
 have hb:a0.length*8≤2^47:=hk.1.1
 have hl:ymz (((a0,()),((a0.length:Int),()),((),()),()),(),())=some (bif a0.all yaz then .inl ((),(),())else .inr (((false,()),()),(),())) :=
  zj9 (step:=ybR) a0 0 (fun i=>(((a0,()),((a0.length:Int),()),((i:Int),()),()),(),())) yaz _ _ (fun i hi=>by
   simp only[ybR,ylC,zkR hi,zkS,zky (show(i:Int)<a0.length by omega),cond_true,wq ((i:Int)+1) (by omega) (by omega),Int.natCast_add,Int.natCast_one]
   cases yaz (a0.getD i 0)<;>rfl) (by simp only[ybR,ylC,zk3 (Int.le_refl _),cond_false]) _ (by show _<18446744073709551616; omega)
 unfold yoH yaP;rw[hl];cases a0.all yaz<;>rfl
def yoj:Con:=⟨ylX,ysF,fun x=>(fun n=>some ((n,()),())) (yaP x.1)⟩
theorem yBh:ConOk prog 187 yoj:=(yKF).mono (fun x r hk h=>(yNr x.1 hk).trans h)
def yR7:Code:=(f129.body).getD .skip
def ySA:Env:=zkw TT [(187,yoj)] []
theorem yIW:FrOk prog ⟨ySA,15,fun _=>none⟩ yR7:=zkA mixed ye ⟨yBh,trivial⟩
abbrev yuZ:List Par:= [.rd tG,.rd tL]
abbrev yvl:List OT:= [⟨false,tB,.fz⟩]
def yBl (a0:dG) (a1:List Int):Option (zaY yvl×zak yuZ) :=bif((a1.length:Int)==(i64.wrap (a0.1-1)))then let r1:=yaP a1;some ((r1,()),()) else some ((false,()),())
theorem yNM:ConOk prog 129 ⟨yuZ,yvl,fun x=>yBl x.1 x.2.1⟩:=zkI (yIW) func129 ntmps129.symm fun x=>by kernel_rfl
def yjn (a0:dG) (a1:List Int):Bool :=bif((a1.length:Int)==(i64.wrap (a0.1-1)))then let r1:=yaP a1;r1 else false
def yAN:Con:=⟨yuZ,yvl,fun x=>(fun n=>some ((n,()),())) (yjn x.1 x.2.1)⟩
theorem yP8 (a0:dG) (a1:List Int):yBl a0 a1=(fun n=>some ((n,()),())) (yjn a0 a1):=zkV (p:=fun(n:Bool)=>((n,()),())) (zkG (p:=fun(n:Bool)=>((n,()),())) rfl rfl)
theorem yQ2:ConOk prog 129 yAN:=(yNM).mono (fun x r _ h=>(yP8 x.1 x.2.1).trans h)
def yTU:Code:=(f150.body).getD .skip
def yT7:Env:=zkw TT [(82,yK)] []
theorem yMx:FrOk prog ⟨yT7,11,fun _=>none⟩ yTU:=zkA mixed ye ⟨yU,trivial⟩
abbrev yxV:List Par:= [.rd tG]
abbrev yyb:List OT:= [⟨false,tB,.fz⟩]
def yC3 (a0:dG):Option (zaY yyb×zak yxV) :=let r1:=yb a0.1 3 5;bif r1 then let r2:=yb a0.2 1 8;some ((r2,()),()) else some ((false,()),())
theorem yQK:ConOk prog 150 ⟨yxV,yyb,fun x=>yC3 x.1⟩:=zkI (yMx) func150 ntmps150.symm fun x=>by kernel_rfl
def yd (a0:dG):Bool :=let r1:=yb a0.1 3 5;bif r1 then let r2:=yb a0.2 1 8;r2 else false
def yeZ:Con:=⟨yxV,yyb,fun x=>(fun n=>some ((n,()),())) (yd x.1)⟩
theorem yS8 (a0:dG):yC3 a0=(fun n=>some ((n,()),())) (yd a0):=zkV (p:=fun(n:Bool)=>((n,()),())) (zkG (p:=fun(n:Bool)=>((n,()),())) rfl rfl)
theorem yju:ConOk prog 150 yeZ:=(yQK).mono (fun x r _ h=>(yS8 x.1).trans h)
theorem yl {a:Int×Int}:yd a=true↔(3≤a.1∧a.1≤5)∧1≤a.2∧a.2≤8:=by
 unfold yd;cases h:yb a.1 3 5
 ·have: ¬(3≤a.1∧a.1≤5):=fun e=>by rw[yqQ.2 e]at h; simp at h
  simp[this]
 ·simp only[cond_true,yqQ]
  exact⟨fun e=>⟨yqQ.1 h,e⟩,fun e=>e.2⟩
def yfx (a:dA) (i:Nat):Bool:= !(yD (nth a.2.2.1 i yf))||((((nth a.2.2.1 i yf).1.length:Int) !=6+a.2.1.2)||((nth a.2.2.1 i yf).2.2.1&&(((i:Int) !=a.2.2.2.1)&& !a.2.2.2.2.2.2.2.2.2.2.2)))
def yjf (a:dA):Bool:= !((List.range a.2.2.1.length).any (yfx a))&&(a.2.2.1.length:Int)==a.2.1.1
def yfW (g:dG) (l:List dW) (i:Nat):Bool:= !(leb 0 (nth l i (0,[])).1&&leb (nth l i (0,[])).1 (g.2-1))||(((nth l i (0,[])).2.length:Int) !=g.1-1||(!((nth l i (0,[])).2.all isW)||(decide (0<i)&&leb (nth l i (0,[])).1 (nth l ((i-1:Nat):Int) (0,[])).1)))
def yaH (g:dG) (l:List dW):Bool:= !((List.range l.length).any (yfW g l))
def yR (a:dA):Bool :=yd a.2.1&&((leb 1 a.1&&leb a.1 60000)&&(yjf a&&(yaH a.2.1 a.2.2.2.2.2.2.2.2.1&&((leb (-1) a.2.2.2.1&&leb a.2.2.2.1 (a.2.1.1-1))&&((leb 0 a.2.2.2.2.1&&leb a.2.2.2.2.1 a.2.1.2)&&(!(a.2.2.2.1== -1&&a.2.2.2.2.1 !=0) && ((leb 0 a.2.2.2.2.2.2.1&&leb a.2.2.2.2.2.2.1 60000)&&((leb a.2.2.2.2.2.2.1 a.2.2.2.2.2.1&&leb a.2.2.2.2.2.1 60000)&&(leb a.2.2.2.2.2.1 (a.2.2.2.2.2.2.1+4)&&((leb 0 a.2.2.2.2.2.2.2.1&&leb a.2.2.2.2.2.2.2.1 60000)&&(leb (-1) a.2.2.2.2.2.2.2.2.2.1&&leb a.2.2.2.2.2.2.2.2.2.1 1000)))))))))))
theorem yd1 {a:dA} (h:yR a=true):yd a.2.1=true:=(Bool.and_eq_true_iff.1 h).1
theorem yVw {a:dA} (h:yR a=true):yjf a=true:=by simp only[yR,Bool.and_eq_true]at h; exact h.2.2.1
theorem yEA {a:dA} (h:yR a=true):(a.2.2.1.length:Int)=a.2.1.1:=by have:=yVw h; simp only[yjf,Bool.and_eq_true,beq_iff_eq]at this; exact this.2
theorem yV9 {a:dA} (h:yjf a=true) {i:Nat} (hi:i<a.2.2.1.length):yD (nth a.2.2.1 i yf)=true∧((nth a.2.2.1 i yf).1.length:Int)=6+a.2.1.2∧((nth a.2.2.1 i yf).2.2.1=true→(i:Int)=a.2.2.2.1∨a.2.2.2.2.2.2.2.2.2.2.2=true):=by
 simp only[yjf,Bool.and_eq_true,Bool.not_eq_true',List.any_eq_false,List.mem_range]at h;have:=h.1 i hi;simp only[yfx,Bool.not_eq_true,Bool.or_eq_false_iff,Bool.not_eq_false',bne_eq_false_iff_eq,Bool.and_eq_false_iff]at this;refine⟨this.1,this.2.1,fun hf=> ?_⟩;rcases this.2.2 with h1 | h1 | h1
 ·rw[hf]at h1; cases h1
 ·exact .inl h1
 ·exact .inr h1
theorem yMX (a:Int×Int):ybY a=yd a:=by kernel_rfl
theorem yU9: ∀{l:List Int} {lo n:Int},l.Pairwise (· < ·)→(∀x∈l,lo≤x∧x<n)→lo≤n→(l.length:Int)≤n-lo
 | [],lo,n,_,_,h=>by simp; omega
 | x::l,lo,n,hp,hx,h=>by
  cases hp with
  | cons h1 h2 =>
   have h3:=hx x List.mem_cons_self;have:=yU9 (l:=l) (lo:=x+1) (n:=n) h2 (fun y hy=>⟨h1 y hy,(hx y (List.mem_cons_of_mem _ hy)).2⟩) (by omega);rw[List.length_cons]; omega
theorem yEB {n:Nat} {l:List Int}:ynS n l=true↔(∀x∈l,0≤x∧x<n)∧l.Pairwise (· < ·):=by
 simp only[ynS,Bool.and_eq_true,List.all_eq_true,zj6,decide_eq_true_eq]
theorem yzs {m:dM} (h1:m.1.all yao=true) (h2:m.2.1.all (yo5 m.1.length)=true) (h3:ynS m.1.length m.2.2.2=true) (h4:1≤m.1.length) (h5:m.1.length≤20) (h6:m.2.1.length≤60):yD m=true:=by
 simp only[yD,h1,h2,h3,Bool.true_and,Bool.and_eq_true,zj7];omega
theorem yVG {m:dM} (b:Nat→Bool) (h:yD m=true):(yh5 b m.2.1 m.1).all yao=true:=by
 obtain⟨h1,h2,_⟩:=yeY h;rw[List.all_eq_true];exact yU1 (P:=fun x=>yao x=true) (fun x hx=>List.all_eq_true.1 h1 x hx) (fun w hw=>(Bool.and_eq_true_iff.1 (List.all_eq_true.1 h2 w hw)).2)
theorem yUR {m:dM} (n:Int) (s:List Int) (h:yD m=true):yD (yQ m n s).1=true:=by
 unfold yQ;cases hc:yaS m n s
 ·exact h
 ·simp only[yaS,Bool.and_eq_true,Bool.not_eq_true',zka]at hc
  obtain⟨h1,h2,h3,h4,h5,h6⟩:=yeY h;refine yzs h1 ?_ ?_ h4 h5 (by show(m.2.1++ [(n,s)]).length≤60; rw[List.length_append]; simp only[List.length_cons,List.length_nil]; omega)
  ·show(m.2.1++ [(n,s)]).all (yo5 m.1.length)=true
   rw[List.all_append,h2];simp[yo5,hc.2.2.1,hc.2.2.2.1]
  ·show ynS m.1.length (yDx m.2.2.2 n)=true
   obtain⟨b1,b2⟩:=yEB.1 h3;exact yEB.2 ⟨fun x hx=>b1 x (List.mem_filter.1 hx).1,b2.filter _⟩
theorem yuO (m:dM) (n:Int) (s:List Int):(yQ m n s).1.1=m.1∧(yQ m n s).1.2.2.1=m.2.2.1:=by
 unfold yQ;cases yaS m n s<;>exact⟨rfl,rfl⟩
theorem yWE {m:dM} (h:yD m=true):yD (yx m)=true:=by
 unfold yx;cases hc:(yD m&& !m.2.2.1)
 ·exact h
 ·obtain⟨h1,h2,h3,h4,h5,h6⟩:=yeY h
  refine yzs (yVG _ h) rfl ?_ ?_ ?_ (Nat.zero_le _)
  ·show ynS (yh5 _ m.2.1 m.1).length m.2.2.2=true; rw[ytG]; exact h3
  ·show 1≤(yh5 _ m.2.1 m.1).length; rw[ytG]; exact h4
  ·show(yh5 _ m.2.1 m.1).length≤20; rw[ytG]; exact h5
theorem yo9 (m:dM):(yx m).1.length=m.1.length∧(yx m).2.2.1=m.2.2.1:=by
 unfold yx;cases(yD m&& !m.2.2.1)
 ·exact⟨rfl,rfl⟩
 ·exact⟨ytG,rfl⟩
theorem yVf {m:dM} (h:yD m=true):yD (ydr m)=true:=by
 obtain⟨h1,h2,h3,h4,h5,h6⟩:=yeY h;exact yzs h1 rfl h3 h4 h5 (Nat.zero_le _)
def ycw (p:Nat→Bool) (n:Nat):Nat:=((List.range n).filter (fun i=> !p i)).length
theorem yWK (p:Nat→Bool) (n:Nat):ycw p n≤n:=by
 have:=List.length_filter_le (fun i=> !p i) (List.range n);rwa[List.length_range]at this
theorem yiN (p:Nat→Bool) (n:Nat):ycw p (n+1)=bif p n then ycw p n else ycw p n+1:=by
 unfold ycw;rw[List.range_succ,List.filter_append,List.length_append,List.filter_cons];cases p n<;>simp
def yUf (a:dA):Int:=bif yR a then(ycw (fun(s:Nat)=>(yeX a s).2) a.2.1.2.toNat:Nat)else 0
def yXF (l:List Int) (n:Int):List Int:=l.filter (fun x=>ltb x n)++n::l.filter (fun x=>ltb n x)
def spoil (m:dM) (n:Int):dM:=bif yD m&&(inb n m.1.length&& !(m.2.2.2.any (· ==n)))then(m.1,m.2.1,m.2.2.1,yXF m.2.2.2 n)else m
def y5 (g:dG) (s:Int):Bool:=yd g&&(leb 0 s&&leb s (g.2-1))
def yo (g:dG) (s:Int):Int:=bif y5 g s then g.1-1-s.tmod g.1 else -1
def ycM (g:dG) (s i:Int):Int:=bif y5 g s&&(leb 0 i&&leb i (g.1-2))then(yo g s+1+i).tmod g.1 else -1
theorem yab {g:dG} {s:Int}:y5 g s=true↔yd g=true∧0≤s∧s≤g.2-1:=by simp[y5,zj7]
theorem ylp {g:dG} {s:Int} (h:y5 g s=true):0≤yo g s∧yo g s≤g.1-1:=by
 have h1:=yab.1 h;have h2:=yl.1 h1.1;unfold yo;rw[h,cond_true,Int.tmod_eq_emod_of_nonneg h1.2.1];have:=Int.emod_nonneg s (show g.1≠0 by omega);have:=Int.emod_lt_of_pos s (show 0<g.1 by omega);omega
theorem yVc {g:dG} {s i:Int} (h:y5 g s=true) (h1:0≤i) (h2:i≤g.1-2):0≤ycM g s i∧ycM g s i≤g.1-1:=by
 have h3:=yl.1 (yab.1 h).1;have h4:=ylp h;unfold ycM;rw[h,zk2 h1,zk2 h2,Bool.and_self,Bool.and_self,cond_true,Int.tmod_eq_emod_of_nonneg (by omega)];have:=Int.emod_nonneg (yo g s+1+i) (show g.1≠0 by omega);have:=Int.emod_lt_of_pos (yo g s+1+i) (show 0<g.1 by omega);omega
def yB (p:Nat→Bool):Nat→Int
 | 0=> -1
 | n+1=>bif p n then yB p n else n
def ydE (p:Nat→Bool) (n:Nat):Bool:=(List.range n).any (fun i=> !p i&&leb 0 (yB p i))
theorem yFi (p:Nat→Bool): ∀n,yB p n= -1∨(0≤yB p n∧yB p n<n∧p (yB p n).toNat=false)
 | 0=> .inl rfl
 | n+1=>by
  unfold yB;cases h:p n
  ·exact .inr ⟨by show(0:Int)≤n; omega,by show(n:Int)<_; omega,h⟩
  ·rcases yFi p n with h1 | h1
   ·exact .inl h1
   ·exact .inr ⟨h1.1,by show yB p n<_; omega,h1.2.2⟩
def yY (a:dA) (s:Int) (n:Nat):List Int:=(List.range n).map (fun(i:Nat)=>yhn a i s)
theorem yd9 (a:dA) (s:Int) (n:Nat):(yY a s n).length=n:=by unfold yY; rw[List.length_map,List.length_range]
theorem yDR (a:dA) (s:Int) (n:Nat):yY a s n++ [yhn a n s]=yY a s (n+1):=by unfold yY; rw[List.range_succ,List.map_append]; rfl
theorem yU6 (a:dA) (s:Int) {i n:Nat} (h:i<n):nth (yY a s n) i 0=yhn a i s:=by
 unfold yY;rw[zkS,zkJ (by rw[List.length_map,List.length_range]; exact h)]; simp
def yF (a:dA) (s:Int):List Int×Bool :=bif ydE (fun(i:Nat)=>yw a i s) a.2.1.1.toNat then([],false) else bif leb 0 (yB (fun(i:Nat)=>yw a i s) a.2.1.1.toNat)then((yY a s a.2.1.1.toNat).set (yB (fun(i:Nat)=>yw a i s) a.2.1.1.toNat).toNat (ya0 (yY a s a.2.1.1.toNat)),true) else(yY a s a.2.1.1.toNat,true)
theorem yF0 {a:dA} {s:Int} (h:(yF a s).2=true):(yF a s).1.length=a.2.1.1.toNat:=by
 unfold yF at h ⊢;cases h1:ydE (fun(i:Nat)=>yw a i s) a.2.1.1.toNat
 ·cases leb 0 (yB (fun(i:Nat)=>yw a i s) a.2.1.1.toNat)
  ·exact yd9 _ _ _
  ·simp only[cond_false,cond_true,List.length_set]; exact yd9 _ _ _
 ·rw[h1]at h; cases h
theorem yRT (a:dA) (s:Int) (n:Nat) (h:leb 0 (yB (fun(i:Nat)=>yw a i s) n)=true):inb (yB (fun(i:Nat)=>yw a i s) n) (yY a s n).length=true∧yla (yY a s n) (yB (fun(i:Nat)=>yw a i s) n)=ya0 (yY a s n):=by
 rcases yFi (fun(i:Nat)=>yw a i s) n with h1 | h1
 ·rw[h1]at h; cases h
 ·have h2:inb (yB (fun(i:Nat)=>yw a i s) n) (yY a s n).length=true:=by rw[yd9,zj6]; exact⟨h1.1,h1.2.1⟩
  refine⟨h2,yWa h2 ?_⟩;have h3:=yU6 a s (show(yB (fun(i:Nat)=>yw a i s) n).toNat<n by omega);rw[show(((yB (fun(i:Nat)=>yw a i s) n).toNat:Nat):Int)=yB (fun(i:Nat)=>yw a i s) n by omega]at h3;rw[h3];unfold yhn
  have h4:yw a (yB (fun(i:Nat)=>yw a i s) n) s=false:=by
   have:=h1.2.2;have this:yw a ((yB (fun(i:Nat)=>yw a i s) n).toNat:Nat) s=false:=h1.2.2;rwa[show(((yB (fun(i:Nat)=>yw a i s) n).toNat:Nat):Int)=yB (fun(i:Nat)=>yw a i s) n by omega]at this
  rw[h4]; rfl
def ytE (a:dA) (s:Int):List Int×Bool:=bif(yF a s).2 then((List.range (a.2.1.1-1).toNat).map (fun(i:Nat)=>nth (yF a s).1 (ycM a.2.1 s i) 0),true)else([],false)
def yyU (a:dA) (s:Int):List Int×Bool:=bif yR a&&(!a.2.2.2.2.2.2.2.2.2.2.2&&y5 a.2.1 s)then ytE a s else([],false)
theorem yBT (g:dG) (s:Int):yaK g s=y5 g s:=by
 unfold yaK y5;rw[yMX];cases hg:yd g
 ·rfl
 have:=yl.1 hg;rw[yan,ycN,wr (by omega) (by omega)]; rfl
theorem yM2 (p:Nat→Bool): ∀n,leb 0 (yB p n)=decide (1≤ycw p n)∧ydE p n=decide (2≤ycw p n)
 | 0=>⟨rfl,rfl⟩
 | n+1=>by
  obtain⟨h1,h2⟩:=yM2 p n
  have e:ydE p (n+1)=(ydE p n||(!p n&&leb 0 (yB p n))):=by
   unfold ydE;rw[List.range_succ,List.any_append]; simp
  have e2:yB p (n+1)=bif p n then yB p n else n:=rfl;rw[e,e2,yiN,h2,h1];cases hp:p n
  ·simp only[cond_false,Bool.not_false,Bool.true_and]
   refine⟨by rw[zk2 (show(0:Int)≤n by omega)]; simp,?_⟩;rw[Bool.eq_iff_iff,Bool.or_eq_true,decide_eq_true_eq,decide_eq_true_eq,decide_eq_true_eq]; omega
  ·simp[h1]
def yeV (m:dM) (n:Int):List Int:=yfG n m.2.1 (nth m.1 n [])
def yd2 (m:dM) (n:Int):Bool:=m.2.2.2.any (· ==n)
def yqa (m:dM) (n:Int) (v:List Int):Prop:=v=nth m.1 n []∨ ∃w∈m.2.1,w.1=n∧w.2=v
theorem yNe (n:Int): ∀(c:List dW) (s:List Int),yfG n c s=s∨ ∃w∈c,w.1=n∧w.2=yfG n c s
 | [],s=> .inl rfl
 | w::c,s=>by
  show yfG n c (bif w.1==n then w.2 else s)=s∨ ∃x∈w::c,x.1=n∧x.2=yfG n c (bif w.1==n then w.2 else s);rcases yNe n c (bif w.1==n then w.2 else s)with h | ⟨x,hx,h1,h2⟩
  ·rw[h]
   cases hw:(w.1==n)
   ·exact .inl rfl
   ·exact .inr ⟨w,List.mem_cons_self,beq_iff_eq.1 hw,rfl⟩
  ·exact .inr ⟨x,List.mem_cons_of_mem _ hx,h1,h2⟩
theorem yyT (m:dM) (n:Int):yqa m n (yeV m n):=yNe n m.2.1 _
theorem yIe (n:Int) (c:List dW) (w:dW) (s:List Int):yfG n (c++ [w]) s=bif w.1==n then w.2 else yfG n c s:=by
 unfold yfG; rw[List.foldl_append]; rfl
theorem yWT {m:dM} {n:Int} (h:yD m=true) (h1:m.2.2.1=false) (h2:inb n m.1.length=true):yf1 m n=bif yd2 m n then([],false)else(yeV m n,true):=by
 unfold yf1 yxv;rw[h,h1,h2];show(bif !(yd2 m n)then(yeV m n,true)else([],false))=_;cases yd2 m n<;>rfl
theorem ytD {m:dM} {n:Int} {s:List Int} (h:yD m=true) (h1:m.2.2.1=false) (h2:inb n m.1.length=true) (h3:yao s=true) (h4:m.2.1.length<60):yaS m n s=true:=by
 unfold yaS;rw[h,h1,h2,h3,zky (by omega)]; rfl
theorem yDC {m:dM} {n:Int} {s:List Int} (h:yaS m n s=true):(yQ m n s).1=(m.1,m.2.1++ [(n,s)],m.2.2.1,yDx m.2.2.2 n):=by unfold yQ; rw[h]; rfl
theorem yo8 {m:dM} {n:Int} {s:List Int} (h:yaS m n s=true) (k:Int):yeV (yQ m n s).1 k=bif n==k then s else yeV m k:=by
 rw[yDC h]; exact yIe _ _ _ _
theorem yWz (l:List Int) (n k:Int):(yDx l n).any (· ==k)=(l.any (· ==k)&&k !=n):=by
 rw[Bool.eq_iff_iff];simp only[yDx,List.any_eq_true,List.mem_filter,Bool.and_eq_true,beq_iff_eq,bne_iff_ne];constructor
 ·rintro⟨x,⟨h1,h2⟩,rfl⟩; exact⟨⟨x,h1,rfl⟩,h2⟩
 ·rintro⟨⟨x,h1,rfl⟩,h2⟩; exact⟨x,⟨h1,h2⟩,rfl⟩
theorem ytK {m:dM} {n:Int} {s:List Int} (h:yaS m n s=true) (k:Int):yd2 (yQ m n s).1 k=(yd2 m k&&k !=n):=by
 rw[yDC h]; exact yWz _ _ _
theorem yVO {m:dM} {n:Int} {s:List Int} {k:Int} {v:List Int} (h:yqa (yQ m n s).1 k v):yqa m k v∨(k=n∧v=s):=by
 cases hc:yaS m n s
 ·unfold yQ at h; rw[hc]at h; exact .inl h
 ·rw[yDC hc]at h
  rcases h with h | ⟨w,hw,h1,h2⟩
  ·exact .inl (.inl h)
  ·rcases List.mem_append.1 hw with hw | hw
   ·exact .inl (.inr ⟨w,hw,h1,h2⟩)
   ·rw[List.mem_singleton.1 hw]at h1 h2; exact .inr ⟨h1.symm,h2.symm⟩
theorem yzA {α:Type} {l:List α} {i k:Int} {x d:α} (hi:inb i l.length=true) (hk:0≤k):nth (l.set i.toNat x) k d=bif i==k then x else nth l k d:=by
 have h1:=zj6.1 hi;unfold nth;rw[List.getD_eq_getElem?_getD,List.getD_eq_getElem?_getD,List.getElem?_set];by_cases h:i=k
 ·subst h; simp[show i.toNat<l.length by omega]
 ·rw[if_neg (by omega),show(i==k)=false from beq_eq_false_iff_ne.2 h]; rfl
theorem yXn (b:Nat→Bool) {c:List dW} {l:List (List Int)} {k:Int} (hk:0≤k) (hc: ∀w∈c,inb w.1 l.length=true) :
  ∀n,n≤c.length→((List.range n).foldl (yfw b c) l).length=l.length∧(nth ((List.range n).foldl (yfw b c) l) k []=nth l k []∨ ∃w∈c,w.1=k∧w.2=nth ((List.range n).foldl (yfw b c) l) k []) ∧
   ((∀i,b i=true)→nth ((List.range n).foldl (yfw b c) l) k []=yfG k (c.take n) (nth l k [])):=by
 intro n
 induction n with
 | zero=>intro _; exact⟨rfl,.inl rfl,fun _=>rfl⟩
 | succ n ih =>
  intro hn;obtain⟨h1,h2,h3⟩:=ih (by omega);rw[List.range_succ,List.foldl_append,List.foldl_cons,List.foldl_nil];have hnc:n<c.length:=by omega
  generalize (List.range n).foldl (yfw b c) l=L at h1 h2 h3 ⊢;refine⟨yxo.trans h1,?_⟩;unfold yfw;rw[zkS,zkJ hnc];have hw:inb c[n].1 L.length=true:=by rw[h1]; exact hc _ (List.getElem_mem hnc)
  cases hb:b n
  ·refine⟨h2,fun h=> ?_⟩
   rw[h n]at hb; cases hb
  ·simp only[cond_true,yzA hw hk]
   constructor
   ·cases he:(c[n].1==k)
    ·exact h2
    ·exact .inr ⟨c[n],List.getElem_mem hnc,beq_iff_eq.1 he,rfl⟩
   ·intro h
    rw[h3 h,List.take_add_one,List.getElem?_eq_getElem hnc];exact(yIe k _ _ _).symm
theorem yWQ {m:dM} (h:yD m=true): ∀w∈m.2.1,inb w.1 m.1.length=true:=fun w hw=>by
 have:=List.all_eq_true.1 (yeY h).2.1 w hw;simp only[yo5,Bool.and_eq_true]at this; exact this.1
theorem yV1 {m:dM} {k:Int} (h:yD m=true) (h1:m.2.2.1=false) (hk:0≤k):nth (yx m).1 k []=yeV m k:=by
 have:=(yXn (fun _=>true) hk (yWQ h) m.2.1.length (Nat.le_refl _)).2.2 (fun _=>rfl);rw[List.take_length]at this;unfold yx;rw[h,h1]; exact this
theorem yxi {m:dM} (h:yD m=true) (h1:m.2.2.1=false):(yx m).2.1= []∧(yx m).2.2=m.2.2:=by
 unfold yx;rw[h,h1];refine⟨rfl,?_⟩;show(false,m.2.2.2)=m.2.2;rw[← h1]
theorem yqN {m:dM} {k:Int} {v:List Int} (h:yD m=true) (h1:m.2.2.1=false) (hk:0≤k) (hv:yqa (yx m) k v):v=yeV m k:=by
 rcases hv with hv | ⟨w,hw,_⟩
 ·rw[hv,yV1 h h1 hk]
 ·rw[(yxi h h1).1]at hw; cases hw
theorem yV0 {m:dM} {k:Int} (h:yD m=true) (h1:m.2.2.1=false) (hk:0≤k):yeV (yx m) k=yeV m k:=yqN h h1 hk (yyT _ _)
theorem yEG (m:dM) (k:Int):yd2 (yx m) k=yd2 m k:=by
 unfold yx;cases(yD m&& !m.2.2.1)<;>rfl
theorem yXB {x:Int} (h:isW x=true):(bv x).toNat<2^16:=by
 have:=ysY.1 h;unfold bv;rw[BitVec.toNat_ofInt];omega
theorem yXG {v:BitVec 64} (h:v.toNat<2^16):isW v.toInt=true:=by
 rw[BitVec.toInt_eq_toNat_of_lt (by omega)];exact ysY.2 (by omega)
theorem yXz: ∀(l:List Int),l.all isW=true→(yea l).toNat<2^16:=by
 intro l h
 have: ∀(l:List Int) (v:BitVec 64),v.toNat<2^16→l.all isW=true→(l.foldl (fun v x=>v ^^^ bv x) v).toNat<2^16:=by
  intro l
  induction l with
  | nil=>intro v hv _; exact hv
  | cons x t ih =>
   intro v hv h;simp only[List.all_cons,Bool.and_eq_true]at h;refine ih _ ?_ h.2;rw[BitVec.toNat_xor];exact Nat.xor_lt_two_pow hv (yXB h.1)
 exact this l 0#64 (by decide) h
theorem yRZ {l:List Int} (h:l.all isW=true):isW (ya0 l)=true:=by
 rw[ylJ]; exact yXG (yXz l h)
theorem yCj {l:List Int}:l.all isW=true↔ ∀x∈l,isW x=true:=by simp
theorem yQy {l:List Int} {i:Int} (h:l.all isW=true):isW (nth l i 0)=true:=by
 unfold nth;rw[List.getD_eq_getElem?_getD];cases e:l[i.toNat]? with
 | none=>rfl
 | some x=>exact yCj.1 h x (List.mem_of_getElem? e)
theorem yRt {l:List Int} {i:Nat} {x:Int} (h:l.all isW=true) (hx:isW x=true):(l.set i x).all isW=true:=by
 rw[yCj]at h ⊢;intro y hy;rcases List.mem_or_eq_of_mem_set hy with h1 | rfl
 ·exact h y h1
 ·exact hx
theorem yVP {m:dM} {n:Int} (h:(yf1 m n).2=true):yao (yf1 m n).1=true:=by
 unfold yf1 at h ⊢;cases hc:yxv m n
 ·rw[hc]at h; cases h
 ·simp only[yxv,Bool.and_eq_true]at hc
  obtain⟨h1,h2,h3,_,_,_⟩:=yeY hc.1;refine yDs (P:=fun s=>yao s=true) ?_ fun w hw=> ?_
  ·exact yCN (P:=fun s=>yao s=true) hc.2.2.1 (fun x hx=>List.all_eq_true.1 h1 x hx)
  ·have:=List.all_eq_true.1 h2 w hw
   simp only[yo5,Bool.and_eq_true]at this;exact this.2
theorem yW8 (a:dA) (m s:Int):isW (yhn a m s)=true:=by
 unfold yhn;cases h:yw a m s
 ·rfl
 ·simp only[yw,Bool.and_eq_true]at h
  have:=yVP (m:=nth a.2.2.1 m yf) (n:=yz s) h.2.1;simp only[yao,Bool.and_eq_true]at this;exact yQy this.2
theorem yAe (a:dA) (s:Int) (n:Nat):(yY a s n).all isW=true:=by
 rw[yCj];unfold yY;intro x hx;obtain⟨i,_,rfl⟩:=List.mem_map.1 hx;exact yW8 a i s
theorem yWu (a:dA) (s:Int):(yF a s).1.all isW=true:=by
 unfold yF;cases ydE (fun(i:Nat)=>yw a i s) a.2.1.1.toNat
 ·cases leb 0 (yB (fun(i:Nat)=>yw a i s) a.2.1.1.toNat)
  ·exact yAe _ _ _
  ·exact yRt (yAe _ _ _) (yRZ (yAe _ _ _))
 ·rfl
theorem yRG (a:dA) (s:Int):(ytE a s).1.all isW=true:=by
 unfold ytE;cases(yF a s).2
 ·rfl
 ·rw[yCj]
  intro x hx;obtain⟨i,_,rfl⟩:=List.mem_map.1 hx;exact yQy (yWu a s)
def ylM:Code:=(f126.body).getD .skip
def ysa:Env:=zkw TT [(109,yd3),(129,yAN)] []
theorem yGJ:FrOk prog ⟨ysa,44,fun _=>none⟩ ylM:=zkA mixed ye ⟨yhD,yQ2,trivial⟩
def yxB:Nat→Option Seg:=fun _=>none
def ybz:Shape:=⟨[(1,false,[.ptr 0 0]),(6,false,[.br tW]),(7,false,[.int .i64]),(8,false,[.int .i64])],[(0,[.int .i64,.int .i64,.int .i64,.br tM,.int .i64,.int .i64,.int .i64,.int .i64,.int .i64,.br tW,.int .i64,.bool,.bool])],[]⟩
def yeI:Shape:=⟨[(1,false,[.ptr 0 0]),(6,false,[.br tW]),(7,false,[.int .i64]),(8,false,[.ci .i64 0])],[(0,[.int .i64,.int .i64,.int .i64,.br tM,.int .i64,.int .i64,.int .i64,.int .i64,.int .i64,.br tW,.int .i64,.bool,.bool])],[]⟩
def yez:Shape:=⟨[],[],[]⟩
def yeM:Shape:=⟨[(2,false,[.bool])],[],[]⟩
abbrev ylg (v0:List dW) (v1 v2:Int) (v3:dA):(ybz).X:=((((),()),(v0,()),(v1,()),(v2,()),()),((v3.1,v3.2.1.1,v3.2.1.2,v3.2.2.1,v3.2.2.2.1,v3.2.2.2.2.1,v3.2.2.2.2.2.1,v3.2.2.2.2.2.2.1,v3.2.2.2.2.2.2.2.1,v3.2.2.2.2.2.2.2.2.1,v3.2.2.2.2.2.2.2.2.2.1,v3.2.2.2.2.2.2.2.2.2.2.1,v3.2.2.2.2.2.2.2.2.2.2.2,()),()),())
abbrev yFs (v0:List dW) (v1:Int) (v2:dA):(yeI).X:=((((),()),(v0,()),(v1,()),((),()),()),((v2.1,v2.2.1.1,v2.2.1.2,v2.2.2.1,v2.2.2.2.1,v2.2.2.2.2.1,v2.2.2.2.2.2.1,v2.2.2.2.2.2.2.1,v2.2.2.2.2.2.2.2.1,v2.2.2.2.2.2.2.2.2.1,v2.2.2.2.2.2.2.2.2.2.1,v2.2.2.2.2.2.2.2.2.2.2.1,v2.2.2.2.2.2.2.2.2.2.2.2,()),()),())
abbrev yFk  :(yez).X:=((),(),())
abbrev yFw (v0:Bool):(yeM).X:=(((v0,()),()),(),())
def ylB (v0:List dW) (v1 v2 v3 v4 v5:Int) (v6:List dM) (v7 v8 v9 v10 v11:Int) (v12:List dW) (v13:Int) (v14 v15:Bool):Option ((ybz).X ⊕ ((yez).X ⊕ (yeM).X)) :=bif(ltb v2 v1)then bif(inb v2 v0.length)then let r4:=yaK (v4,v5) ((nth v0 v2 (0,[])).1);bif(!(!r4))then bif(ltb 0 v2)then bif(inb (i64.wrap (v2-1)) v12.length)then bif(!(leb ((nth v0 v2 (0,[])).1) ((nth v12 (i64.wrap (v2-1)) (0,[])).1)))then let r5:=yjn (v4,v5) ((nth v0 v2 (0,[])).2);bif(!r5)then some (.inr (.inr (((false,()),()),(),()))) else some (.inl ((((),()),(v0,()),(v1,()),((i64.wrap (v2+1)),()),()),((v3,v4,v5,v6,v7,v8,v9,v10,v11,v12,v13,v14,v15,()),()),())) else some (.inr (.inr (((false,()),()),(),()))) else none else let r6:=yjn (v4,v5) ((nth v0 v2 (0,[])).2);bif(!r6)then some (.inr (.inr (((false,()),()),(),()))) else some (.inl ((((),()),(v0,()),(v1,()),((i64.wrap (v2+1)),()),()),((v3,v4,v5,v6,v7,v8,v9,v10,v11,v12,v13,v14,v15,()),()),())) else some (.inr (.inr (((false,()),()),(),()))) else none else some (.inr (.inl ((),(),())))
def ybQ (x:(ybz).X):=ylB x.1.2.1.1 x.1.2.2.1.1 x.1.2.2.2.1.1 x.2.1.1.1 x.2.1.1.2.1 x.2.1.1.2.2.1 x.2.1.1.2.2.2.1 x.2.1.1.2.2.2.2.1 x.2.1.1.2.2.2.2.2.1 x.2.1.1.2.2.2.2.2.2.1 x.2.1.1.2.2.2.2.2.2.2.1 x.2.1.1.2.2.2.2.2.2.2.2.1 x.2.1.1.2.2.2.2.2.2.2.2.2.1 x.2.1.1.2.2.2.2.2.2.2.2.2.2.1 x.2.1.1.2.2.2.2.2.2.2.2.2.2.2.1 x.2.1.1.2.2.2.2.2.2.2.2.2.2.2.2.1
def yt7 (x:(yeI).X):(ybz).X:=((((),()),(x.1.2.1.1,()),(x.1.2.2.1.1,()),(0,()),()),((x.2.1.1.1,x.2.1.1.2.1,x.2.1.1.2.2.1,x.2.1.1.2.2.2.1,x.2.1.1.2.2.2.2.1,x.2.1.1.2.2.2.2.2.1,x.2.1.1.2.2.2.2.2.2.1,x.2.1.1.2.2.2.2.2.2.2.1,x.2.1.1.2.2.2.2.2.2.2.2.1,x.2.1.1.2.2.2.2.2.2.2.2.2.1,x.2.1.1.2.2.2.2.2.2.2.2.2.2.1,x.2.1.1.2.2.2.2.2.2.2.2.2.2.2.1,x.2.1.1.2.2.2.2.2.2.2.2.2.2.2.2.1,()),()),())
def ywf:Code:=(zd7 ylM 64 52).getD .skip
theorem yGs:zd7 ylM 64 13=some (.block 0 (.loop ywf)):=by kernel_rfl
theorem yH0 (x:(ybz).X):zhu ⟨ysa,44,yxB⟩ 0 ywf 52 ybz yez yeM x=ybQ x:=by kernel_rfl
def yuk (x:(yeI).X):Nat:=18446744073709551616
def ymy (x:(yeI).X):Option ((yez).X ⊕ (yeM).X):=zF ybQ (yuk x) (yt7 x)
def yuH:Seg:=⟨yeI,yez,yeM,ymy⟩
def yIq:Nat→Option Seg:=fun q=>bif Nat.beq q 13 then some yuH else yxB q
theorem yGK:FrOk prog ⟨ysa,44,yIq⟩ ylM:=(yGJ).loop (sg:=yuH) ybz yt7 (by decide) yGs ybQ yuk (by decide) (fun _=>rfl) (fun x r _ h=>h) yH0
abbrev yhI:List Par:= [.rd tA]
abbrev yl2:List OT:= [⟨false,tB,.fz⟩]
def yoG (a0:dA):Option (zaY yl2×zak yhI) :=zkt (ymy ((((),()),(a0.2.2.2.2.2.2.2.2.1,()),((a0.2.2.2.2.2.2.2.2.1.length:Int),()),((),()),()),((a0.1,a0.2.1.1,a0.2.1.2,a0.2.2.1,a0.2.2.2.1,a0.2.2.2.2.1,a0.2.2.2.2.2.1,a0.2.2.2.2.2.2.1,a0.2.2.2.2.2.2.2.1,a0.2.2.2.2.2.2.2.2.1,a0.2.2.2.2.2.2.2.2.2.1,a0.2.2.2.2.2.2.2.2.2.2.1,a0.2.2.2.2.2.2.2.2.2.2.2,()),()),())) (fun y6 =>some ((true,()),())) (fun y6 =>some ((y6.1.1.1,()),()))
theorem yKA:ConOk prog 126 ⟨yhI,yl2,fun x=>yoG x.1⟩:=zkI (yGK) func126 ntmps126.symm fun x=>by kernel_rfl
def yh8 (a0:dA):Bool:=yaH a0.2.1 a0.2.2.2.2.2.2.2.2.1
def ys7 (a0:dA):Bool:=yd a0.2.1
theorem yMZ (l:List Int):yaP l=l.all isW:=by
 unfold yaP;rw[show yaz=isW from funext fun x=>by unfold yaz; rw[yan,ycN]; rfl]
theorem yNm (a0:dA) (hk:zjx yhI (a0,())) (hq:ys7 a0=true):yoG a0=(fun n=>some ((n,()),())) (yh8 a0):=by
 have hb:a0.2.2.2.2.2.2.2.2.1.length*32≤2^47:=hk.1.2.2.2.2.2.2.2.2.1.1;have hg:=yl.1 hq;have hq':yd a0.2.1=true:=hq
 have h1:ymy (yFs a0.2.2.2.2.2.2.2.2.1 a0.2.2.2.2.2.2.2.2.1.length a0)=some (bif(List.range a0.2.2.2.2.2.2.2.2.1.length).any (yfW a0.2.1 a0.2.2.2.2.2.2.2.2.1)then .inr (yFw false)else .inl yFk) :=
  zji (step:=ybQ) (fun i=>ylg a0.2.2.2.2.2.2.2.2.1 a0.2.2.2.2.2.2.2.2.1.length i a0) a0.2.2.2.2.2.2.2.2.1.length (yfW a0.2.1 a0.2.2.2.2.2.2.2.2.1) _ _ (fun i hi=>by
   simp only[ybQ,ylg,ylB,zky (show(i:Int)<a0.2.2.2.2.2.2.2.2.1.length by omega),cond_true,wq ((i:Int)+1) (by omega) (by omega),Int.natCast_add,Int.natCast_one,Int.toNat_natCast,zkR hi,zkX,yaK,yjn,yMX,hq',yan,ycN,yMZ,wq (a0.2.1.2-1) (by omega) (by omega),wq (a0.2.1.1-1) (by omega) (by omega),yfW,bne];rcases Nat.eq_zero_or_pos i with rfl | h0
   ·cases(leb 0 (nth a0.2.2.2.2.2.2.2.2.1 ((0:Nat):Int) (0,[])).1&&leb (nth a0.2.2.2.2.2.2.2.2.1 ((0:Nat):Int) (0,[])).1 (a0.2.1.2-1))<;>cases(((nth a0.2.2.2.2.2.2.2.2.1 ((0:Nat):Int) (0,[])).2.length:Int)==a0.2.1.1-1)<;>cases((nth a0.2.2.2.2.2.2.2.2.1 ((0:Nat):Int) (0,[])).2.all isW)<;>rfl
   ·rw[show i64.wrap ((i:Int)-1)=((i-1:Nat):Int)by rw[wr (by omega) (by omega)]; omega,zkR (show i-1<a0.2.2.2.2.2.2.2.2.1.length by omega),zky (show(0:Int)<i by omega),decide_eq_true h0]
    cases(leb 0 (nth a0.2.2.2.2.2.2.2.2.1 (i:Int) (0,[])).1&&leb (nth a0.2.2.2.2.2.2.2.2.1 (i:Int) (0,[])).1 (a0.2.1.2-1))<;>cases(((nth a0.2.2.2.2.2.2.2.2.1 (i:Int) (0,[])).2.length:Int)==a0.2.1.1-1)<;>cases((nth a0.2.2.2.2.2.2.2.2.1 (i:Int) (0,[])).2.all isW)<;>cases leb (nth a0.2.2.2.2.2.2.2.2.1 (i:Int) (0,[])).1 (nth a0.2.2.2.2.2.2.2.2.1 ((i-1:Nat):Int) (0,[])).1<;>rfl) (by simp only[ybQ,ylg,ylB,zk3 (Int.le_refl _),cond_false]) _ (by show _<18446744073709551616; omega)
 unfold yoG yh8 yaH;rw[h1];cases(List.range a0.2.2.2.2.2.2.2.2.1.length).any (yfW a0.2.1 a0.2.2.2.2.2.2.2.2.1)<;>rfl
def ymi (a0:dA):Option (zaY yl2×zak yhI):=bif ys7 a0 then(fun n=>some ((n,()),())) (yh8 a0)else none
theorem yOy (a0:dA) (h:ys7 a0=true):ymi a0=(fun n=>some ((n,()),())) (yh8 a0):=by unfold ymi; rw[h]; rfl
def yyF:Con:=⟨yhI,yl2,fun x=>ymi x.1⟩
theorem yOj:ConOk prog 126 yyF:=(yKA).mono (fun x r hk h=>zkY h (fun hq=>yNm x.1 hk hq))
def yR9:Code:=(f156.body).getD .skip
def ySC:Env:=zkw TT [(81,yO)] []
theorem yIY:FrOk prog ⟨ySC,11,fun _=>none⟩ yR9:=zkA mixed ye ⟨yX,trivial⟩
abbrev yu1:List Par:= [.rd tM,.rd tI]
abbrev yvn:List OT:= [⟨false,tB,.fz⟩]
def yBn (a0:dM) (a1:Int):Option (zaY yvn×zak yu1) :=let r1:=yg a1 0 (i64.wrap ((a0.1.length:Int)-1));some ((r1,()),())
theorem yNO:ConOk prog 156 ⟨yu1,yvn,fun x=>yBn x.1 x.2.1⟩:=zkI (yIY) func156 ntmps156.symm fun x=>by kernel_rfl
def ybh (a0:dM) (a1:Int):Bool :=let r1:=yg a1 0 (i64.wrap ((a0.1.length:Int)-1));r1
def yky:Con:=⟨yu1,yvn,fun x=>(fun n=>some ((n,()),())) (ybh x.1 x.2.1)⟩
theorem yQa (a0:dM) (a1:Int):yBn a0 a1=(fun n=>some ((n,()),())) (ybh a0 a1):=zkV (p:=fun(n:Bool)=>((n,()),())) rfl
theorem ys1:ConOk prog 156 yky:=(yNO).mono (fun x r _ h=>(yQa x.1 x.2.1).trans h)
def yTQ:Code:=(f186.body).getD .skip
def yT3:Env:=zkw TT [(187,yoj)] []
theorem yMn:FrOk prog ⟨yT3,10,fun _=>none⟩ yTQ:=zkA mixed ye ⟨yBh,trivial⟩
abbrev yxU:List Par:= [.rd tL]
abbrev yx4:List OT:= [⟨false,tB,.fz⟩]
def yC1 (a0:List Int):Option (zaY yx4×zak yxU) :=bif(leb (a0.length:Int) 12)then let r1:=yaP a0;some ((r1,()),()) else some ((false,()),())
theorem yQD:ConOk prog 186 ⟨yxU,yx4,fun x=>yC1 x.1⟩:=zkI (yMn) func186 ntmps186.symm fun x=>by kernel_rfl
def yfz (a0:List Int):Bool :=bif(leb (a0.length:Int) 12)then let r1:=yaP a0;r1 else false
def ysQ:Con:=⟨yxU,yx4,fun x=>(fun n=>some ((n,()),())) (yfz x.1)⟩
theorem yS1 (a0:List Int):yC1 a0=(fun n=>some ((n,()),())) (yfz a0):=zkV (p:=fun(n:Bool)=>((n,()),())) (zkG (p:=fun(n:Bool)=>((n,()),())) rfl rfl)
theorem yDK:ConOk prog 186 ysQ:=(yQD).mono (fun x r _ h=>(yS1 x.1).trans h)
theorem yBS:yfz=yao:=funext fun s=>by
 unfold yfz yao yaP;rw[show yaz=isW from funext fun x=>by unfold yaz; rw[yan,ycN]; rfl];cases leb (s.length:Int) 12<;>rfl
def ybW:Code:=(f127.body).getD .skip
def ye3:Env:=zkw TT [(81,yO),(156,yky),(186,ysQ)] []
theorem yMj:FrOk prog ⟨ye3,76,fun _=>none⟩ ybW:=zkA mixed ye ⟨yX,ys1,yDK,trivial⟩
def yB5:Nat→Option Seg:=fun _=>none
def ycy:Shape:=⟨[(1,false,[.ptr 0 0]),(10,false,[.br tL]),(11,false,[.int .i64]),(12,false,[.int .i64])],[(0,[.br tL,.br tW,.bool,.br tI])],[]⟩
def ygr:Shape:=⟨[(1,false,[.ptr 0 0]),(10,false,[.br tL]),(11,false,[.int .i64]),(12,false,[.ci .i64 0])],[(0,[.br tL,.br tW,.bool,.br tI])],[]⟩
def ygc:Shape:=⟨[(1,false,[.ptr 0 0])],[(0,[.br tL,.br tW,.bool,.br tI])],[]⟩
def ygI:Shape:=⟨[(2,false,[.bool])],[],[]⟩
abbrev yon (v0:List (List Int)) (v1 v2:Int) (v3:dM):(ycy).X:=((((),()),(v0,()),(v1,()),(v2,()),()),((v3.1,v3.2.1,v3.2.2.1,v3.2.2.2,()),()),())
abbrev yJM (v0:List (List Int)) (v1:Int) (v2:dM):(ygr).X:=((((),()),(v0,()),(v1,()),((),()),()),((v2.1,v2.2.1,v2.2.2.1,v2.2.2.2,()),()),())
abbrev yJE (v0:dM):(ygc).X:=((((),()),()),((v0.1,v0.2.1,v0.2.2.1,v0.2.2.2,()),()),())
abbrev yJ0 (v0:Bool):(ygI).X:=(((v0,()),()),(),())
def yoS (v0:List (List Int)) (v1 v2:Int) (v3:List (List Int)) (v4:List dW) (v5:Bool) (v6:List Int):Option ((ycy).X ⊕ ((ygc).X ⊕ (ygI).X)) :=bif(ltb v2 v1)then bif(inb v2 v0.length)then let r2:=yfz (nth v0 v2 []);bif(!r2)then some (.inr (.inr (((false,()),()),(),()))) else some (.inl ((((),()),(v0,()),(v1,()),((i64.wrap (v2+1)),()),()),((v3,v4,v5,v6,()),()),())) else none else some (.inr (.inl ((((),()),()),((v3,v4,v5,v6,()),()),())))
def ycW (x:(ycy).X):=yoS x.1.2.1.1 x.1.2.2.1.1 x.1.2.2.2.1.1 x.2.1.1.1 x.2.1.1.2.1 x.2.1.1.2.2.1 x.2.1.1.2.2.2.1
def yyW (x:(ygr).X):(ycy).X:=((((),()),(x.1.2.1.1,()),(x.1.2.2.1.1,()),(0,()),()),((x.2.1.1.1,x.2.1.1.2.1,x.2.1.1.2.2.1,x.2.1.1.2.2.2.1,()),()),())
def yAv:Code:=(zd7 ybW 64 52).getD .skip
theorem yLX:zd7 ybW 64 13=some (.block 0 (.loop yAv)):=by kernel_rfl
theorem yOF (x:(ycy).X):zhu ⟨ye3,76,yB5⟩ 0 yAv 52 ycy ygc ygI x=ycW x:=by kernel_rfl
def yzc (x:(ygr).X):Nat:=18446744073709551616
def ypD (x:(ygr).X):Option ((ygc).X ⊕ (ygI).X):=zF ycW (yzc x) (yyW x)
def yzW:Seg:=⟨ygr,ygc,ygI,ypD⟩
def yr3:Nat→Option Seg:=fun q=>bif Nat.beq q 13 then some yzW else yB5 q
theorem yMk:FrOk prog ⟨ye3,76,yr3⟩ ybW:=(yMj).loop (sg:=yzW) ycy yyW (by decide) yLX ycW yzc (by decide) (fun _=>rfl) (fun x r _ h=>h) yOF
def ycz:Shape:=⟨[(1,false,[.ptr 0 0]),(21,false,[.br tW]),(22,false,[.int .i64]),(23,false,[.int .i64])],[(0,[.br tL,.br tW,.bool,.br tI])],[]⟩
def ygs:Shape:=⟨[(1,false,[.ptr 0 0]),(21,false,[.br tW]),(22,false,[.int .i64]),(23,false,[.ci .i64 0])],[(0,[.br tL,.br tW,.bool,.br tI])],[]⟩
def ygd:Shape:=⟨[(1,false,[.ptr 0 0])],[(0,[.br tL,.br tW,.bool,.br tI])],[]⟩
def ygJ:Shape:=⟨[(2,false,[.bool])],[],[]⟩
abbrev yoo (v0:List dW) (v1 v2:Int) (v3:dM):(ycz).X:=((((),()),(v0,()),(v1,()),(v2,()),()),((v3.1,v3.2.1,v3.2.2.1,v3.2.2.2,()),()),())
abbrev yJN (v0:List dW) (v1:Int) (v2:dM):(ygs).X:=((((),()),(v0,()),(v1,()),((),()),()),((v2.1,v2.2.1,v2.2.2.1,v2.2.2.2,()),()),())
abbrev yJF (v0:dM):(ygd).X:=((((),()),()),((v0.1,v0.2.1,v0.2.2.1,v0.2.2.2,()),()),())
abbrev yJ1 (v0:Bool):(ygJ).X:=(((v0,()),()),(),())
def yoT (v0:List dW) (v1 v2:Int) (v3:List (List Int)) (v4:List dW) (v5:Bool) (v6:List Int):Option ((ycz).X ⊕ ((ygd).X ⊕ (ygJ).X)) :=bif(ltb v2 v1)then bif(inb v2 v0.length)then let r6:=ybh (v3,v4,v5,v6) ((nth v0 v2 (0,[])).1);bif(!(!r6))then let r7:=yfz ((nth v0 v2 (0,[])).2);bif(!r7)then some (.inr (.inr (((false,()),()),(),()))) else some (.inl ((((),()),(v0,()),(v1,()),((i64.wrap (v2+1)),()),()),((v3,v4,v5,v6,()),()),())) else some (.inr (.inr (((false,()),()),(),()))) else none else some (.inr (.inl ((((),()),()),((v3,v4,v5,v6,()),()),())))
def ycX (x:(ycz).X):=yoT x.1.2.1.1 x.1.2.2.1.1 x.1.2.2.2.1.1 x.2.1.1.1 x.2.1.1.2.1 x.2.1.1.2.2.1 x.2.1.1.2.2.2.1
def yyX (x:(ygs).X):(ycz).X:=((((),()),(x.1.2.1.1,()),(x.1.2.2.1.1,()),(0,()),()),((x.2.1.1.1,x.2.1.1.2.1,x.2.1.1.2.2.1,x.2.1.1.2.2.2.1,()),()),())
def yAw:Code:=(zd7 ybW 64 116).getD .skip
theorem yLY:zd7 ybW 64 29=some (.block 2 (.loop yAw)):=by kernel_rfl
theorem yOG (x:(ycz).X):zhu ⟨ye3,76,yr3⟩ 2 yAw 116 ycz ygd ygJ x=ycX x:=by kernel_rfl
def yzd (x:(ygs).X):Nat:=18446744073709551616
def ypE (x:(ygs).X):Option ((ygd).X ⊕ (ygJ).X):=zF ycX (yzd x) (yyX x)
def yzX:Seg:=⟨ygs,ygd,ygJ,ypE⟩
def yr4:Nat→Option Seg:=fun q=>bif Nat.beq q 29 then some yzX else yr3 q
theorem yMl:FrOk prog ⟨ye3,76,yr4⟩ ybW:=(yMk).loop (sg:=yzX) ycz yyX (by decide) yLY ycX yzd (by decide) (fun _=>rfl) (fun x r _ h=>h) yOG
def ycA:Shape:=⟨[(1,false,[.ptr 0 0]),(40,false,[.br tI]),(41,false,[.int .i64]),(42,false,[.int .i64])],[(0,[.br tL,.br tW,.bool,.br tI])],[]⟩
def ygt:Shape:=⟨[(1,false,[.ptr 0 0]),(40,false,[.br tI]),(41,false,[.int .i64]),(42,false,[.ci .i64 0])],[(0,[.br tL,.br tW,.bool,.br tI])],[]⟩
def yge:Shape:=⟨[(1,false,[.ptr 0 0])],[(0,[.br tL,.br tW,.bool,.br tI])],[]⟩
def ygK:Shape:=⟨[(2,false,[.bool])],[],[]⟩
abbrev yop (v0:List Int) (v1 v2:Int) (v3:dM):(ycA).X:=((((),()),(v0,()),(v1,()),(v2,()),()),((v3.1,v3.2.1,v3.2.2.1,v3.2.2.2,()),()),())
abbrev yJO (v0:List Int) (v1:Int) (v2:dM):(ygt).X:=((((),()),(v0,()),(v1,()),((),()),()),((v2.1,v2.2.1,v2.2.2.1,v2.2.2.2,()),()),())
abbrev yJG (v0:dM):(yge).X:=((((),()),()),((v0.1,v0.2.1,v0.2.2.1,v0.2.2.2,()),()),())
abbrev yJ2 (v0:Bool):(ygK).X:=(((v0,()),()),(),())
def yoU (v0:List Int) (v1 v2:Int) (v3:List (List Int)) (v4:List dW) (v5:Bool) (v6:List Int):Option ((ycA).X ⊕ ((yge).X ⊕ (ygK).X)) :=bif(ltb v2 v1)then bif(inb v2 v0.length)then let r10:=ybh (v3,v4,v5,v6) (nth v0 v2 0);bif(!(!r10))then bif(ltb 0 v2)then bif(inb (i64.wrap (v2-1)) v6.length)then bif(leb (nth v0 v2 0) (nth v6 (i64.wrap (v2-1)) 0))then some (.inr (.inr (((false,()),()),(),()))) else some (.inl ((((),()),(v0,()),(v1,()),((i64.wrap (v2+1)),()),()),((v3,v4,v5,v6,()),()),())) else none else some (.inl ((((),()),(v0,()),(v1,()),((i64.wrap (v2+1)),()),()),((v3,v4,v5,v6,()),()),())) else some (.inr (.inr (((false,()),()),(),()))) else none else some (.inr (.inl ((((),()),()),((v3,v4,v5,v6,()),()),())))
def ycY (x:(ycA).X):=yoU x.1.2.1.1 x.1.2.2.1.1 x.1.2.2.2.1.1 x.2.1.1.1 x.2.1.1.2.1 x.2.1.1.2.2.1 x.2.1.1.2.2.2.1
def yyY (x:(ygt).X):(ycA).X:=((((),()),(x.1.2.1.1,()),(x.1.2.2.1.1,()),(0,()),()),((x.2.1.1.1,x.2.1.1.2.1,x.2.1.1.2.2.1,x.2.1.1.2.2.2.1,()),()),())
def yAx:Code:=(zd7 ybW 64 244).getD .skip
theorem yLZ:zd7 ybW 64 61=some (.block 4 (.loop yAx)):=by kernel_rfl
theorem yOH (x:(ycA).X):zhu ⟨ye3,76,yr4⟩ 4 yAx 244 ycA yge ygK x=ycY x:=by kernel_rfl
def yze (x:(ygt).X):Nat:=18446744073709551616
def ypF (x:(ygt).X):Option ((yge).X ⊕ (ygK).X):=zF ycY (yze x) (yyY x)
def yzY:Seg:=⟨ygt,yge,ygK,ypF⟩
def yPe:Nat→Option Seg:=fun q=>bif Nat.beq q 61 then some yzY else yr4 q
theorem yMm:FrOk prog ⟨ye3,76,yPe⟩ ybW:=(yMl).loop (sg:=yzY) ycA yyY (by decide) yLZ ycY yze (by decide) (fun _=>rfl) (fun x r _ h=>h) yOH
abbrev ypT:List Par:= [.rd tM]
abbrev yx3:List OT:= [⟨false,tB,.fz⟩]
def yte (a0:dM):Option (zaY yx3×zak ypT) :=zkt (ypD ((((),()),(a0.1,()),((a0.1.length:Int),()),((),()),()),((a0.1,a0.2.1,a0.2.2.1,a0.2.2.2,()),()),())) (fun y2 =>zkt (ypE ((((),()),(y2.2.1.1.2.1,()),((y2.2.1.1.2.1.length:Int),()),((),()),()),((y2.2.1.1.1,y2.2.1.1.2.1,y2.2.1.1.2.2.1,y2.2.1.1.2.2.2.1,()),()),())) (fun y7 =>zkt (ypF ((((),()),(y7.2.1.1.2.2.2.1,()),((y7.2.1.1.2.2.2.1.length:Int),()),((),()),()),((y7.2.1.1.1,y7.2.1.1.2.1,y7.2.1.1.2.2.1,y7.2.1.1.2.2.2.1,()),()),())) (fun y10 =>let r12:=yg (y10.2.1.1.1.length:Int) 1 20;bif r12 then some (((leb (y10.2.1.1.2.1.length:Int) 60),()),()) else some ((false,()),())) (fun y10 =>some ((y10.1.1.1,()),()))) (fun y7 =>some ((y7.1.1.1,()),()))) (fun y2 =>some ((y2.1.1.1,()),()))
theorem yQC:ConOk prog 127 ⟨ypT,yx3,fun x=>yte x.1⟩:=zkI (yMm) func127 ntmps127.symm fun x=>by kernel_rfl
def ybe (a0:dM):Bool:=yD a0
theorem yS0 (a0:dM) (hk:zjx ypT (a0,())):yte a0=(fun n=>some ((n,()),())) (ybe a0):=by
 have hb1:a0.1.length*24≤2^47:=hk.1.1.1;have hb2:a0.2.1.length*32≤2^47:=hk.1.2.1.1;have hb3:a0.2.2.2.length*8≤2^47:=hk.1.2.2.2.1
 have h1:ypD (yJM a0.1 a0.1.length a0)=some (bif a0.1.all yao then .inl (yJE a0)else .inr (yJ0 false)) :=
  zj9 (step:=ycW) a0.1 [] (fun i=>yon a0.1 a0.1.length i a0) yao _ _ (fun i hi=>by
   simp only[ycW,yon,yoS,zky (show(i:Int)<a0.1.length by omega),cond_true,wq ((i:Int)+1) (by omega) (by omega),Int.natCast_add,Int.natCast_one,Int.toNat_natCast,zkR hi,zkS,yBS]
   cases yao (a0.1.getD i [])<;>rfl) (by simp only[ycW,yon,yoS,zk3 (Int.le_refl _),cond_false]) _ (by show _<18446744073709551616; omega)
 have h2:ypE (yJN a0.2.1 a0.2.1.length a0)=some (bif a0.2.1.all (yo5 a0.1.length)then .inl (yJF a0)else .inr (yJ1 false)) :=
  zj9 (step:=ycX) a0.2.1 (0,[]) (fun i=>yoo a0.2.1 a0.2.1.length i a0) (yo5 a0.1.length) _ _ (fun i hi=>by
   simp only[ycX,yoo,yoT,zky (show(i:Int)<a0.2.1.length by omega),cond_true,wq ((i:Int)+1) (by omega) (by omega),Int.natCast_add,Int.natCast_one,Int.toNat_natCast,zkR hi,zkS,yBS,ybh,yan,yje (show a0.1.length≤1152921504606846976 by omega),yo5]
   cases inb (a0.2.1.getD i (0,[])).1 a0.1.length<;>cases yao (a0.2.1.getD i (0,[])).2<;>rfl) (by simp only[ycX,yoo,yoT,zk3 (Int.le_refl _),cond_false]) _ (by show _<18446744073709551616; omega)
 have h3:ypF (yJO a0.2.2.2 a0.2.2.2.length a0)=some (bif(List.range a0.2.2.2.length).any (yAt a0.1.length a0.2.2.2)then .inr (yJ2 false)else .inl (yJG a0)) :=
  zji (step:=ycY) (fun i=>yop a0.2.2.2 a0.2.2.2.length i a0) a0.2.2.2.length (yAt a0.1.length a0.2.2.2) _ _ (fun i hi=>by
   simp only[ycY,yop,yoU,zky (show(i:Int)<a0.2.2.2.length by omega),cond_true,wq ((i:Int)+1) (by omega) (by omega),Int.natCast_add,Int.natCast_one,Int.toNat_natCast,zkR hi,zkS,ybh,yan,yje (show a0.1.length≤1152921504606846976 by omega),yAt];rcases Nat.eq_zero_or_pos i with rfl | h0
   ·cases inb (a0.2.2.2.getD 0 0) a0.1.length<;>rfl
   ·rw[show i64.wrap ((i:Int)-1)=((i-1:Nat):Int)by rw[wr (by omega) (by omega)]; omega,zkR (show i-1<a0.2.2.2.length by omega),zkS,zky (show(0:Int)<i by omega),decide_eq_true h0]
    cases inb (a0.2.2.2.getD i 0) a0.1.length<;>cases leb (a0.2.2.2.getD i 0) (a0.2.2.2.getD (i-1) 0)<;>rfl) (by simp only[ycY,yop,yoU,zk3 (Int.le_refl _),cond_false]) _ (by show _<18446744073709551616; omega)
 unfold yte ybe yD;rw[h1];cases a0.1.all yao
 ·rfl
 simp only[cond_true,zkN,h2];cases a0.2.1.all (yo5 a0.1.length)
 ·rfl
 simp only[cond_true,zkN,h3,yRz,yan,ycN];cases ynS a0.1.length a0.2.2.2
 ·rfl
 simp only[Bool.not_true,cond_false,zkN];cases leb 1 (a0.1.length:Int)<;>cases leb (a0.1.length:Int) 20<;>rfl
def yh2:Con:=⟨ypT,yx3,fun x=>(fun n=>some ((n,()),())) (ybe x.1)⟩
theorem ynY:ConOk prog 127 yh2:=(yQC).mono (fun x r hk h=>(yS0 x.1 hk).trans h)
def yO2:Code:=(f128.body).getD .skip
def yPv:Env:=zkw TT [] []
theorem yGN:FrOk prog ⟨yPv,6,fun _=>none⟩ yO2:=zkA mixed ye trivial
abbrev yso:List Par:= [.rd tG]
abbrev ysD:List OT:= [⟨false,tI,.fz⟩]
def yzQ (a0:dG):Option (zaY ysD×zak yso) :=some (((i64.wrap (6+a0.2)),()),())
theorem yKD:ConOk prog 128 ⟨yso,ysD,fun x=>yzQ x.1⟩:=zkI (yGN) func128 ntmps128.symm fun x=>by kernel_rfl
def ye2 (a0:dG):Int :=(i64.wrap (6+a0.2))
def yoi:Con:=⟨yso,ysD,fun x=>(fun n=>some ((n,()),())) (ye2 x.1)⟩
theorem yNp (a0:dG):yzQ a0=(fun n=>some ((n,()),())) (ye2 a0):=zkV (p:=fun(n:Int)=>((n,()),())) rfl
theorem yBg:ConOk prog 128 yoi:=(yKD).mono (fun x r _ h=>(yNp x.1).trans h)
def ypf:Code:=(f55.body).getD .skip
def yxJ:Env:=zkw TT [(81,yO),(123,yh1),(125,yqD),(126,yyF),(127,yh2),(128,yoi)] []
theorem yMg:FrOk prog ⟨yxJ,103,fun _=>none⟩ ypf:=zkA mixed ye ⟨yX,ynX,yCR,yOj,ynY,yBg,trivial⟩
def yB4:Nat→Option Seg:=fun _=>none
def ycx:Shape:=⟨[(1,false,[.ptr 0 0]),(41,false,[.br tM]),(42,false,[.int .i64]),(43,false,[.int .i64])],[(0,[.int .i64,.int .i64,.int .i64,.br tM,.int .i64,.int .i64,.int .i64,.int .i64,.int .i64,.br tW,.int .i64,.bool,.bool])],[]⟩
def ygq:Shape:=⟨[(1,false,[.ptr 0 0]),(41,false,[.br tM]),(42,false,[.int .i64]),(43,false,[.ci .i64 0])],[(0,[.int .i64,.int .i64,.int .i64,.br tM,.int .i64,.int .i64,.int .i64,.int .i64,.int .i64,.br tW,.int .i64,.bool,.bool])],[]⟩
def ygb:Shape:=⟨[(1,false,[.ptr 0 0])],[(0,[.int .i64,.int .i64,.int .i64,.br tM,.int .i64,.int .i64,.int .i64,.int .i64,.int .i64,.br tW,.int .i64,.bool,.bool])],[]⟩
def ygF:Shape:=⟨[(2,false,[.bool])],[],[]⟩
abbrev yom (v0:List dM) (v1 v2:Int) (v3:dA):(ycx).X:=((((),()),(v0,()),(v1,()),(v2,()),()),((v3.1,v3.2.1.1,v3.2.1.2,v3.2.2.1,v3.2.2.2.1,v3.2.2.2.2.1,v3.2.2.2.2.2.1,v3.2.2.2.2.2.2.1,v3.2.2.2.2.2.2.2.1,v3.2.2.2.2.2.2.2.2.1,v3.2.2.2.2.2.2.2.2.2.1,v3.2.2.2.2.2.2.2.2.2.2.1,v3.2.2.2.2.2.2.2.2.2.2.2,()),()),())
abbrev yJL (v0:List dM) (v1:Int) (v2:dA):(ygq).X:=((((),()),(v0,()),(v1,()),((),()),()),((v2.1,v2.2.1.1,v2.2.1.2,v2.2.2.1,v2.2.2.2.1,v2.2.2.2.2.1,v2.2.2.2.2.2.1,v2.2.2.2.2.2.2.1,v2.2.2.2.2.2.2.2.1,v2.2.2.2.2.2.2.2.2.1,v2.2.2.2.2.2.2.2.2.2.1,v2.2.2.2.2.2.2.2.2.2.2.1,v2.2.2.2.2.2.2.2.2.2.2.2,()),()),())
abbrev yJD (v0:dA):(ygb).X:=((((),()),()),((v0.1,v0.2.1.1,v0.2.1.2,v0.2.2.1,v0.2.2.2.1,v0.2.2.2.2.1,v0.2.2.2.2.2.1,v0.2.2.2.2.2.2.1,v0.2.2.2.2.2.2.2.1,v0.2.2.2.2.2.2.2.2.1,v0.2.2.2.2.2.2.2.2.2.1,v0.2.2.2.2.2.2.2.2.2.2.1,v0.2.2.2.2.2.2.2.2.2.2.2,()),()),())
abbrev yJZ (v0:Bool):(ygF).X:=(((v0,()),()),(),())
def yoR (v0:List dM) (v1 v2 v3 v4 v5:Int) (v6:List dM) (v7 v8 v9 v10 v11:Int) (v12:List dW) (v13:Int) (v14 v15:Bool):Option ((ycx).X ⊕ ((ygb).X ⊕ (ygF).X)) :=bif(ltb v2 v1)then bif(inb v2 v0.length)then let r7:=ybe ((nth v0 v2 ([],[],false,[])).1,((nth v0 v2 ([],[],false,[])).2).1,(((nth v0 v2 ([],[],false,[])).2).2));bif(!(!r7))then let r8:=ye2 (v4,v5);bif(!((((nth v0 v2 ([],[],false,[])).1).length:Int) !=r8))then bif(((nth v0 v2 ([],[],false,[])).2).2).1 then bif(v7 !=v2)then bif(!v15)then some (.inr (.inr (((false,()),()),(),()))) else some (.inl ((((),()),(v0,()),(v1,()),((i64.wrap (v2+1)),()),()),((v3,v4,v5,v6,v7,v8,v9,v10,v11,v12,v13,v14,v15,()),()),())) else some (.inl ((((),()),(v0,()),(v1,()),((i64.wrap (v2+1)),()),()),((v3,v4,v5,v6,v7,v8,v9,v10,v11,v12,v13,v14,v15,()),()),())) else some (.inl ((((),()),(v0,()),(v1,()),((i64.wrap (v2+1)),()),()),((v3,v4,v5,v6,v7,v8,v9,v10,v11,v12,v13,v14,v15,()),()),())) else some (.inr (.inr (((false,()),()),(),()))) else some (.inr (.inr (((false,()),()),(),()))) else none else some (.inr (.inl ((((),()),()),((v3,v4,v5,v6,v7,v8,v9,v10,v11,v12,v13,v14,v15,()),()),())))
def ycV (x:(ycx).X):=yoR x.1.2.1.1 x.1.2.2.1.1 x.1.2.2.2.1.1 x.2.1.1.1 x.2.1.1.2.1 x.2.1.1.2.2.1 x.2.1.1.2.2.2.1 x.2.1.1.2.2.2.2.1 x.2.1.1.2.2.2.2.2.1 x.2.1.1.2.2.2.2.2.2.1 x.2.1.1.2.2.2.2.2.2.2.1 x.2.1.1.2.2.2.2.2.2.2.2.1 x.2.1.1.2.2.2.2.2.2.2.2.2.1 x.2.1.1.2.2.2.2.2.2.2.2.2.2.1 x.2.1.1.2.2.2.2.2.2.2.2.2.2.2.1 x.2.1.1.2.2.2.2.2.2.2.2.2.2.2.2.1
def yyV (x:(ygq).X):(ycx).X:=((((),()),(x.1.2.1.1,()),(x.1.2.2.1.1,()),(0,()),()),((x.2.1.1.1,x.2.1.1.2.1,x.2.1.1.2.2.1,x.2.1.1.2.2.2.1,x.2.1.1.2.2.2.2.1,x.2.1.1.2.2.2.2.2.1,x.2.1.1.2.2.2.2.2.2.1,x.2.1.1.2.2.2.2.2.2.2.1,x.2.1.1.2.2.2.2.2.2.2.2.1,x.2.1.1.2.2.2.2.2.2.2.2.2.1,x.2.1.1.2.2.2.2.2.2.2.2.2.2.1,x.2.1.1.2.2.2.2.2.2.2.2.2.2.2.1,x.2.1.1.2.2.2.2.2.2.2.2.2.2.2.2.1,()),()),())
def yAu:Code:=(zd7 ypf 64 116).getD .skip
theorem yLW:zd7 ypf 64 29=some (.block 0 (.loop yAu)):=by kernel_rfl
theorem yOE (x:(ycx).X):zhu ⟨yxJ,103,yB4⟩ 0 yAu 116 ycx ygb ygF x=ycV x:=by kernel_rfl
def yzb (x:(ygq).X):Nat:=18446744073709551616
def ypC (x:(ygq).X):Option ((ygb).X ⊕ (ygF).X):=zF ycV (yzb x) (yyV x)
def yzV:Seg:=⟨ygq,ygb,ygF,ypC⟩
def yPd:Nat→Option Seg:=fun q=>bif Nat.beq q 29 then some yzV else yB4 q
theorem yMh:FrOk prog ⟨yxJ,103,yPd⟩ ypf:=(yMg).loop (sg:=yzV) ycx yyV (by decide) yLW ycV yzb (by decide) (fun _=>rfl) (fun x r _ h=>h) yOE
abbrev ypS:List Par:= [.rd tA]
abbrev yx1:List OT:= [⟨false,tB,.fz⟩]
def ytd (a0:dA):Option (zaY yx1×zak ypS) :=let r1:=ybY a0.2.1;bif(!(!r1))then bif(!((a0.2.2.1.length:Int) !=a0.2.1.1))then let r2:=yg a0.1 1 60000;bif(!(!r2))then let r3:=yep a0.2.1 a0.2.2.2.1 a0.2.2.2.2.1;bif(!(!r3))then bnd (ymi a0) fun r4 =>bif(!r4.1.1)then some ((false,()),()) else zkt (ypC ((((),()),(a0.2.2.1,()),((a0.2.2.1.length:Int),()),((),()),()),((a0.1,a0.2.1.1,a0.2.1.2,a0.2.2.1,a0.2.2.2.1,a0.2.2.2.2.1,a0.2.2.2.2.2.1,a0.2.2.2.2.2.2.1,a0.2.2.2.2.2.2.2.1,a0.2.2.2.2.2.2.2.2.1,a0.2.2.2.2.2.2.2.2.2.1,a0.2.2.2.2.2.2.2.2.2.2.1,a0.2.2.2.2.2.2.2.2.2.2.2,()),()),())) (fun y8 =>let r10:=yg y8.2.1.1.2.2.2.2.2.2.1 0 60000;bif r10 then let r11:=yg y8.2.1.1.2.2.2.2.2.2.2.1 0 60000;bif r11 then let r12:=yg y8.2.1.1.2.2.2.2.2.2.2.2.1 0 60000;bif r12 then let r13:=yg (i64.wrap (y8.2.1.1.2.2.2.2.2.2.1-y8.2.1.1.2.2.2.2.2.2.2.1)) 0 4;bif r13 then let r14:=yg y8.2.1.1.2.2.2.2.2.2.2.2.2.2.1 (-1) 1000;some ((r14,()),()) else some ((false,()),()) else some ((false,()),()) else some ((false,()),()) else some ((false,()),())) (fun y8 =>some ((y8.1.1.1,()),())) else some ((false,()),()) else some ((false,()),()) else some ((false,()),()) else some ((false,()),())
theorem yQA:ConOk prog 55 ⟨ypS,yx1,fun x=>ytd x.1⟩:=zkI (yMh) func55 ntmps55.symm fun x=>by kernel_rfl
theorem yXu {S T G F z TS le:Bool} (h1:T=true→TS=true→S=true) (h2:S=true→T=true→z=(TS&&le)) :
  (bif S then bif T then bif G then bif z then some ((F,()),())else some ((false,()),())else some ((false,()),())else some ((false,()),())else some ((false,()),()))=some (((T&&(TS&&(le&&(G&&F)))),()),()):=by
 cases S
 ·cases T
  ·rfl
  ·cases TS
   ·rfl
   ·exact absurd (h1 rfl rfl) Bool.false_ne_true
 ·cases T
  ·cases G<;>rfl
  ·rw[h2 rfl rfl]
   cases TS<;>cases le<;>cases G<;>rfl
def yT (a0:dA):Bool:=yR a0
theorem ySY (a0:dA) (hk:zjx ypS (a0,())):ytd a0=(fun n=>some ((n,()),())) (yT a0):=by
 have hb:a0.2.2.1.length*80≤2^47:=hk.1.2.2.1.1;unfold ytd yT yR;simp only[yMX,yan,ycN];cases hg:yd a0.2.1
 ·rfl
 have hg2:=yl.1 hg
 have h1:ypC (yJL a0.2.2.1 a0.2.2.1.length a0)=some (bif(List.range a0.2.2.1.length).any (yfx a0)then .inr (yJZ false)else .inl (yJD a0)) :=
  zji (step:=ycV) (fun i=>yom a0.2.2.1 a0.2.2.1.length i a0) a0.2.2.1.length (yfx a0) _ _ (fun i hi=>by
   simp only[ycV,yom,yoR,zky (show(i:Int)<a0.2.2.1.length by omega),cond_true,wq ((i:Int)+1) (by omega) (by omega),Int.natCast_add,Int.natCast_one,Int.toNat_natCast,zkR hi,zkX,ybe,yfx,ye2,wq (6+a0.2.1.2) (by omega) (by omega),yf];rw[show(a0.2.2.2.1 !=(i:Int))=((i:Int) !=a0.2.2.2.1)from bne_comm]
   cases yD (nth a0.2.2.1 i ([],[],false,[]))<;>cases(((nth a0.2.2.1 i ([],[],false,[])).1.length:Int) !=6+a0.2.1.2)<;>cases(nth a0.2.2.1 i ([],[],false,[])).2.2.1<;>cases((i:Int) !=a0.2.2.2.1)<;>cases a0.2.2.2.2.2.2.2.2.2.2.2<;>rfl) (by simp only[ycV,yom,yoR,zk3 (Int.le_refl _),cond_false]) _ (by show _<18446744073709551616; omega)
 rw[yOy a0 hg,h1];simp only[zkH,yh8,yep,yan,ycN,wq (a0.2.1.1-1) (by omega) (by omega),yjf]
 have hw:(leb 0 a0.2.2.2.2.2.1&&leb a0.2.2.2.2.2.1 60000)=true→(leb 0 a0.2.2.2.2.2.2.1&&leb a0.2.2.2.2.2.2.1 60000)=true→i64.wrap (a0.2.2.2.2.2.1-a0.2.2.2.2.2.2.1)=a0.2.2.2.2.2.1-a0.2.2.2.2.2.2.1:=fun h h'=>by
  rw[Bool.and_eq_true,zj7,zj7]at h h';exact wr (by omega) (by omega)
 simp only[bne,Bool.not_not,cond_true,Bool.true_and]
 have h2:(leb 0 a0.2.2.2.2.2.1&&leb a0.2.2.2.2.2.1 60000)=true→(leb 0 a0.2.2.2.2.2.2.1&&leb a0.2.2.2.2.2.2.1 60000)=true→(leb 0 (i64.wrap (a0.2.2.2.2.2.1-a0.2.2.2.2.2.2.1))&&leb (i64.wrap (a0.2.2.2.2.2.1-a0.2.2.2.2.2.2.1)) 4)=((leb a0.2.2.2.2.2.2.1 a0.2.2.2.2.2.1&&leb a0.2.2.2.2.2.1 60000)&&leb a0.2.2.2.2.2.1 (a0.2.2.2.2.2.2.1+4)):=fun h h'=>by
  rw[hw h h',Bool.eq_iff_iff];simp only[Bool.and_eq_true,zj7]at h h' ⊢;omega
 have h3:(leb 0 a0.2.2.2.2.2.2.1&&leb a0.2.2.2.2.2.2.1 60000)=true→(leb a0.2.2.2.2.2.2.1 a0.2.2.2.2.2.1&&leb a0.2.2.2.2.2.1 60000)=true→(leb 0 a0.2.2.2.2.2.1&&leb a0.2.2.2.2.2.1 60000)=true:=fun h h'=>by
  simp only[Bool.and_eq_true,zj7]at h h' ⊢;omega
 cases((a0.2.2.1.length:Int)==a0.2.1.1)
 ·cases(leb 1 a0.1&&leb a0.1 60000)<;>cases(List.range a0.2.2.1.length).any (yfx a0)<;>rfl
 cases(leb 1 a0.1&&leb a0.1 60000)
 ·rfl
 cases(leb (-1) a0.2.2.2.1&&leb a0.2.2.2.1 (a0.2.1.1-1))
 ·cases(List.range a0.2.2.1.length).any (yfx a0)<;>cases yaH a0.2.1 a0.2.2.2.2.2.2.2.2.1<;>rfl
 cases(leb 0 a0.2.2.2.2.1&&leb a0.2.2.2.2.1 a0.2.1.2)
 ·cases(List.range a0.2.2.1.length).any (yfx a0)<;>cases yaH a0.2.1 a0.2.2.2.2.2.2.2.2.1<;>rfl
 cases yaH a0.2.1 a0.2.2.2.2.2.2.2.2.1
 ·cases(List.range a0.2.2.1.length).any (yfx a0)<;>cases(a0.2.2.2.1== -1)<;>cases(a0.2.2.2.2.1==0)<;>rfl
 cases(List.range a0.2.2.1.length).any (yfx a0)
 ·cases(a0.2.2.2.1== -1)<;>cases(a0.2.2.2.2.1==0)
  case true.false=>rfl
  all_goals exact yXu h3 h2
 ·cases(a0.2.2.2.1== -1)<;>cases(a0.2.2.2.2.1==0)<;>rfl
def ycj:Con:=⟨ypS,yx1,fun x=>(fun n=>some ((n,()),())) (yT x.1)⟩
theorem yer:ConOk prog 55 ycj:=(yQA).mono (fun x r hk h=>(ySY x.1 hk).trans h)
def yLr:Code:=(f158.body).getD .skip
def yLO:Env:=zkw TT [] []
theorem yEY:FrOk prog ⟨yLO,6,fun _=>none⟩ yLr:=zkA mixed ye trivial
abbrev ykc:List Par:= [.rd tL]
abbrev yqk:List OT:= [⟨false,tL,(.ow .fz)⟩]
def ym4 (a0:List Int):Option (zaY yqk×zak ykc) :=bif(zkl ([]:List Int).length a0.length 8)then some (((([]:List Int)++a0),()),()) else none
theorem yHE:ConOk prog 158 ⟨ykc,yqk,fun x=>ym4 x.1⟩:=zkI (yEY) func158 ntmps158.symm fun x=>by kernel_rfl
def yC (a0:List Int):List Int:=a0
theorem yKi (a0:List Int) (hk:zjx ykc (a0,())):ym4 a0=(fun n=>some ((n,()),())) (yC a0):=by
 have hb:a0.length*8≤2^47:=hk.1.1;unfold ym4 yC;rw[show zkl ([]:List Int).length a0.length 8=true by rw[zkF,List.length_nil]; omega];rfl
def ybD:Con:=⟨ykc,yqk,fun x=>(fun n=>some ((n,()),())) (yC x.1)⟩
theorem ydu:ConOk prog 158 ybD:=(yHE).mono (fun x r hk h=>(yKi x.1 hk).trans h)
def ydm:Code:=(f133.body).getD .skip
def yhF:Env:=zkw TT [(158,ybD)] []
theorem yGF:FrOk prog ⟨yhF,49,fun _=>none⟩ ydm:=zkA mixed ye ⟨ydu,trivial⟩
def yxA:Nat→Option Seg:=fun _=>none
def ybx:Shape:=⟨[(1,false,[.ptr 0 0]),(2,false,[.ptr 64 0]),(3,false,[.ptr 4480 0]),(15,false,[.br tL]),(16,false,[.int .i64]),(17,false,[.int .i64])],[(0,[.br tL,.br tW,.bool,.br tI]),(64,[.nil,.nil,.bool,.nil]),(4480,[.at 800000001,.nil,.bool,.at 800000000])],[(800000001,tL,(.ow .fz)),(800000000,tI,.fz)]⟩
def yeG:Shape:=⟨[(1,false,[.ptr 0 0]),(2,false,[.ptr 64 0]),(3,false,[.ptr 4480 0]),(15,false,[.br tL]),(16,false,[.int .i64]),(17,false,[.ci .i64 0])],[(0,[.br tL,.br tW,.bool,.br tI]),(64,[.nil,.nil,.bool,.nil]),(4480,[.at 800000001,.nil,.bool,.at 800000000])],[(800000001,tL,(.ow .fz)),(800000000,tI,.fz)]⟩
def yex:Shape:=⟨[(1,false,[.ptr 0 0]),(2,false,[.ptr 64 0]),(3,false,[.ptr 4480 0])],[(0,[.br tL,.br tW,.bool,.br tI]),(64,[.nil,.nil,.bool,.nil]),(4480,[.at 800000000,.nil,.bool,.at 800000001])],[(800000000,tL,(.ow .fz)),(800000001,tI,.fz)]⟩
def yhv:Shape:=⟨[],[],[]⟩
abbrev yle (v0:List (List Int)) (v1 v2:Int) (v3 v4 v5:dM):(ybx).X:=((((),()),((),()),((),()),(v0,()),(v1,()),(v2,()),()),((v3.1,v3.2.1,v3.2.2.1,v3.2.2.2,()),((),(),v4.2.2.1,(),()),((),(),v5.2.2.1,(),()),()),(v5.1,v5.2.2.2,()))
abbrev yFq (v0:List (List Int)) (v1:Int) (v2 v3 v4:dM):(yeG).X:=((((),()),((),()),((),()),(v0,()),(v1,()),((),()),()),((v2.1,v2.2.1,v2.2.2.1,v2.2.2.2,()),((),(),v3.2.2.1,(),()),((),(),v4.2.2.1,(),()),()),(v4.1,v4.2.2.2,()))
abbrev yuu (v0 v1 v2:dM):(yex).X:=((((),()),((),()),((),()),()),((v0.1,v0.2.1,v0.2.2.1,v0.2.2.2,()),((),(),v1.2.2.1,(),()),((),(),v2.2.2.1,(),()),()),(v2.1,v2.2.2.2,()))
def ylz (v0:List (List Int)) (v1 v2:Int) (v3:List (List Int)) (v4:List dW) (v5:Bool) (v6:List Int) (v7 v8:Bool) (v9:List (List Int)) (v10:List Int):Option ((ybx).X ⊕ ((yex).X ⊕ (yhv).X)) :=bif(ltb v2 v1)then bif(inb v2 v0.length)then let r4:=yC (nth v0 v2 []);bif(zkl v9.length ([r4]:List (List Int)).length 24)then some (.inl ((((),()),((),()),((),()),(v0,()),(v1,()),((i64.wrap (v2+1)),()),()),((v3,v4,v5,v6,()),((),(),v7,(),()),((),(),v8,(),()),()),((v9++([r4]:List (List Int))),v10,()))) else none else none else some (.inr (.inl ((((),()),((),()),((),()),()),((v3,v4,v5,v6,()),((),(),v7,(),()),((),(),v8,(),()),()),(v9,v10,()))))
def ybO (x:(ybx).X):=ylz x.1.2.2.2.1.1 x.1.2.2.2.2.1.1 x.1.2.2.2.2.2.1.1 x.2.1.1.1 x.2.1.1.2.1 x.2.1.1.2.2.1 x.2.1.1.2.2.2.1 x.2.1.2.1.2.2.1 x.2.1.2.2.1.2.2.1 x.2.2.1 x.2.2.2.1
def yt5 (x:(yeG).X):(ybx).X:=((((),()),((),()),((),()),(x.1.2.2.2.1.1,()),(x.1.2.2.2.2.1.1,()),(0,()),()),((x.2.1.1.1,x.2.1.1.2.1,x.2.1.1.2.2.1,x.2.1.1.2.2.2.1,()),((),(),x.2.1.2.1.2.2.1,(),()),((),(),x.2.1.2.2.1.2.2.1,(),()),()),(x.2.2.1,x.2.2.2.1,()))
def ywd:Code:=(zd7 ydm 64 116).getD .skip
theorem yGq:zd7 ydm 64 29=some (.block 0 (.loop ywd)):=by kernel_rfl
theorem yHY (x:(ybx).X):zhu ⟨yhF,49,yxA⟩ 0 ywd 116 ybx yex yhv x=ybO x:=by kernel_rfl
def yui (x:(yeG).X):Nat:=18446744073709551616
def ymw (x:(yeG).X):Option ((yex).X ⊕ (yhv).X):=zF ybO (yui x) (yt5 x)
def yuF:Seg:=⟨yeG,yex,yhv,ymw⟩
def yn2:Nat→Option Seg:=fun q=>bif Nat.beq q 29 then some yuF else yxA q
theorem yGG:FrOk prog ⟨yhF,49,yn2⟩ ydm:=(yGF).loop (sg:=yuF) ybx yt5 (by decide) yGq ybO yui (by decide) (fun _=>rfl) (fun x r _ h=>h) yHY
def yby:Shape:=⟨[(2,false,[.ptr 64 0]),(3,false,[.ptr 4480 0]),(30,false,[.br tW]),(31,false,[.int .i64]),(32,false,[.int .i64])],[(64,[.nil,.nil,.bool,.nil]),(4480,[.at 800000000,.at 800000002,.bool,.at 800000001])],[(800000000,tL,(.ow .fz)),(800000002,tW,(.pr .fz (.ow .fz))),(800000001,tI,.fz)]⟩
def yeH:Shape:=⟨[(2,false,[.ptr 64 0]),(3,false,[.ptr 4480 0]),(30,false,[.br tW]),(31,false,[.int .i64]),(32,false,[.ci .i64 0])],[(64,[.nil,.nil,.bool,.nil]),(4480,[.at 800000000,.at 800000002,.bool,.at 800000001])],[(800000000,tL,(.ow .fz)),(800000002,tW,(.pr .fz (.ow .fz))),(800000001,tI,.fz)]⟩
def yey:Shape:=⟨[(2,false,[.ptr 64 0]),(3,false,[.ptr 4480 0])],[(64,[.nil,.nil,.bool,.nil]),(4480,[.at 800000000,.at 800000001,.bool,.at 800000002])],[(800000000,tL,(.ow .fz)),(800000001,tW,(.pr .fz (.ow .fz))),(800000002,tI,.fz)]⟩
def yhw:Shape:=⟨[],[],[]⟩
abbrev ylf (v0:List dW) (v1 v2:Int) (v3 v4:dM):(yby).X:=((((),()),((),()),(v0,()),(v1,()),(v2,()),()),(((),(),v3.2.2.1,(),()),((),(),v4.2.2.1,(),()),()),(v4.1,v4.2.1,v4.2.2.2,()))
abbrev yFr (v0:List dW) (v1:Int) (v2 v3:dM):(yeH).X:=((((),()),((),()),(v0,()),(v1,()),((),()),()),(((),(),v2.2.2.1,(),()),((),(),v3.2.2.1,(),()),()),(v3.1,v3.2.1,v3.2.2.2,()))
abbrev yuv (v0 v1:dM):(yey).X:=((((),()),((),()),()),(((),(),v0.2.2.1,(),()),((),(),v1.2.2.1,(),()),()),(v1.1,v1.2.1,v1.2.2.2,()))
def ylA (v0:List dW) (v1 v2:Int) (v3 v4:Bool) (v5:List (List Int)) (v6:List dW) (v7:List Int):Option ((yby).X ⊕ ((yey).X ⊕ (yhw).X)) :=bif(ltb v2 v1)then bif(inb v2 v0.length)then let r8:=yC ((nth v0 v2 (0,[])).2);bif(zkl v6.length ([((nth v0 v2 (0,[])).1,r8)]:List dW).length 32)then some (.inl ((((),()),((),()),(v0,()),(v1,()),((i64.wrap (v2+1)),()),()),(((),(),v3,(),()),((),(),v4,(),()),()),(v5,(v6++([((nth v0 v2 (0,[])).1,r8)]:List dW)),v7,()))) else none else none else some (.inr (.inl ((((),()),((),()),()),(((),(),v3,(),()),((),(),v4,(),()),()),(v5,v6,v7,()))))
def ybP (x:(yby).X):=ylA x.1.2.2.1.1 x.1.2.2.2.1.1 x.1.2.2.2.2.1.1 x.2.1.1.2.2.1 x.2.1.2.1.2.2.1 x.2.2.1 x.2.2.2.1 x.2.2.2.2.1
def yt6 (x:(yeH).X):(yby).X:=((((),()),((),()),(x.1.2.2.1.1,()),(x.1.2.2.2.1.1,()),(0,()),()),(((),(),x.2.1.1.2.2.1,(),()),((),(),x.2.1.2.1.2.2.1,(),()),()),(x.2.2.1,x.2.2.2.1,x.2.2.2.2.1,()))
def ywe:Code:=(zd7 ydm 64 244).getD .skip
theorem yGr:zd7 ydm 64 61=some (.block 2 (.loop ywe)):=by kernel_rfl
theorem yHZ (x:(yby).X):zhu ⟨yhF,49,yn2⟩ 2 ywe 244 yby yey yhw x=ybP x:=by kernel_rfl
def yuj (x:(yeH).X):Nat:=18446744073709551616
def ymx (x:(yeH).X):Option ((yey).X ⊕ (yhw).X):=zF ybP (yuj x) (yt6 x)
def yuG:Seg:=⟨yeH,yey,yhw,ymx⟩
def yIp:Nat→Option Seg:=fun q=>bif Nat.beq q 61 then some yuG else yn2 q
theorem yGH:FrOk prog ⟨yhF,49,yIp⟩ ydm:=(yGG).loop (sg:=yuG) yby yt6 (by decide) yGr ybP yuj (by decide) (fun _=>rfl) (fun x r _ h=>h) yHZ
abbrev ylV:List Par:= [.rd tM]
abbrev ysz:List OT:= [⟨false,tM,(.pr (.ow (.ow .fz)) (.pr (.ow (.pr .fz (.ow .fz))) (.pr .fz (.ow .fz))))⟩]
def yoE (a0:dM):Option (zaY ysz×zak ylV) :=let r1:=yC a0.2.2.2;zkt (ymw ((((),()),((),()),((),()),(a0.1,()),((a0.1.length:Int),()),((),()),()),((a0.1,a0.2.1,a0.2.2.1,a0.2.2.2,()),((),(),false,(),()),((),(),a0.2.2.1,(),()),()),([],r1,()))) (fun y4 =>zkt (ymx ((((),()),((),()),(y4.2.1.1.2.1,()),((y4.2.1.1.2.1.length:Int),()),((),()),()),(((),(),y4.2.1.2.1.2.2.1,(),()),((),(),y4.2.1.2.2.1.2.2.1,(),()),()),(y4.2.2.1,[],y4.2.2.2.1,()))) (fun y8 =>some (((y8.2.2.1,y8.2.2.2.1,y8.2.1.2.1.2.2.1,y8.2.2.2.2.1),()),())) (fun y8 =>none)) (fun y4 =>none)
theorem yKy:ConOk prog 133 ⟨ylV,ysz,fun x=>yoE x.1⟩:=zkI (yGH) func133 ntmps133.symm fun x=>by kernel_rfl
def yat (a0:dM):dM:=a0
theorem yNk (a0:dM) (hk:zjx ylV (a0,())):yoE a0=(fun n=>some ((n,()),())) (yat a0):=by
 have hb1:a0.1.length*24≤2^47:=hk.1.1.1;have hb2:a0.2.1.length*32≤2^47:=hk.1.2.1.1
 have h1:ymw (yFq a0.1 a0.1.length a0 yf ([],[],a0.2.2.1,a0.2.2.2))=some (.inl (yuu a0 yf (a0.1,[],a0.2.2.1,a0.2.2.2))):=by
  have:=zkx (step:=ybO) a0.1 [] (fun i s=>yle a0.1 a0.1.length i a0 yf (s,[],a0.2.2.1,a0.2.2.2)) (fun s x=>s++ [x]) (fun i s=>s.length=i) (fun s=> .inl (yuu a0 yf (s,[],a0.2.2.1,a0.2.2.2))) (fun i s hi hs2=>⟨by
   simp only[ybO,yle,ylz,zky (show(i:Int)<a0.1.length by omega),cond_true,wq ((i:Int)+1) (by omega) (by omega),Int.natCast_add,Int.natCast_one,Int.toNat_natCast,zkR hi,zkS,yC]
   rw[zkF.2 (show(s.length+ [a0.1.getD i []].length)*24≤140737488355328 by simp only[List.length_cons,List.length_nil]; omega)]; rfl,by simp[hs2]⟩) (fun s _=>by simp only[ybO,yle,ylz,zk3 (Int.le_refl _),cond_false]) [] rfl 18446744073709551616 (by omega)
  rw[ysW]at this;exact this
 have h2:ymx (yFr a0.2.1 a0.2.1.length yf (a0.1,[],a0.2.2.1,a0.2.2.2))=some (.inl (yuv yf a0)):=by
  have:=zkx (step:=ybP) a0.2.1 (0,[]) (fun i s=>ylf a0.2.1 a0.2.1.length i yf (a0.1,s,a0.2.2.1,a0.2.2.2)) (fun s x=>s++ [x]) (fun i s=>s.length=i) (fun s=> .inl (yuv yf (a0.1,s,a0.2.2.1,a0.2.2.2))) (fun i s hi hs2=>⟨by
   simp only[ybP,ylf,ylA,zky (show(i:Int)<a0.2.1.length by omega),cond_true,wq ((i:Int)+1) (by omega) (by omega),Int.natCast_add,Int.natCast_one,Int.toNat_natCast,zkR hi,zkS,yC,zkX]
   rw[zkF.2 (show(s.length+ [a0.2.1.getD i (0,[])].length)*32≤140737488355328 by simp only[List.length_cons,List.length_nil]; omega)]; rfl,by simp[hs2]⟩) (fun s _=>by simp only[ybP,ylf,ylA,zk3 (Int.le_refl _),cond_false]) [] rfl 18446744073709551616 (by omega)
  rw[ysW]at this;exact this
 unfold yoE yat;simp only[yC,h1,zkN,h2]
def yfu:Con:=⟨ylV,ysz,fun x=>(fun n=>some ((n,()),())) (yat x.1)⟩
theorem ykI:ConOk prog 133 yfu:=(yKy).mono (fun x r hk h=>(yNk x.1 hk).trans h)
def yOW:Code:=(f61.body).getD .skip
def yPp:Env:=zkw TT [(133,yfu)] []
theorem yGy:FrOk prog ⟨yPp,9,fun _=>none⟩ yOW:=zkA mixed ye ⟨ykI,trivial⟩
abbrev ysk:List Par:= [.rd tM]
abbrev ysu:List OT:= [⟨false,tM,(.pr (.ow (.ow .fz)) (.pr (.ow (.pr .fz (.ow .fz))) (.pr .fz (.ow .fz))))⟩]
def yzM (a0:dM):Option (zaY ysu×zak ysk) :=let r1:=yat a0;some (((r1.1,[],true,r1.2.2.2),()),())
theorem yKt:ConOk prog 61 ⟨ysk,ysu,fun x=>yzM x.1⟩:=zkI (yGy) func61 ntmps61.symm fun x=>by kernel_rfl
def ymc (a0:dM):dM :=let r1:=yat a0;(r1.1,[],true,r1.2.2.2)
def yyA:Con:=⟨ysk,ysu,fun x=>(fun n=>some ((n,()),())) (ymc x.1)⟩
theorem yNf (a0:dM):yzM a0=(fun n=>some ((n,()),())) (ymc a0):=zkV (p:=fun(n:dM)=>((n,()),())) rfl
theorem yOe:ConOk prog 61 yyA:=(yKt).mono (fun x r _ h=>(yNf x.1).trans h)
def yjZ:Code:=(f74.body).getD .skip
def ypy:Env:=zkw TT [(133,yfu)] []
theorem yEZ:FrOk prog ⟨ypy,20,fun _=>none⟩ yjZ:=zkA mixed ye ⟨ykI,trivial⟩
def yv6:Nat→Option Seg:=fun _=>none
def ya9:Shape:=⟨[(3,false,[.at 800000000]),(7,false,[.br tM]),(8,false,[.int .i64]),(9,false,[.int .i64])],[],[(800000000,tM,(.pr (.ow (.ow .fz)) (.pr (.ow (.pr .fz (.ow .fz))) (.pr .fz (.ow .fz)))))]⟩
def ydU:Shape:=⟨[(3,false,[.at 800000000]),(7,false,[.br tM]),(8,false,[.int .i64]),(9,false,[.ci .i64 0])],[],[(800000000,tM,(.pr (.ow (.ow .fz)) (.pr (.ow (.pr .fz (.ow .fz))) (.pr .fz (.ow .fz)))))]⟩
def ydM:Shape:=⟨[(3,false,[.at 800000000])],[],[(800000000,tM,(.pr (.ow (.ow .fz)) (.pr (.ow (.pr .fz (.ow .fz))) (.pr .fz (.ow .fz)))))]⟩
def ygM:Shape:=⟨[],[],[]⟩
abbrev yjH (v0:List dM) (v1 v2:Int) (v3:List dM):(ya9).X:=((((),()),(v0,()),(v1,()),(v2,()),()),(),(v3,()))
abbrev yD7 (v0:List dM) (v1:Int) (v2:List dM):(ydU).X:=((((),()),(v0,()),(v1,()),((),()),()),(),(v2,()))
abbrev yD1 (v0:List dM):(ydM).X:=((((),()),()),(),(v0,()))
def yjR (v0:List dM) (v1 v2:Int) (v3:List dM):Option ((ya9).X ⊕ ((ydM).X ⊕ (ygM).X)) :=bif(ltb v2 v1)then bif(inb v2 v0.length)then let r2:=yat ((nth v0 v2 ([],[],false,[])).1,((nth v0 v2 ([],[],false,[])).2).1,(((nth v0 v2 ([],[],false,[])).2).2));bif(zkl v3.length ([r2]:List dM).length 80)then some (.inl ((((),()),(v0,()),(v1,()),((i64.wrap (v2+1)),()),()),(),((v3++([r2]:List dM)),()))) else none else none else some (.inr (.inl ((((),()),()),(),(v3,()))))
def ybp (x:(ya9).X):=yjR x.1.2.1.1 x.1.2.2.1.1 x.1.2.2.2.1.1 x.2.2.1
def yrA (x:(ydU).X):(ya9).X:=((((),()),(x.1.2.1.1,()),(x.1.2.2.1.1,()),(0,()),()),(),(x.2.2.1,()))
def ytQ:Code:=(zd7 yjZ 64 116).getD .skip
theorem yEv:zd7 yjZ 64 29=some (.block 0 (.loop ytQ)):=by kernel_rfl
theorem yFR (x:(ya9).X):zhu ⟨ypy,20,yv6⟩ 0 ytQ 116 ya9 ydM ygM x=ybp x:=by kernel_rfl
def yrJ (x:(ydU).X):Nat:=18446744073709551616
def ykS (x:(ydU).X):Option ((ydM).X ⊕ (ygM).X):=zF ybp (yrJ x) (yrA x)
def yrZ:Seg:=⟨ydU,ydM,ygM,ykS⟩
def yGh:Nat→Option Seg:=fun q=>bif Nat.beq q 29 then some yrZ else yv6 q
theorem yE0:FrOk prog ⟨ypy,20,yGh⟩ yjZ:=(yEZ).loop (sg:=yrZ) ya9 yrA (by decide) yEv ybp yrJ (by decide) (fun _=>rfl) (fun x r _ h=>h) yFR
abbrev ykd:List Par:= [.rd tMs]
abbrev yql:List OT:= [⟨false,tMs,(.ow (.pr (.ow (.ow .fz)) (.pr (.ow (.pr .fz (.ow .fz))) (.pr .fz (.ow .fz)))))⟩]
def ym5 (a0:List dM):Option (zaY yql×zak ykd) :=zkt (ykS ((((),()),(a0,()),((a0.length:Int),()),((),()),()),(),(([]:List dM),()))) (fun y2 =>some ((y2.2.2.1,()),())) (fun y2 =>none)
theorem yHF:ConOk prog 74 ⟨ykd,yql,fun x=>ym5 x.1⟩:=zkI (yE0) func74 ntmps74.symm fun x=>by kernel_rfl
def ykF (a0:List dM):List dM:=a0
theorem yKj (a0:List dM) (hk:zjx ykd (a0,())):ym5 a0=(fun n=>some ((n,()),())) (ykF a0):=by
 have hb:a0.length*80≤2^47:=hk.1.1
 have h1:=zkx (step:=ybp) a0 yf (fun i s=>yjH a0 a0.length i s) (fun s x=>s++ [x]) (fun i s=>s.length=i) (fun s=> .inl (yD1 s)) (fun i s hi hs=>⟨by
   simp only[ybp,yjH,yjR,zky (show(i:Int)<a0.length by omega),cond_true,wq ((i:Int)+1) (by omega) (by omega),Int.natCast_add,Int.natCast_one,Int.toNat_natCast,zkR hi,zkS,yat,zkX]
   rw[zkF.2 (show(s.length+ [a0.getD i ([],[],false,[])].length)*80≤140737488355328 by simp only[List.length_cons,List.length_nil]; omega)]; rfl,by simp[hs]⟩) (fun s hs=>by simp only[ybp,yjH,yjR,zk3 (Int.le_refl _),cond_false]) [] rfl 18446744073709551616 (by omega)
 rw[ysW]at h1;unfold ym5 ykF;rw[show ykS (yD7 a0 a0.length [])=_ from h1]; rfl
def ywu:Con:=⟨ykd,yql,fun x=>(fun n=>some ((n,()),())) (ykF x.1)⟩
theorem yK2:ConOk prog 74 ywu:=(yHF).mono (fun x r hk h=>(yKj x.1 hk).trans h)
def ylL:Code:=(f95.body).getD .skip
def yr9:Env:=zkw TT [(74,ywu),(158,ybD)] []
theorem yGD:FrOk prog ⟨yr9,31,fun _=>none⟩ ylL:=zkA mixed ye ⟨yK2,ydu,trivial⟩
def yxz:Nat→Option Seg:=fun _=>none
def ybw:Shape:=⟨[(1,false,[.ptr 0 0]),(2,false,[.ptr 64 0]),(3,false,[.at 800000000]),(8,false,[.br tW]),(9,false,[.int .i64]),(10,false,[.int .i64])],[(0,[.int .i64,.int .i64,.int .i64,.br tM,.int .i64,.int .i64,.int .i64,.int .i64,.int .i64,.br tW,.int .i64,.bool,.bool]),(64,[.int .i64,.int .i64,.int .i64,.nil,.int .i64,.int .i64,.int .i64,.int .i64,.int .i64,.nil,.int .i64,.bool,.bool])],[(800000000,tW,(.pr .fz (.ow .fz)))]⟩
def yeF:Shape:=⟨[(1,false,[.ptr 0 0]),(2,false,[.ptr 64 0]),(3,false,[.at 800000000]),(8,false,[.br tW]),(9,false,[.int .i64]),(10,false,[.ci .i64 0])],[(0,[.int .i64,.int .i64,.int .i64,.br tM,.int .i64,.int .i64,.int .i64,.int .i64,.int .i64,.br tW,.int .i64,.bool,.bool]),(64,[.int .i64,.int .i64,.int .i64,.nil,.int .i64,.int .i64,.int .i64,.int .i64,.int .i64,.nil,.int .i64,.bool,.bool])],[(800000000,tW,(.pr .fz (.ow .fz)))]⟩
def yew:Shape:=⟨[(1,false,[.ptr 0 0]),(2,false,[.ptr 64 0]),(3,false,[.at 800000000])],[(0,[.int .i64,.int .i64,.int .i64,.br tM,.int .i64,.int .i64,.int .i64,.int .i64,.int .i64,.br tW,.int .i64,.bool,.bool]),(64,[.int .i64,.int .i64,.int .i64,.nil,.int .i64,.int .i64,.int .i64,.int .i64,.int .i64,.nil,.int .i64,.bool,.bool])],[(800000000,tW,(.pr .fz (.ow .fz)))]⟩
def yhu:Shape:=⟨[],[],[]⟩
abbrev yld (v0:List dW) (v1 v2:Int) (v3 v4:dA) (v5:List dW):(ybw).X:=((((),()),((),()),((),()),(v0,()),(v1,()),(v2,()),()),((v3.1,v3.2.1.1,v3.2.1.2,v3.2.2.1,v3.2.2.2.1,v3.2.2.2.2.1,v3.2.2.2.2.2.1,v3.2.2.2.2.2.2.1,v3.2.2.2.2.2.2.2.1,v3.2.2.2.2.2.2.2.2.1,v3.2.2.2.2.2.2.2.2.2.1,v3.2.2.2.2.2.2.2.2.2.2.1,v3.2.2.2.2.2.2.2.2.2.2.2,()),(v4.1,v4.2.1.1,v4.2.1.2,(),v4.2.2.2.1,v4.2.2.2.2.1,v4.2.2.2.2.2.1,v4.2.2.2.2.2.2.1,v4.2.2.2.2.2.2.2.1,(),v4.2.2.2.2.2.2.2.2.2.1,v4.2.2.2.2.2.2.2.2.2.2.1,v4.2.2.2.2.2.2.2.2.2.2.2,()),()),(v5,()))
abbrev yFp (v0:List dW) (v1:Int) (v2 v3:dA) (v4:List dW):(yeF).X:=((((),()),((),()),((),()),(v0,()),(v1,()),((),()),()),((v2.1,v2.2.1.1,v2.2.1.2,v2.2.2.1,v2.2.2.2.1,v2.2.2.2.2.1,v2.2.2.2.2.2.1,v2.2.2.2.2.2.2.1,v2.2.2.2.2.2.2.2.1,v2.2.2.2.2.2.2.2.2.1,v2.2.2.2.2.2.2.2.2.2.1,v2.2.2.2.2.2.2.2.2.2.2.1,v2.2.2.2.2.2.2.2.2.2.2.2,()),(v3.1,v3.2.1.1,v3.2.1.2,(),v3.2.2.2.1,v3.2.2.2.2.1,v3.2.2.2.2.2.1,v3.2.2.2.2.2.2.1,v3.2.2.2.2.2.2.2.1,(),v3.2.2.2.2.2.2.2.2.2.1,v3.2.2.2.2.2.2.2.2.2.2.1,v3.2.2.2.2.2.2.2.2.2.2.2,()),()),(v4,()))
abbrev yFj (v0 v1:dA) (v2:List dW):(yew).X:=((((),()),((),()),((),()),()),((v0.1,v0.2.1.1,v0.2.1.2,v0.2.2.1,v0.2.2.2.1,v0.2.2.2.2.1,v0.2.2.2.2.2.1,v0.2.2.2.2.2.2.1,v0.2.2.2.2.2.2.2.1,v0.2.2.2.2.2.2.2.2.1,v0.2.2.2.2.2.2.2.2.2.1,v0.2.2.2.2.2.2.2.2.2.2.1,v0.2.2.2.2.2.2.2.2.2.2.2,()),(v1.1,v1.2.1.1,v1.2.1.2,(),v1.2.2.2.1,v1.2.2.2.2.1,v1.2.2.2.2.2.1,v1.2.2.2.2.2.2.1,v1.2.2.2.2.2.2.2.1,(),v1.2.2.2.2.2.2.2.2.2.1,v1.2.2.2.2.2.2.2.2.2.2.1,v1.2.2.2.2.2.2.2.2.2.2.2,()),()),(v2,()))
def yly (v0:List dW) (v1 v2 v3 v4 v5:Int) (v6:List dM) (v7 v8 v9 v10 v11:Int) (v12:List dW) (v13:Int) (v14 v15:Bool) (v16 v17 v18 v19 v20 v21 v22 v23 v24:Int) (v25 v26:Bool) (v27:List dW):Option ((ybw).X ⊕ ((yew).X ⊕ (yhu).X)) :=bif(ltb v2 v1)then bif(inb v2 v0.length)then let r2:=yC ((nth v0 v2 (0,[])).2);bif(zkl v27.length ([((nth v0 v2 (0,[])).1,r2)]:List dW).length 32)then some (.inl ((((),()),((),()),((),()),(v0,()),(v1,()),((i64.wrap (v2+1)),()),()),((v3,v4,v5,v6,v7,v8,v9,v10,v11,v12,v13,v14,v15,()),(v16,v17,v18,(),v19,v20,v21,v22,v23,(),v24,v25,v26,()),()),((v27++([((nth v0 v2 (0,[])).1,r2)]:List dW)),()))) else none else none else some (.inr (.inl ((((),()),((),()),((),()),()),((v3,v4,v5,v6,v7,v8,v9,v10,v11,v12,v13,v14,v15,()),(v16,v17,v18,(),v19,v20,v21,v22,v23,(),v24,v25,v26,()),()),(v27,()))))
def ybN (x:(ybw).X):=yly x.1.2.2.2.1.1 x.1.2.2.2.2.1.1 x.1.2.2.2.2.2.1.1 x.2.1.1.1 x.2.1.1.2.1 x.2.1.1.2.2.1 x.2.1.1.2.2.2.1 x.2.1.1.2.2.2.2.1 x.2.1.1.2.2.2.2.2.1 x.2.1.1.2.2.2.2.2.2.1 x.2.1.1.2.2.2.2.2.2.2.1 x.2.1.1.2.2.2.2.2.2.2.2.1 x.2.1.1.2.2.2.2.2.2.2.2.2.1 x.2.1.1.2.2.2.2.2.2.2.2.2.2.1 x.2.1.1.2.2.2.2.2.2.2.2.2.2.2.1 x.2.1.1.2.2.2.2.2.2.2.2.2.2.2.2.1 x.2.1.2.1.1 x.2.1.2.1.2.1 x.2.1.2.1.2.2.1 x.2.1.2.1.2.2.2.2.1 x.2.1.2.1.2.2.2.2.2.1 x.2.1.2.1.2.2.2.2.2.2.1 x.2.1.2.1.2.2.2.2.2.2.2.1 x.2.1.2.1.2.2.2.2.2.2.2.2.1 x.2.1.2.1.2.2.2.2.2.2.2.2.2.2.1 x.2.1.2.1.2.2.2.2.2.2.2.2.2.2.2.1 x.2.1.2.1.2.2.2.2.2.2.2.2.2.2.2.2.1 x.2.2.1
def yt4 (x:(yeF).X):(ybw).X:=((((),()),((),()),((),()),(x.1.2.2.2.1.1,()),(x.1.2.2.2.2.1.1,()),(0,()),()),((x.2.1.1.1,x.2.1.1.2.1,x.2.1.1.2.2.1,x.2.1.1.2.2.2.1,x.2.1.1.2.2.2.2.1,x.2.1.1.2.2.2.2.2.1,x.2.1.1.2.2.2.2.2.2.1,x.2.1.1.2.2.2.2.2.2.2.1,x.2.1.1.2.2.2.2.2.2.2.2.1,x.2.1.1.2.2.2.2.2.2.2.2.2.1,x.2.1.1.2.2.2.2.2.2.2.2.2.2.1,x.2.1.1.2.2.2.2.2.2.2.2.2.2.2.1,x.2.1.1.2.2.2.2.2.2.2.2.2.2.2.2.1,()),(x.2.1.2.1.1,x.2.1.2.1.2.1,x.2.1.2.1.2.2.1,(),x.2.1.2.1.2.2.2.2.1,x.2.1.2.1.2.2.2.2.2.1,x.2.1.2.1.2.2.2.2.2.2.1,x.2.1.2.1.2.2.2.2.2.2.2.1,x.2.1.2.1.2.2.2.2.2.2.2.2.1,(),x.2.1.2.1.2.2.2.2.2.2.2.2.2.2.1,x.2.1.2.1.2.2.2.2.2.2.2.2.2.2.2.1,x.2.1.2.1.2.2.2.2.2.2.2.2.2.2.2.2.1,()),()),(x.2.2.1,()))
def ywc:Code:=(zd7 ylL 64 116).getD .skip
theorem yGp:zd7 ylL 64 29=some (.block 0 (.loop ywc)):=by kernel_rfl
theorem yHX (x:(ybw).X):zhu ⟨yr9,31,yxz⟩ 0 ywc 116 ybw yew yhu x=ybN x:=by kernel_rfl
def yuh (x:(yeF).X):Nat:=18446744073709551616
def ymv (x:(yeF).X):Option ((yew).X ⊕ (yhu).X):=zF ybN (yuh x) (yt4 x)
def yuE:Seg:=⟨yeF,yew,yhu,ymv⟩
def yIo:Nat→Option Seg:=fun q=>bif Nat.beq q 29 then some yuE else yxz q
theorem yGE:FrOk prog ⟨yr9,31,yIo⟩ ylL:=(yGD).loop (sg:=yuE) ybw yt4 (by decide) yGp ybN yuh (by decide) (fun _=>rfl) (fun x r _ h=>h) yHX
abbrev ylU:List Par:= [.rd tA]
abbrev ysy:List OT:= [⟨false,tA,(.pr .fz (.pr (.pr .fz .fz) (.pr (.ow (.pr (.ow (.ow .fz)) (.pr (.ow (.pr .fz (.ow .fz))) (.pr .fz (.ow .fz))))) (.pr .fz (.pr .fz (.pr .fz (.pr .fz (.pr .fz (.pr (.ow (.pr .fz (.ow .fz))) (.pr .fz (.pr .fz .fz)))))))))))⟩]
def yoD (a0:dA):Option (zaY ysy×zak ylU) :=zkt (ymv ((((),()),((),()),((),()),(a0.2.2.2.2.2.2.2.2.1,()),((a0.2.2.2.2.2.2.2.2.1.length:Int),()),((),()),()),((a0.1,a0.2.1.1,a0.2.1.2,a0.2.2.1,a0.2.2.2.1,a0.2.2.2.2.1,a0.2.2.2.2.2.1,a0.2.2.2.2.2.2.1,a0.2.2.2.2.2.2.2.1,a0.2.2.2.2.2.2.2.2.1,a0.2.2.2.2.2.2.2.2.2.1,a0.2.2.2.2.2.2.2.2.2.2.1,a0.2.2.2.2.2.2.2.2.2.2.2,()),(0,0,0,(),0,0,0,0,0,(),0,false,false,()),()),(([]:List dW),()))) (fun y2 =>let r4:=ykF y2.2.1.1.2.2.2.1;some (((y2.2.1.1.1,(y2.2.1.1.2.1,y2.2.1.1.2.2.1),r4,y2.2.1.1.2.2.2.2.1,y2.2.1.1.2.2.2.2.2.1,y2.2.1.1.2.2.2.2.2.2.1,y2.2.1.1.2.2.2.2.2.2.2.1,y2.2.1.1.2.2.2.2.2.2.2.2.1,y2.2.2.1,y2.2.1.1.2.2.2.2.2.2.2.2.2.2.1,y2.2.1.1.2.2.2.2.2.2.2.2.2.2.2.1,y2.2.1.1.2.2.2.2.2.2.2.2.2.2.2.2.1),()),())) (fun y2 =>none)
theorem yKx:ConOk prog 95 ⟨ylU,ysy,fun x=>yoD x.1⟩:=zkI (yGE) func95 ntmps95.symm fun x=>by kernel_rfl
def yaD (a0:dA):dA:=a0
theorem yNj (a0:dA) (hk:zjx ylU (a0,())):yoD a0=(fun n=>some ((n,()),())) (yaD a0):=by
 have hb:a0.2.2.2.2.2.2.2.2.1.length*32≤2^47:=hk.1.2.2.2.2.2.2.2.2.1.1
 have h1:=zkx (step:=ybN) a0.2.2.2.2.2.2.2.2.1 (0,[]) (fun i s=>yld a0.2.2.2.2.2.2.2.2.1 a0.2.2.2.2.2.2.2.2.1.length i a0 ydf s) (fun s x=>s++ [x]) (fun i s=>s.length=i) (fun s=> .inl (yFj a0 ydf s)) (fun i s hi hs=>⟨by
   simp only[ybN,yld,yly,zky (show(i:Int)<a0.2.2.2.2.2.2.2.2.1.length by omega),cond_true,wq ((i:Int)+1) (by omega) (by omega),Int.natCast_add,Int.natCast_one,Int.toNat_natCast,zkR hi,zkS,yC,zkX]
   rw[zkF.2 (show(s.length+ [a0.2.2.2.2.2.2.2.2.1.getD i (0,[])].length)*32≤140737488355328 by simp only[List.length_cons,List.length_nil]; omega)]; rfl,by simp[hs]⟩) (fun s hs=>by simp only[ybN,yld,yly,zk3 (Int.le_refl _),cond_false]) [] rfl 18446744073709551616 (by omega)
 rw[ysW]at h1;unfold yoD yaD;rw[show ymv (yFp a0.2.2.2.2.2.2.2.2.1 a0.2.2.2.2.2.2.2.2.1.length a0 ydf [])=_ from h1]; rfl
def yft:Con:=⟨ylU,ysy,fun x=>(fun n=>some ((n,()),())) (yaD x.1)⟩
theorem ykH:ConOk prog 95 yft:=(yKx).mono (fun x r hk h=>(yNj x.1 hk).trans h)
def yO1:Code:=(f106.body).getD .skip
def yPu:Env:=zkw TT [(81,yO)] []
theorem yGM:FrOk prog ⟨yPu,11,fun _=>none⟩ yO1:=zkA mixed ye ⟨yX,trivial⟩
abbrev ysn:List Par:= [.rd tA,.rd tI]
abbrev ysC:List OT:= [⟨false,tB,.fz⟩]
def yzP (a0:dA) (a1:Int):Option (zaY ysC×zak ysn) :=let r1:=yg a1 0 (i64.wrap ((a0.2.2.1.length:Int)-1));some ((r1,()),())
theorem yKC:ConOk prog 106 ⟨ysn,ysC,fun x=>yzP x.1 x.2.1⟩:=zkI (yGM) func106 ntmps106.symm fun x=>by kernel_rfl
def yme (a0:dA) (a1:Int):Bool :=let r1:=yg a1 0 (i64.wrap ((a0.2.2.1.length:Int)-1));r1
def yyH:Con:=⟨ysn,ysC,fun x=>(fun n=>some ((n,()),())) (yme x.1 x.2.1)⟩
theorem yNo (a0:dA) (a1:Int):yzP a0 a1=(fun n=>some ((n,()),())) (yme a0 a1):=zkV (p:=fun(n:Bool)=>((n,()),())) rfl
theorem yOl:ConOk prog 106 yyH:=(yKC).mono (fun x r _ h=>(yNo x.1 x.2.1).trans h)
def yO7:Code:=(f195.body).getD .skip
def yPA:Env:=zkw TT [(82,yK),(150,yeZ)] []
theorem yGW:FrOk prog ⟨yPA,60,fun _=>none⟩ yO7:=zkA mixed ye ⟨yU,yju,trivial⟩
abbrev ysr:List Par:= [.rd tS]
abbrev ysK:List OT:= [⟨false,tB,.fz⟩]
def yzT (a0:dS):Option (zaY ysK×zak ysr) :=let r1:=yd (a0.2.2.2.1,a0.2.2.2.2.1);bif(!(!r1))then let r2:=yb a0.1 1 60000;bif(!(!r2))then let r3:=yb a0.2.1 0 60000;bif(!(!r3))then let r4:=yb a0.2.2.1 0 (i64.wrap (a0.2.2.2.1-1));bif(!(!r4))then let r5:=yb a0.2.2.2.2.2.1 0 60000;bif(!r5)then some ((false,()),()) else let r6:=yb a0.2.2.2.2.2.2.1 (-1) (i64.wrap (a0.2.2.2.1-1));bif r6 then let r7:=yb a0.2.2.2.2.2.2.2 0 a0.2.2.2.2.1;bif r7 then bif(!(leb 0 a0.2.2.2.2.2.2.1))then some (((a0.2.2.2.2.2.2.2==0),()),()) else some ((true,()),()) else some ((false,()),()) else some ((false,()),()) else some ((false,()),()) else some ((false,()),()) else some ((false,()),()) else some ((false,()),())
theorem yKK:ConOk prog 195 ⟨ysr,ysK,fun x=>yzT x.1⟩:=zkI (yGW) func195 ntmps195.symm fun x=>by kernel_rfl
def yG (a0:dS):Bool :=let r1:=yd (a0.2.2.2.1,a0.2.2.2.2.1);bif(!(!r1))then let r2:=yb a0.1 1 60000;bif(!(!r2))then let r3:=yb a0.2.1 0 60000;bif(!(!r3))then let r4:=yb a0.2.2.1 0 (i64.wrap (a0.2.2.2.1-1));bif(!(!r4))then let r5:=yb a0.2.2.2.2.2.1 0 60000;bif(!r5)then false else let r6:=yb a0.2.2.2.2.2.2.1 (-1) (i64.wrap (a0.2.2.2.1-1));bif r6 then let r7:=yb a0.2.2.2.2.2.2.2 0 a0.2.2.2.2.1;bif r7 then bif(!(leb 0 a0.2.2.2.2.2.2.1))then (a0.2.2.2.2.2.2.2==0) else true else false else false else false else false else false else false
def yyM:Con:=⟨ysr,ysK,fun x=>(fun n=>some ((n,()),())) (yG x.1)⟩
theorem yNw (a0:dS):yzT a0=(fun n=>some ((n,()),())) (yG a0):=zkV (p:=fun(n:Bool)=>((n,()),())) (zkG (p:=fun(n:Bool)=>((n,()),())) (zkG (p:=fun(n:Bool)=>((n,()),())) (zkG (p:=fun(n:Bool)=>((n,()),())) (zkG (p:=fun(n:Bool)=>((n,()),())) (zkG (p:=fun(n:Bool)=>((n,()),())) rfl (zkG (p:=fun(n:Bool)=>((n,()),())) (zkG (p:=fun(n:Bool)=>((n,()),())) (zkG (p:=fun(n:Bool)=>((n,()),())) rfl rfl) rfl) rfl)) rfl) rfl) rfl) rfl)
theorem yOr:ConOk prog 195 yyM:=(yKK).mono (fun x r _ h=>(yNw x.1).trans h)
abbrev yXr:dS:=(0,0,0,0,0,0,0,0)
theorem ytH {s:dS}:yG s=true↔yd (s.2.2.2.1,s.2.2.2.2.1)=true∧(1≤s.1∧s.1≤60000)∧(0≤s.2.1∧s.2.1≤60000)∧(0≤s.2.2.1∧s.2.2.1≤s.2.2.2.1-1)∧(0≤s.2.2.2.2.2.1∧s.2.2.2.2.2.1≤60000)∧(-1≤s.2.2.2.2.2.2.1∧s.2.2.2.2.2.2.1≤s.2.2.2.1-1)∧(0≤s.2.2.2.2.2.2.2∧s.2.2.2.2.2.2.2≤s.2.2.2.2.1)∧(0≤s.2.2.2.2.2.2.1∨s.2.2.2.2.2.2.2=0):=by
 unfold yG;cases hg:yd (s.2.2.2.1,s.2.2.2.2.1)
 ·simp
 have hg2:=yl.1 hg;simp only at hg2;rw[wq (s.2.2.2.1-1) (by omega) (by omega)];simp only[Bool.not_not,cond_true,true_and];simp only[← yqQ];cases yb s.1 1 60000
 ·simp
 cases yb s.2.1 0 60000
 ·simp
 cases yb s.2.2.1 0 (s.2.2.2.1-1)
 ·simp
 cases yb s.2.2.2.2.2.1 0 60000
 ·simp
 cases yb s.2.2.2.2.2.2.1 (-1) (s.2.2.2.1-1)
 ·simp
 cases yb s.2.2.2.2.2.2.2 0 s.2.2.2.2.1
 ·simp
 cases hl:leb 0 s.2.2.2.2.2.2.1
 ·have:=mt zk2 (by rw[hl]; simp: ¬leb 0 s.2.2.2.2.2.2.1=true)
  simp[this]
 ·simp[zj7.1 hl]
def yRu (l:List Int):dS:=(nth l 1 0,nth l 2 0,nth l 3 0,nth l 4 0,nth l 5 0,nth l 6 0,i64.wrap (nth l 7 0-1),nth l 8 0)
def yzq (l:List Int):dS×Bool:=bif(l.length:Int)==9&&(nth l 0 0==21317&&yG (yRu l))then(yRu l,true)else(yXr,false)
def yLu:Code:=(f144.body).getD .skip
def yLR:Env:=zkw TT [(195,yyM)] []
theorem yE9:FrOk prog ⟨yLR,25,fun _=>none⟩ yLu:=zkA mixed ye ⟨yOr,trivial⟩
abbrev yp4:List Par:= [.rd tS]
abbrev yqr:List OT:= [⟨false,tL,(.ow .fz)⟩]
def yw2 (a0:dS):Option (zaY yqr×zak yp4) :=let r1:=yG a0;bif(!r1)then some ((([]:List Int),()),()) else some ((([21317,a0.1,a0.2.1,a0.2.2.1,a0.2.2.2.1,a0.2.2.2.2.1,a0.2.2.2.2.2.1,(i64.wrap (a0.2.2.2.2.2.2.1+1)),a0.2.2.2.2.2.2.2]:List Int),()),())
theorem yHL:ConOk prog 144 ⟨yp4,yqr,fun x=>yw2 x.1⟩:=zkI (yE9) func144 ntmps144.symm fun x=>by kernel_rfl
def yk (a0:dS):(List Int) :=let r1:=yG a0;bif(!r1)then ([]:List Int) else ([21317,a0.1,a0.2.1,a0.2.2.1,a0.2.2.2.1,a0.2.2.2.2.1,a0.2.2.2.2.2.1,(i64.wrap (a0.2.2.2.2.2.2.1+1)),a0.2.2.2.2.2.2.2]:List Int)
def ymK:Con:=⟨yp4,yqr,fun x=>(fun n=>some ((n,()),())) (yk x.1)⟩
theorem yKo (a0:dS):yw2 a0=(fun n=>some ((n,()),())) (yk a0):=zkV (p:=fun(n:(List Int))=>((n,()),())) (zkG (p:=fun(n:(List Int))=>((n,()),())) rfl rfl)
theorem yzG:ConOk prog 144 ymK:=(yHL).mono (fun x r _ h=>(yKo x.1).trans h)
theorem yDI {s:dS} (h:yG s=true):yzq (yk s)=(s,true):=by
 have hs:=ytH.1 h;have hg:=yl.1 hs.1;simp only at hg
 have hp:yk s= [21317,s.1,s.2.1,s.2.2.1,s.2.2.2.1,s.2.2.2.2.1,s.2.2.2.2.2.1,s.2.2.2.2.2.2.1+1,s.2.2.2.2.2.2.2]:=by
  unfold yk;rw[h,wq (s.2.2.2.2.2.2.1+1) (by omega) (by omega)]; rfl
 have ha:yRu (yk s)=s:=by
  rw[hp];show(s.1,s.2.1,s.2.2.1,s.2.2.2.1,s.2.2.2.2.1,s.2.2.2.2.2.1,i64.wrap (s.2.2.2.2.2.2.1+1-1),s.2.2.2.2.2.2.2)=s;rw[wq (s.2.2.2.2.2.2.1+1-1) (by omega) (by omega),Int.add_sub_cancel]
 unfold yzq;rw[ha,h,hp]; rfl
abbrev ya (a:dA):Bool:=a.2.2.2.2.2.2.2.2.2.2.1
def yTM (a:dA) (f:Int) (d:Bool):dA:=(a.1,a.2.1,a.2.2.1,a.2.2.2.1,a.2.2.2.2.1,a.2.2.2.2.2.1,a.2.2.2.2.2.2.1,a.2.2.2.2.2.2.2.1,a.2.2.2.2.2.2.2.2.1,f,d,a.2.2.2.2.2.2.2.2.2.2.2)
def opA (a:dA):Bool×dA:=bif ya a then(false,a)else bif a.2.2.2.2.2.2.2.2.2.1==0 then(false,yTM a (-1) true)else bif ltb 0 a.2.2.2.2.2.2.2.2.2.1 then(true,yTM a (i64.wrap (a.2.2.2.2.2.2.2.2.2.1-1)) (ya a))else(true,a)
def yjw (a:dA) (m:Int) (x:dM):dA:=(a.1,a.2.1,a.2.2.1.set m.toNat x,a.2.2.2)
def ybk (a:dA) (m n:Int) (s:List Int):dA:=bif(nth a.2.2.1 m yf).2.2.1 then a else bif(opA a).1 then yjw (opA a).2 m (yQ (nth a.2.2.1 m yf) n s).1 else(opA a).2
def yS (a:dA) (i:Nat):dA:=bif(nth a.2.2.1 i yf).2.2.1 then a else bif(opA a).1 then yjw (opA a).2 i (yx (nth a.2.2.1 i yf))else(opA a).2
def yc (a:dA):dA:=(List.range a.2.2.1.length).foldl yS a
def yF8 (a:dA) (i:Int):dS:=(a.1,a.2.2.2.2.2.2.2.1,i,a.2.1.1,a.2.1.2,a.2.2.2.2.2.2.1,a.2.2.2.1,a.2.2.2.2.1)
def yW (a:dA) (i:Nat):dA:=ybk a i (a.2.2.2.2.2.2.2.1.tmod 2) (yk (yF8 a i))
def yE (a:dA):dA:=(a.1,a.2.1,a.2.2.1,a.2.2.2.1,a.2.2.2.2.1,a.2.2.2.2.2.1,a.2.2.2.2.2.2.1,i64.wrap (a.2.2.2.2.2.2.2.1+1),a.2.2.2.2.2.2.2.2)
def yj (a:dA):dA:=yc ((List.range a.2.2.1.length).foldl yW (yE a))
theorem yaE (a:dA):(opA a).2.2.2.1=a.2.2.1:=by
 unfold opA;cases ya a
 ·cases(a.2.2.2.2.2.2.2.2.2.1==0)
  ·cases ltb 0 a.2.2.2.2.2.2.2.2.2.1<;>rfl
  ·rfl
 ·rfl
theorem yRi {a:dA} (h:ya a=false):ya (opA a).2= !(opA a).1:=by
 unfold opA;rw[h];cases(a.2.2.2.2.2.2.2.2.2.1==0)
 ·cases ltb 0 a.2.2.2.2.2.2.2.2.2.1
  ·exact h
  ·rfl
 ·rfl
theorem yVn {a:dA} (h:ya a=true):opA a=(false,a):=by unfold opA; rw[h]; rfl
theorem ymo (a:dA) (m n:Int) (s:List Int):(ybk a m n s).2.2.1.length=a.2.2.1.length:=by
 unfold ybk;cases(nth a.2.2.1 m yf).2.2.1
 ·cases(opA a).1
  ·show(opA a).2.2.2.1.length=_; rw[yaE]
  ·show((opA a).2.2.2.1.set m.toNat _).length=_; rw[List.length_set,yaE]
 ·rfl
theorem yjA (a:dA) (i:Nat):(yS a i).2.2.1.length=a.2.2.1.length:=by
 unfold yS;cases(nth a.2.2.1 i yf).2.2.1
 ·cases(opA a).1
  ·show(opA a).2.2.2.1.length=_; rw[yaE]
  ·show((opA a).2.2.2.1.set _ _).length=_; rw[List.length_set,yaE]
 ·rfl
theorem yiL {one:dA→Nat→dA} (h: ∀a i,(one a i).2.2.1.length=a.2.2.1.length): ∀(l:List Nat) (a:dA),(l.foldl one a).2.2.1.length=a.2.2.1.length
 | [],_=>rfl
 | x::l,a=>by rw[List.foldl_cons,yiL h l,h]
theorem yAd (a:dA):(yc a).2.2.1.length=a.2.2.1.length:=yiL yjA _ _
theorem ylq {a:dA} (h:ya a=true) (m n:Int) (s:List Int):ybk a m n s=a:=by
 unfold ybk;rw[yVn h];cases(nth a.2.2.1 m yf).2.2.1<;>rfl
theorem yAc {a:dA} (i:Nat) (h:ya a=true):yS a i=a:=by
 unfold yS;rw[yVn h];cases(nth a.2.2.1 i yf).2.2.1<;>rfl
theorem yis {one:dA→Nat→dA} (hs: ∀a i,ya a=true→one a i=a): ∀(l:List Nat) (a:dA),ya a=true→l.foldl one a=a
 | [],_,_=>rfl
 | x::l,a,h=>by rw[List.foldl_cons,hs a x h]; exact yis hs l a h
theorem yuN {a:dA} (h:ya a=true):yc a=a:=yis (fun _ i h=>yAc i h) _ a h
theorem yUK {a:dA} (h:ya a=false) (m n:Int) (s:List Int):ya (ybk a m n s)=(!(nth a.2.2.1 m yf).2.2.1&& !(opA a).1):=by
 have:=yRi h;unfold ybk;cases(nth a.2.2.1 m yf).2.2.1
 ·cases ho:(opA a).1
  ·rw[ho]at this; exact this
  ·rw[ho]at this; exact this
 ·exact h
theorem yFX {a:dA} (h:ya a=false) (i:Nat):ya (yS a i)=(!(nth a.2.2.1 i yf).2.2.1&& !(opA a).1):=by
 have:=yRi h;unfold yS;cases(nth a.2.2.1 i yf).2.2.1
 ·cases ho:(opA a).1
  ·rw[ho]at this; exact this
  ·rw[ho]at this; exact this
 ·exact h
theorem yJy {one:dA→Nat→dA} (hs: ∀a i,ya a=true→one a i=a): ∀(k i:Nat) (s:dA),goE (fun i s=>bif ya (one s i)then(.inr (one s i):dA ⊕ dA)else .inl (one s i)) id k i s=(List.range' i k).foldl one s
 | 0,_,_=>rfl
 | k+1,i,s=>by
  rw[List.range'_succ,List.foldl_cons,goE];cases hd:ya (one s i)
  ·exact yJy hs k (i+1) (one s i)
  ·exact(yis hs _ _ hd).symm
def yA (a:dA) (m:Int):dA:=(a.1,a.2.1,a.2.2.1.set m.toNat (ydr (nth a.2.2.1 m yf)),m,0,a.2.2.2.2.2)
def yDg (a:dA) (m:Int):dA:=(a.1,a.2.1,a.2.2.1.set m.toNat (ydr (nth a.2.2.1 m yf)),a.2.2.2.1,a.2.2.2.2.1,a.2.2.2.2.2.1,a.2.2.2.2.2.2.1,a.2.2.2.2.2.2.2.1,a.2.2.2.2.2.2.2.2.1,a.2.2.2.2.2.2.2.2.2.1,a.2.2.2.2.2.2.2.2.2.2.1,true)
def yap (a:dA) (m:Int):dA:=bif a.2.2.2.1== -1||a.2.2.2.1==m then(bif !(ya a)&&(!a.2.2.2.2.2.2.2.2.2.2.2&&ltb a.2.2.2.2.2.2.2.1 60000)then yj (yA a m)else yA a m)else yDg a m
def yDh (a:dA) (m:Int):dA:=bif yR a&&(inb m a.2.2.1.length&& !(nth a.2.2.1 m yf).2.2.1)then yap a m else a
theorem yWP (a:dA):(yj a).2.2.1.length=a.2.2.1.length:=(yAd _).trans (yiL (one:=yW) (fun _ _=>ymo _ _ _ _) _ (yE a))
theorem yDw (a:dA):(opA a).2.2.2.2.2.2.2.2.2.1=a.2.2.2.2.2.2.2.2.1:=by
 unfold opA;cases ya a
 ·cases(a.2.2.2.2.2.2.2.2.2.1==0)
  ·cases ltb 0 a.2.2.2.2.2.2.2.2.2.1<;>rfl
  ·rfl
 ·rfl
theorem yWf (a:dA) (m n:Int) (s:List Int):(ybk a m n s).2.2.2.2.2.2.2.2.1=a.2.2.2.2.2.2.2.2.1:=by
 unfold ybk;cases(nth a.2.2.1 m yf).2.2.1
 ·cases(opA a).1
  ·exact yDw a
  ·exact yDw a
 ·rfl
theorem yTI (a:dA) (i:Nat):(yS a i).2.2.2.2.2.2.2.2.1=a.2.2.2.2.2.2.2.2.1:=by
 unfold yS;cases(nth a.2.2.1 i yf).2.2.1
 ·cases(opA a).1
  ·exact yDw a
  ·exact yDw a
 ·rfl
theorem yDi {one:dA→Nat→dA} (h: ∀a i,(one a i).2.2.2.2.2.2.2.2.1=a.2.2.2.2.2.2.2.2.1): ∀(l:List Nat) (a:dA),(l.foldl one a).2.2.2.2.2.2.2.2.1=a.2.2.2.2.2.2.2.2.1
 | [],_=>rfl
 | x::l,a=>by rw[List.foldl_cons,yDi h l,h]
theorem yDy (a:dA):(yc a).2.2.2.2.2.2.2.2.1=a.2.2.2.2.2.2.2.2.1:=yDi yTI _ _
theorem yVI (a:dA):(yj a).2.2.2.2.2.2.2.2.1=a.2.2.2.2.2.2.2.2.1:=(yDy _).trans (yDi (one:=yW) (fun _ _=>yWf _ _ _ _) _ (yE a))
def ybd (n:Int):dM:=bif leb 1 n&&leb n 20 then(List.replicate n.toNat [],[],false,[])else yf
theorem yV8 {n:Int} (h1:1≤n) (h2:n≤20):yD (ybd n)=true:=by
 unfold ybd;rw[zk2 h1,zk2 h2];refine yzs ?_ rfl rfl ?_ ?_ (Nat.zero_le _)
 ·show(List.replicate n.toNat ([]:List Int)).all yao=true
  rw[List.all_eq_true];intro x hx;rw[(List.mem_replicate.1 hx).2]; rfl
 ·show 1≤(List.replicate n.toNat ([]:List Int)).length; rw[List.length_replicate]; omega
 ·show(List.replicate n.toNat ([]:List Int)).length≤20; rw[List.length_replicate]; omega
def ym (a:dA):dA:=(a.1,a.2.1,a.2.2.1.set a.2.2.2.1.toNat (ybd (6+a.2.1.2)),a.2.2.2.1,0,a.2.2.2.2.2)
def yas (a:dA):dA×Int :=bif !(yR a)then(a,1)else bif ya a then(a,6)else bif a.2.2.2.1== -1|| !((nth a.2.2.1 a.2.2.2.1 yf).2.2.1)then(a,2)else bif a.2.2.2.2.2.2.2.2.2.2.2 then(a,5)else bif leb 59990 a.2.2.2.2.2.2.2.1 then(a,7) else(yj (ym a),bif ya (yj (ym a))then 6 else 0)
theorem yUe {a:dA} (h:yR a=true): -1≤a.2.2.2.1∧a.2.2.2.1≤a.2.1.1-1:=by
 simp only[yR,Bool.and_eq_true,zj7]at h;exact h.2.2.2.2.1
theorem yPZ {a:dA} (h:yR a=true) (h2:a.2.2.2.1≠ -1):inb a.2.2.2.1 a.2.2.1.length=true:=by
 have:=yUe h;have:=yEA h;exact zj6.2 (by omega)
def yH (a:dA):dA:=(a.1,a.2.1,a.2.2.1,a.2.2.2.1,a.2.2.2.2.1,a.2.2.2.2.2.1,a.2.2.2.2.2.1,a.2.2.2.2.2.2.2)
def yi (a:dA):dA:=bif ya (yc a)then yc a else yj (yH (yc a))
theorem yVW (a:dA):(yi a).2.2.1.length=a.2.2.1.length:=by
 unfold yi;cases ya (yc a)
 ·exact(yWP (yH (yc a))).trans (yAd a)
 ·exact yAd a
theorem yH6 (a:dA):(yi a).2.2.2.2.2.2.2.2.1=a.2.2.2.2.2.2.2.2.1:=by
 unfold yi;cases ya (yc a)
 ·exact(yVI (yH (yc a))).trans (yDy a)
 ·exact yDy a
def yy (b:dA):dA:=(b.1,b.2.1,b.2.2.1,-1,0,b.2.2.2.2.2)
def ysO (a:dA):dA×Int:=bif ya (yi a)then(yi a,6)else(yj (yy (yi a)),bif ya (yj (yy (yi a)))then 6 else 0)
def yd0 (a:dA):dA×Int :=bif !(yR a)then(a,1)else bif ya a then(a,6)else bif a.2.2.2.1== -1||((nth a.2.2.1 a.2.2.2.1 yf).2.2.1||ltb a.2.2.2.2.1 a.2.1.2)then(a,2)else bif a.2.2.2.2.2.2.2.2.2.2.2 then(a,5)else bif leb 59990 a.2.2.2.2.2.2.2.1 then(a,7)else ysO a
def yUA (id:Int) (g:dG) (i:Int):dS:=(id,0,i,g.1,g.2,0,-1,0)
def ymh (m:dM) (s:Nat):dM:=(m.1.set (s+6) [0],m.2)
def yg9 (id:Int) (g:dG) (i:Int):dM:=((ybd (6+g.2)).1.set 0 (yk (yUA id g i)),(ybd (6+g.2)).2)
def yM (id:Int) (g:dG) (i:Int):dM:=(List.range g.2.toNat).foldl ymh (yg9 id g i)
def yyl (a:dA) (m:dM):dA:=(a.1,a.2.1,a.2.2.1++ [m],a.2.2.2)
def yyp (id:Int) (g:dG):dA:=(id,g,[],-1,0,0,0,0,[],-1,false,false)
def ydk (id:Int) (g:dG):dA:=bif yd g&&(leb 1 id&&leb id 60000)then(List.range g.1.toNat).foldl (fun a (i:Nat)=>yyl a (yM id g i)) (yyp id g)else ydf
theorem yIc (l:List Nat) (m:dM):(l.foldl ymh m).1.length=m.1.length:=by
 induction l generalizing m with
 | nil=>rfl
 | cons x t ih=>rw[List.foldl_cons,ih]; show(m.1.set _ _).length=_; rw[List.length_set]
def yp (a:dA):Int×(Int×Int)×Int×Int×Int×Int×Int×List dW×Bool:=(a.1,a.2.1,a.2.2.2.1,a.2.2.2.2.1,a.2.2.2.2.2.1,a.2.2.2.2.2.2.1,a.2.2.2.2.2.2.2.1,a.2.2.2.2.2.2.2.2.1,a.2.2.2.2.2.2.2.2.2.2.2)
theorem yCW (a:dA):yp (opA a).2=yp a:=by
 unfold opA;cases ya a
 ·cases(a.2.2.2.2.2.2.2.2.2.1==0)
  ·cases ltb 0 a.2.2.2.2.2.2.2.2.2.1<;>rfl
  ·rfl
 ·rfl
theorem yfJ (a:dA) (m n:Int) (s:List Int):yp (ybk a m n s)=yp a:=by
 unfold ybk;cases(nth a.2.2.1 m yf).2.2.1
 ·cases(opA a).1
  ·exact yCW a
  ·exact yCW a
 ·rfl
theorem yFW (a:dA) (i:Nat):yp (yS a i)=yp a:=by
 unfold yS;cases(nth a.2.2.1 i yf).2.2.1
 ·cases(opA a).1
  ·exact yCW a
  ·exact yCW a
 ·rfl
theorem yk8 {one:dA→Nat→dA} (h: ∀a i,yp (one a i)=yp a): ∀(l:List Nat) (a:dA),yp (l.foldl one a)=yp a
 | [],_=>rfl
 | x::l,a=>by rw[List.foldl_cons,yk8 h l,h]
theorem yax (a:dA):yp (yc a)=yp a:=yk8 yFW _ _
theorem ycl (a:dA):yp (yj a)=yp (yE a):=(yax _).trans (yk8 (one:=yW) (fun _ _=>yfJ _ _ _ _) _ _)
theorem yP {a b:dA} (h:yp a=yp b):a.2.1=b.2.1:=congrArg (fun x=>x.2.1) h
theorem ycL {a b:dA} (h:yp a=yp b):a.2.2.2.2.1=b.2.2.2.2.1:=congrArg (fun x=>x.2.2.2.1) h
theorem yMd {a b:dA} (h:yp a=yp b):a.2.2.2.2.2.2.2.2.1=b.2.2.2.2.2.2.2.2.1:=congrArg (fun x=>x.2.2.2.2.2.2.2.1) h
def yUM (b:dA):dA:=(b.1,b.2.1,b.2.2.1,b.2.2.2.1,i64.wrap (b.2.2.2.2.1+1),b.2.2.2.2.2)
def yZ (a:dA):dA:=ybk a a.2.2.2.1 (yz a.2.2.2.2.1) [nth (yF a a.2.2.2.2.1).1 a.2.2.2.1 0]
def yac (a:dA):Int×dA:=bif(yF a a.2.2.2.2.1).2 then(bif ya (yZ a)then(6,yZ a)else(0,yUM (yZ a)))else(5,a)
def ybc (a:dA):dA×Int :=bif !(yR a)then(a,1)else bif ya a then(a,6)else bif a.2.2.2.1== -1||((nth a.2.2.1 a.2.2.2.1 yf).2.2.1||leb a.2.1.2 a.2.2.2.2.1)then(a,2)else bif a.2.2.2.2.2.2.2.2.2.2.2 then(a,5)else((yac a).2,(yac a).1)
def yee:Nat→dA→dA×Int
 | 0,a=>(a,0)
 | n+1,a=>bif ltb a.2.2.2.2.1 a.2.1.2 then(bif(ybc a).2 !=0 then ybc a else yee n (ybc a).1)else(a,0)
def ycc (a:dA):dA×Int:=bif(yas a).2 !=0 then yas a else bif(yee 8 (yas a).1).2 !=0 then yee 8 (yas a).1 else yd0 (yee 8 (yas a).1).1
theorem yRy {a:dA} (h:yR a=true):0≤a.2.2.2.2.1∧a.2.2.2.2.1≤a.2.1.2:=by
 simp only[yR,Bool.and_eq_true,zj7]at h;exact h.2.2.2.2.2.1
theorem yWj {a:dA} (h:(ybc a).2=0):yR a=true∧a.2.2.2.2.1<a.2.1.2∧(ybc a).1.2.1=a.2.1∧(ybc a).1.2.2.2.2.1=a.2.2.2.2.1+1:=by
 unfold ybc at h ⊢;cases ha:yR a
 ·rw[ha]at h; exact absurd (show(1:Int)=0 from h) (by decide)
 rw[ha]at h;have hg:=yl.1 (yd1 ha);have hb:=yRy ha;cases hd:ya a
 ·rw[hd]at h
  cases hc:(a.2.2.2.1== -1||((nth a.2.2.1 a.2.2.2.1 yf).2.2.1||leb a.2.1.2 a.2.2.2.2.1))
  ·rw[hc]at h
   simp only[Bool.or_eq_false_iff]at hc
   have hS:a.2.2.2.2.1<a.2.1.2:=by
    rcases Int.lt_or_le a.2.2.2.2.1 a.2.1.2 with h1 | h1
    ·exact h1
    ·have:=hc.2.2; rw[zk2 h1]at this; cases this
   cases hbr:a.2.2.2.2.2.2.2.2.2.2.2
   ·rw[hbr]at h
    simp only[Bool.not_true,cond_false]at h ⊢;unfold yac at h ⊢;cases hw:(yF a a.2.2.2.2.1).2
    ·rw[hw]at h; exact absurd (show(5:Int)=0 from h) (by decide)
    ·rw[hw]at h
     cases hp:ya (yZ a)
     ·have hc2:=yfJ a a.2.2.2.1 (yz a.2.2.2.2.1) [nth (yF a a.2.2.2.2.1).1 a.2.2.2.1 0]
      refine⟨trivial,hS,(show(yZ a).2.1=a.2.1 from yP hc2),?_⟩;show i64.wrap ((yZ a).2.2.2.2.1+1)=_;rw[show(yZ a).2.2.2.2.1=a.2.2.2.2.1 from ycL hc2,wr (by omega) (by omega)]
     ·rw[hp]at h; exact absurd (show(6:Int)=0 from h) (by decide)
   ·rw[hbr]at h; exact absurd (show(5:Int)=0 from h) (by decide)
  ·rw[hc]at h; exact absurd (show(2:Int)=0 from h) (by decide)
 ·rw[hd]at h; exact absurd (show(6:Int)=0 from h) (by decide)
theorem yVa {n:Nat} {a:dA} (h:ltb a.2.2.2.2.1 a.2.1.2=false):yee n a=(a,0):=by
 cases n
 ·rfl
 ·unfold yee; rw[h]; rfl
theorem yVR {a:dA} (h:(yas a).2=0):(yas a).1.2.1=a.2.1∧(yas a).1.2.2.2.2.1=0∧yd a.2.1=true:=by
 unfold yas at h ⊢;cases ha:yR a
 ·rw[ha]at h; exact absurd (show(1:Int)=0 from h) (by decide)
 rw[ha]at h;cases hd:ya a
 ·rw[hd]at h
  cases hc:(a.2.2.2.1== -1|| !((nth a.2.2.1 a.2.2.2.1 yf).2.2.1))
  ·rw[hc]at h
   cases hb:a.2.2.2.2.2.2.2.2.2.2.2
   ·rw[hb]at h
    cases hg:leb 59990 a.2.2.2.2.2.2.2.1
    ·have hm:=ycl (ym a)
     exact⟨(show(yj (ym a)).2.1=(yE (ym a)).2.1 from yP hm),(show(yj (ym a)).2.2.2.2.1=(yE (ym a)).2.2.2.2.1 from ycL hm),yd1 ha⟩
    ·rw[hg]at h; exact absurd (show(7:Int)=0 from h) (by decide)
   ·rw[hb]at h; exact absurd (show(5:Int)=0 from h) (by decide)
  ·rw[hc]at h; exact absurd (show(2:Int)=0 from h) (by decide)
 ·rw[hd]at h; exact absurd (show(6:Int)=0 from h) (by decide)
theorem yWL {a:dA} (h:yR a=true) (h2:a.2.2.2.1≠ -1):inb a.2.2.2.1 a.2.1.1.toNat=true:=by
 have:=yUe h;exact zj6.2 (by omega)
def yBV (lost:Int) (br:Bool) (S:Int) (i:Nat) (m:dM):Prop:=yD m=true∧(m.1.length:Int)=6+S∧(m.2.2.1=true→(i:Int)=lost∨br=true)
def yDo (lost:Int) (br:Bool) (S:Int) (l:List dM):Prop:= ∀i,i<l.length→yBV lost br S i (nth l i yf)
theorem yBe {lost S:Int} {br:Bool} {l:List dM} {i:Nat} {x:dM} (h:yDo lost br S l) (hx:i<l.length→yBV lost br S i x):yDo lost br S (l.set i x):=fun j hj=>by
 rw[List.length_set]at hj;by_cases e:j=i
 ·subst e
  rw[zkS,zkJ (by rw[List.length_set]; exact hj),List.getElem_set_self]; exact hx hj
 ·have:=h j hj
  rw[zkS,zkJ hj]at this;rw[zkS,zkJ (by rw[List.length_set]; exact hj),List.getElem_set_ne (fun e'=>e e'.symm)]; exact this
theorem yVL {a:dA}:yjf a=true↔yDo a.2.2.2.1 a.2.2.2.2.2.2.2.2.2.2.2 a.2.1.2 a.2.2.1∧(a.2.2.1.length:Int)=a.2.1.1:=by
 constructor
 ·intro h
  refine⟨fun i hi=>yV9 h hi,?_⟩;simp only[yjf,Bool.and_eq_true,beq_iff_eq]at h; exact h.2
 ·rintro⟨h1,h2⟩
  simp only[yjf,Bool.and_eq_true,beq_iff_eq,Bool.not_eq_true',List.any_eq_false,List.mem_range];refine⟨fun i hi=> ?_,h2⟩;obtain⟨g1,g2,g3⟩:=h1 i hi;unfold yfx;rw[g1,show(((nth a.2.2.1 i yf).1.length:Int) !=6+a.2.1.2)=false from bne_eq_false_iff_eq.2 g2];cases hf:(nth a.2.2.1 i yf).2.2.1
  ·simp
  ·rcases g3 hf with e | e
   ·rw[show((i:Int) !=a.2.2.2.1)=false from bne_eq_false_iff_eq.2 e]; simp
   ·rw[e]; simp
def fuz (a:dA):Int:=a.2.2.2.2.2.2.2.2.2.1
def yad (a:dA):Prop:=(yDo a.2.2.2.1 a.2.2.2.2.2.2.2.2.2.2.2 a.2.1.2 a.2.2.1∧(a.2.2.1.length:Int)=a.2.1.1)∧ -1≤fuz a∧fuz a≤1000
def yaO (a:dA):Prop:=yd a.2.1=true∧(1≤a.1∧a.1≤60000)∧yaH a.2.1 a.2.2.2.2.2.2.2.2.1=true∧(-1≤a.2.2.2.1∧a.2.2.2.1≤a.2.1.1-1)∧(0≤a.2.2.2.2.1∧a.2.2.2.2.1≤a.2.1.2)∧(a.2.2.2.1= -1→a.2.2.2.2.1=0) ∧ (0≤a.2.2.2.2.2.2.1∧a.2.2.2.2.2.2.1≤60000)∧(a.2.2.2.2.2.2.1≤a.2.2.2.2.2.1∧a.2.2.2.2.2.1≤60000)∧a.2.2.2.2.2.1≤a.2.2.2.2.2.2.1+4∧0≤a.2.2.2.2.2.2.2.1∧a.2.2.2.2.2.2.2.1≤60000
theorem yPL {a:dA}:yR a=true↔yaO a∧yad a:=by
 unfold yR yaO yad fuz;simp only[Bool.and_eq_true,zj7,yVL,Bool.not_eq_true',Bool.and_eq_false_iff,beq_eq_false_iff_ne,bne_eq_false_iff_eq];constructor
 ·rintro⟨h1,h2,h3,h4,h5,h6,h7,h8,h9,h10,h11,h12⟩
  exact⟨⟨h1,h2,h4,h5,h6,fun e=>h7.resolve_left (fun g=>g e),h8,h9,h10,h11.1,h11.2⟩,h3,h12⟩
 ·rintro⟨⟨h1,h2,h4,h5,h6,h7,h8,h9,h10,h11,h11'⟩,h3,h12⟩
  exact⟨h1,h2,h3,h4,h5,h6,(Decidable.em (a.2.2.2.1= -1)).elim (fun e=> .inr (h7 e)) (fun e=> .inl e),h8,h9,h10,⟨h11,h11'⟩,h12⟩
theorem yCC {a b:dA} (h:yp b=yp a) (ha:yaO a):yaO b:=by
 unfold yp at h;simp only[Prod.mk.injEq]at h;obtain⟨h1,h2,h3,h4,h5,h6,h7,h8,h9⟩:=h;unfold yaO at *;rw[h1,h2,h3,h4,h5,h6,h7,h8]; exact ha
theorem yXm {a b:dA} (h:yp b=yp a) (hl:b.2.2.1.length=a.2.2.1.length) (hm:yDo a.2.2.2.1 a.2.2.2.2.2.2.2.2.2.2.2 a.2.1.2 b.2.2.1) (hn:(a.2.2.1.length:Int)=a.2.1.1) (hf: -1≤fuz b∧fuz b≤1000):yad b:=by
 unfold yp at h;simp only[Prod.mk.injEq]at h;obtain⟨h1,h2,h3,h4,h5,h6,h7,h8,h9⟩:=h;unfold yad;rw[h2,h3,h9,hl]; exact⟨⟨hm,hn⟩,hf⟩
theorem yXP {a:dA} (h: -1≤fuz a∧fuz a≤1000): -1≤fuz (opA a).2∧fuz (opA a).2≤1000:=by
 unfold opA;cases ya a
 ·cases h0:(a.2.2.2.2.2.2.2.2.2.1==0)
  ·cases h1:ltb 0 a.2.2.2.2.2.2.2.2.2.1
   ·exact h
   ·have:=zka.1 h1
    unfold fuz at h;show -1≤i64.wrap (a.2.2.2.2.2.2.2.2.2.1-1)∧i64.wrap (a.2.2.2.2.2.2.2.2.2.1-1)≤1000;rw[wr (by omega) (by omega)]; omega
  ·show -1≤(-1:Int)∧(-1:Int)≤1000; omega
 ·exact h
theorem yF6 {a:dA} (h:yad a):yad (opA a).2:=yXm (yCW a) (by rw[yaE]) (by rw[yaE]; exact h.1.1) h.1.2 (yXP h.2)
theorem yIa {a:dA} {m:Int} {x:dM} (h:yad a) (hm:inb m a.2.2.1.length=true) (hx:yBV a.2.2.2.1 a.2.2.2.2.2.2.2.2.2.2.2 a.2.1.2 m.toNat (nth a.2.2.1 m yf)→yBV a.2.2.2.1 a.2.2.2.2.2.2.2.2.2.2.2 a.2.1.2 m.toNat x):yad (yjw a m x):=by
 have hm:=zj6.1 hm;refine⟨⟨yBe h.1.1 (fun hi=>hx ?_),by show((a.2.2.1.set m.toNat x).length:Int)=_; rw[List.length_set]; exact h.1.2⟩,h.2⟩;have:=h.1.1 m.toNat hi;rwa[Int.toNat_of_nonneg hm.1]at this
theorem yVK {lost S:Int} {br:Bool} {i:Nat} {m:dM} (n:Int) (s:List Int) (h:yBV lost br S i m):yBV lost br S i (yQ m n s).1 :=
 ⟨yUR n s h.1,by rw[(yuO m n s).1]; exact h.2.1,by rw[(yuO m n s).2]; exact h.2.2⟩
theorem yVJ {lost S:Int} {br:Bool} {i:Nat} {m:dM} (h:yBV lost br S i m):yBV lost br S i (yx m) :=
 ⟨yWE h.1,by rw[(yo9 m).1]; exact h.2.1,by rw[(yo9 m).2]; exact h.2.2⟩
theorem yzr {a:dA} {m n:Int} {s:List Int} (h:yad a) (hm:inb m a.2.2.1.length=true):yad (ybk a m n s):=by
 unfold ybk;cases(nth a.2.2.1 m yf).2.2.1
 ·cases(opA a).1
  ·exact yF6 h
  ·exact yIa (yF6 h) (by rw[yaE]; exact hm) (fun g=>by rw[yaE]at g; exact yVK _ _ g)
 ·exact h
theorem yUq {a:dA} {i:Nat} (h:yad a) (hi:i<a.2.2.1.length):yad (yS a i):=by
 unfold yS;cases(nth a.2.2.1 i yf).2.2.1
 ·cases(opA a).1
  ·exact yF6 h
  ·exact yIa (yF6 h) (by rw[yaE]; exact zkR hi) (fun g=>by rw[yaE]at g; exact yVJ g)
 ·exact h
theorem yiK {P:dA→Prop} {one:dA→Nat→dA} (hl: ∀a i,(one a i).2.2.1.length=a.2.2.1.length) (ho: ∀a i,P a→i<a.2.2.1.length→P (one a i)): ∀(n:Nat) (a:dA),n≤a.2.2.1.length→P a→P ((List.range n).foldl one a)
 | 0,_,_,h=>h
 | n+1,a,hn,h=>by
  rw[List.range_succ,List.foldl_append];exact ho _ _ (yiK hl ho n a (by omega) h) (by rw[yiL hl]; exact hn)
theorem ygV {a:dA} (h:yad a):yad (yc a):=yiK (P:=yad) (one:=yS) yjA (fun _ _=>yUq) _ a (Nat.le_refl _) h
theorem yur {a:dA} (h:yad a):yad (yj a) :=ygV (yiK (P:=yad) (one:=yW) (fun _ _=>ymo _ _ _ _) (fun _ _ h hi=>yzr h (zkR hi)) _ (yE a) (Nat.le_refl _) h)
theorem yM0 {a:dA} (h:yad a):yad (yi a):=by
 unfold yi;cases ya (yc a)
 ·exact yur (a:=yH (yc a)) (ygV h)
 ·exact ygV h
def ya1 (a:dA):Prop:=ya a=false∧fuz a= -1
theorem yVm {a:dA} (h:ya1 a):opA a=(true,a):=by
 unfold opA;rw[h.1,show a.2.2.2.2.2.2.2.2.2.1= -1 from h.2]; rfl
theorem yDl {a:dA} (h:ya1 a) (m n:Int) (s:List Int):ya1 (ybk a m n s):=by
 unfold ybk;rw[yVm h];cases(nth a.2.2.1 m yf).2.2.1<;>exact h
theorem yUl {a:dA} (h:ya1 a) (i:Nat):ya1 (yS a i):=by
 unfold yS;rw[yVm h];cases(nth a.2.2.1 i yf).2.2.1<;>exact h
theorem yue {a:dA} (h:ya1 a):ya1 (yc a):=yiK (P:=ya1) (one:=yS) yjA (fun _ i h _=>yUl h i) _ a (Nat.le_refl _) h
theorem yud {a:dA} (h:ya1 a):ya1 (yj a) :=yue (yiK (P:=ya1) (one:=yW) (fun _ _=>ymo _ _ _ _) (fun _ _ h _=>yDl h _ _ _) _ (yE a) (Nat.le_refl _) h)
theorem yDe {a:dA} (h:ya1 a):yi a=yj (yH (yc a)):=by
 unfold yi;rw[(yue h).1]; rfl
theorem yMU {a:dA} (h:ya1 a):ya1 (yi a):=by
 rw[yDe h]; exact yud (a:=yH (yc a)) (yue h)
def Wk (k:Int) (a:dA):Prop:=yaO a∧yad a∧ya1 a∧a.2.2.2.2.2.2.2.2.2.2.2=false∧a.2.2.2.2.2.2.2.1≤k
theorem yXW {k:Int} {a:dA} (h:Wk k a):yR a=true:=yPL.2 ⟨h.1,h.2.1⟩
theorem ypc {k j:Int} {a:dA} (h:Wk k a) (hj:k≤j):Wk j a:=⟨h.1,h.2.1,h.2.2.1,h.2.2.2.1,Int.le_trans h.2.2.2.2 hj⟩
theorem yF9 {k:Int} {a b:dA} (hc:yp b=yp a) (hk:yad b) (hf:ya1 b) (h:Wk k a):Wk k b:=by
 refine⟨yCC hc h.1,hk,hf,?_⟩;unfold yp at hc;simp only[Prod.mk.injEq]at hc;obtain⟨_,_,_,_,_,_,h7,_,h9⟩:=hc;rw[h7,h9]; exact h.2.2.2
theorem yXy {k:Int} {a:dA} (h:Wk k a):Wk k (yc a):=yF9 (yax _) (ygV h.2.1) (yue h.2.2.1) h
theorem yW5 {k:Int} {a:dA} (h:Wk k a) (hk:k+1≤60000):Wk (k+1) (yE a):=by
 obtain⟨⟨c1,c2,c3,c4,c5,c6,c7,c8,c9,c10,c11⟩,h2,h3,h4,h5⟩:=h;have e:i64.wrap (a.2.2.2.2.2.2.2.1+1)=a.2.2.2.2.2.2.2.1+1:=wr (by omega) (by omega);refine⟨⟨c1,c2,c3,c4,c5,c6,c7,c8,c9,?_,?_⟩,h2,h3,h4,?_⟩
 ·show 0≤i64.wrap (a.2.2.2.2.2.2.2.1+1); omega
 ·show i64.wrap (a.2.2.2.2.2.2.2.1+1)≤_; omega
 ·show i64.wrap (a.2.2.2.2.2.2.2.1+1)≤_; omega
theorem yVr {k:Int} {a:dA} (h:Wk k a) (hk:k+1≤60000):Wk (k+1) (yj a):=yF9 (ycl _) (yur h.2.1) (yud h.2.2.1) (yW5 h hk)
theorem yWt {k:Int} {a:dA} (h:Wk k a):Wk k (yH a):=by
 obtain⟨⟨c1,c2,c3,c4,c5,c6,c7,c8,c9,c10,c11⟩,h2,h3,h4,h5⟩:=h;refine⟨⟨c1,c2,c3,c4,c5,c6,⟨?_,?_⟩,⟨Int.le_refl _,c8.2⟩,?_,c10,c11⟩,h2,h3,h4,h5⟩
 ·show 0≤a.2.2.2.2.2.1; omega
 ·show a.2.2.2.2.2.1≤60000; omega
 ·show a.2.2.2.2.2.1≤a.2.2.2.2.2.1+4; omega
theorem yW3 {k:Int} {a:dA} (h:Wk k a) (hk:k+1≤60000):Wk (k+1) (yi a):=by
 rw[yDe h.2.2.1]; exact yVr (yWt (yXy h)) hk
theorem yXx {k m:Int} {a:dA} (h:Wk k a) (hl:a.2.2.2.1= -1) (hm:inb m a.2.2.1.length=true) (hk:k+1≤60000):Wk (k+1) (yap a m):=by
 have hmi:=zj6.1 hm
 have hw:Wk k (yA a m):=by
  obtain⟨⟨c1,c2,c3,c4,c5,c6,c7,c8,c9,c10,c11⟩,⟨⟨g1,g2⟩,g3⟩,f,b,t⟩:=h;refine⟨⟨c1,c2,c3,⟨?_,?_⟩,⟨Int.le_refl _,by show(0:Int)≤a.2.1.2; omega⟩,fun e=>rfl,c7,c8,c9,c10,c11⟩,⟨⟨?_,?_⟩,g3⟩,f,b,t⟩
  ·show -1≤m; omega
  ·show m≤a.2.1.1-1; omega
  ·show yDo m a.2.2.2.2.2.2.2.2.2.2.2 a.2.1.2 (a.2.2.1.set m.toNat (ydr (nth a.2.2.1 m yf)))
   refine yBe (fun i hi=> ?_) (fun hi=> ?_)
   ·obtain⟨e1,e2,e3⟩:=g1 i hi
    refine⟨e1,e2,fun e=> ?_⟩;rcases e3 e with e | e
    ·omega
    ·exact .inr e
   ·have:=g1 m.toNat hi
    rw[Int.toNat_of_nonneg hmi.1]at this;exact⟨yVf this.1,this.2.1,fun _=> .inl (Int.toNat_of_nonneg hmi.1)⟩
  ·show((a.2.2.1.set m.toNat (ydr (nth a.2.2.1 m yf))).length:Int)=a.2.1.1
   rw[List.length_set]; exact g2
 unfold yap;rw[show(a.2.2.2.1== -1)=true from beq_iff_eq.2 hl,h.2.2.1.1,h.2.2.2.1];cases ltb a.2.2.2.2.2.2.2.1 60000
 ·exact ypc hw (by omega)
 ·exact yVr hw hk
theorem yd4 {a b:dA} (h:yp a=yp b):a.2.2.2.1=b.2.2.2.1:=congrArg (fun x=>x.2.2.1) h
theorem yFL (s:dS):yao (yk s)=true:=by
 unfold yk;cases h:yG s
 ·rfl
 ·unfold yG at h
  simp only[ycN]at h;cases hg:yd (s.2.2.2.1,s.2.2.2.2.1)
  ·rw[hg]at h; cases h
  have hge:=yl.1 hg;simp only at hge;rw[hg,wq (s.2.2.2.1-1) (by omega) (by omega)]at h;cases h2:(leb 1 s.1&&leb s.1 60000)
  ·rw[h2]at h; cases h
  cases h3:(leb 0 s.2.1&&leb s.2.1 60000)
  ·rw[h2,h3]at h; cases h
  cases h4:(leb 0 s.2.2.1&&leb s.2.2.1 (s.2.2.2.1-1))
  ·rw[h2,h3,h4]at h; cases h
  cases h5:(leb 0 s.2.2.2.2.2.1&&leb s.2.2.2.2.2.1 60000)
  ·rw[h2,h3,h4,h5]at h; cases h
  cases h6:(leb (-1) s.2.2.2.2.2.2.1&&leb s.2.2.2.2.2.2.1 (s.2.2.2.1-1))
  ·rw[h2,h3,h4,h5,h6]at h; cases h
  cases h7:(leb 0 s.2.2.2.2.2.2.2&&leb s.2.2.2.2.2.2.2 s.2.2.2.2.1)
  ·rw[h2,h3,h4,h5,h6,h7]at h; cases h
  simp only[Bool.and_eq_true,zj7]at h2 h3 h4 h5 h6 h7;rw[yBz];refine⟨by show(9:Nat)≤12; omega,?_⟩;have hw:i64.wrap (s.2.2.2.2.2.2.1+1)=s.2.2.2.2.2.2.1+1:=wr (by omega) (by omega);simp only[Bool.not_true,cond_false,hw,List.mem_cons,List.not_mem_nil,or_false]
  rintro x (rfl | rfl | rfl | rfl | rfl | rfl | rfl | rfl | rfl)<;>omega
theorem yiR {g:dG} (id i:Int) (hg:yd g=true):yD (yM id g i)=true∧((yM id g i).1.length:Int)=6+g.2∧(yM id g i).2=([],false,[]):=by
 have hge:=yl.1 hg
 have hm:ybd (6+g.2)=(List.replicate (6+g.2).toNat [],[],false,[]):=by
  unfold ybd;rw[zk2 (show 1≤6+g.2 by omega),zk2 (show 6+g.2≤20 by omega)]; rfl
 have key: ∀(l:List Nat) (m:dM),m.1.all yao=true∧m.2=([],false,[])→(l.foldl ymh m).1.all yao=true∧(l.foldl ymh m).2=([],false,[]):=by
  intro l
  induction l with
  | nil=>intro m h; exact h
  | cons x t ih =>
   intro m h;refine ih _ ⟨?_,h.2⟩;rw[List.all_eq_true];intro y hy;rcases List.mem_or_eq_of_mem_set hy with h1 | rfl
   ·exact List.all_eq_true.1 h.1 y h1
   ·rfl
 have ht:(yg9 id g i).1.all yao=true∧(yg9 id g i).2=([],false,[]):=by
  unfold yg9;rw[hm];refine⟨?_,rfl⟩;rw[List.all_eq_true];intro y hy;rcases List.mem_or_eq_of_mem_set hy with h1 | rfl
  ·rw[List.eq_of_mem_replicate h1]; rfl
  ·exact yFL _
 have hl:((yM id g i).1.length:Int)=6+g.2:=by
  unfold yM;rw[yIc];unfold yg9;rw[hm];show(((List.replicate (6+g.2).toNat ([]:List Int)).set 0 _).length:Int)=_;rw[List.length_set,List.length_replicate]; omega
 obtain⟨h1,h2⟩:=key (List.range g.2.toNat) _ ht;refine⟨yzs h1 ?_ ?_ ?_ ?_ ?_,hl,h2⟩
 ·show List.all ((yM id g i).2).1 _=true
  rw[show(yM id g i).2=([],false,[])from h2]; rfl
 ·show ynS _ ((yM id g i).2).2.2=true
  rw[show(yM id g i).2=([],false,[])from h2,yEB];exact⟨fun x hx=>absurd hx List.not_mem_nil,List.Pairwise.nil⟩
 ·show 1≤(yM id g i).1.length; omega
 ·show(yM id g i).1.length≤20; omega
 ·show((yM id g i).2).1.length≤60
  rw[show(yM id g i).2=([],false,[])from h2]; exact Nat.zero_le _
theorem ytJ {id:Int} {g:dG} (hg:yd g=true) (h1:1≤id) (h2:id≤60000):ydk id g=(id,g,(List.range g.1.toNat).map (fun(i:Nat)=>yM id g i),-1,0,0,0,0,[],-1,false,false):=by
 unfold ydk;rw[hg,zk2 h1,zk2 h2]
 have: ∀(n:Nat),(List.range n).foldl (fun a (i:Nat)=>yyl a (yM id g i)) (yyp id g)=(id,g,(List.range n).map (fun(i:Nat)=>yM id g i),-1,0,0,0,0,[],-1,false,false):=by
  intro n
  induction n with
  | zero=>rfl
  | succ n ih=>rw[List.range_succ,List.foldl_append,ih,List.map_append]; rfl
 exact this _
theorem yWs {id:Int} {g:dG} (hg:yd g=true) (h1:1≤id) (h2:id≤60000):Wk 0 (ydk id g):=by
 have hge:=yl.1 hg;rw[ytJ hg h1 h2];have hl:((List.range g.1.toNat).map (fun(i:Nat)=>yM id g i)).length=g.1.toNat:=by rw[List.length_map,List.length_range]
 refine⟨⟨hg,⟨h1,h2⟩,?_,⟨Int.le_refl _,?_⟩,⟨Int.le_refl _,?_⟩,fun _=>rfl,?_,?_,?_,?_,?_⟩,⟨⟨fun i hi=> ?_,?_⟩,?_,?_⟩,⟨rfl,rfl⟩,rfl,Int.le_refl _⟩
 ·rfl
 ·show(-1:Int)≤g.1-1; omega
 ·show(0:Int)≤g.2; omega
 ·show(0:Int)≤0∧(0:Int)≤60000; omega
 ·show(0:Int)≤0∧(0:Int)≤60000; omega
 ·show(0:Int)≤0+4; omega
 ·show(0:Int)≤0; omega
 ·show(0:Int)≤60000; omega
 ·have hi':i<((List.range g.1.toNat).map (fun(i:Nat)=>yM id g i)).length:=hi
  show yBV (-1) false g.2 i (nth ((List.range g.1.toNat).map (fun(i:Nat)=>yM id g i)) i yf);rw[zkS,zkJ hi',List.getElem_map,List.getElem_range];obtain⟨k1,k2,k3⟩:=yiR id i hg;refine⟨k1,k2,fun e=> ?_⟩;rw[show(yM id g i).2=([],false,[])from k3]at e;cases e
 ·show(((List.range g.1.toNat).map (fun(i:Nat)=>yM id g i)).length:Int)=g.1
  rw[hl]; omega
 ·show(-1:Int)≤ -1; omega
 ·show(-1:Int)≤1000; omega
def yR1:Code:=(f192.body).getD .skip
def ySu:Env:=zkw TT [] []
theorem yIO:FrOk prog ⟨ySu,26,fun _=>none⟩ yR1:=zkA mixed ye trivial
abbrev yuW:List Par:= [.pt tA (.pr .fz (.pr (.pr .fz .fz) (.pr (.ow (.pr (.ow (.ow .fz)) (.pr (.ow (.pr .fz (.ow .fz))) (.pr .fz (.ow .fz))))) (.pr .fz (.pr .fz (.pr .fz (.pr .fz (.pr .fz (.pr (.ow (.pr .fz (.ow .fz))) (.pr .fz (.pr .fz .fz)))))))))))]
abbrev yve:List OT:= [⟨false,tB,.fz⟩]
def yBi (a0:dA):Option (zaY yve×zak yuW) :=bif(a0.2.2.2.2.2.2.2.2.2.1==0)then some ((false,()),((a0.1,a0.2.1,a0.2.2.1,a0.2.2.2.1,a0.2.2.2.2.1,a0.2.2.2.2.2.1,a0.2.2.2.2.2.2.1,a0.2.2.2.2.2.2.2.1,a0.2.2.2.2.2.2.2.2.1,(-1),true,a0.2.2.2.2.2.2.2.2.2.2.2),())) else bif(ltb 0 a0.2.2.2.2.2.2.2.2.2.1)then some ((true,()),((a0.1,a0.2.1,a0.2.2.1,a0.2.2.2.1,a0.2.2.2.2.1,a0.2.2.2.2.2.1,a0.2.2.2.2.2.2.1,a0.2.2.2.2.2.2.2.1,a0.2.2.2.2.2.2.2.2.1,(i64.wrap (a0.2.2.2.2.2.2.2.2.2.1-1)),a0.2.2.2.2.2.2.2.2.2.2),())) else some ((true,()),(a0,()))
theorem yNF:ConOk prog 192 ⟨yuW,yve,fun x=>yBi x.1⟩:=zkI (yIO) func192 ntmps192.symm fun x=>by kernel_rfl
def yfX (a0:dA):Bool×dA :=bif(a0.2.2.2.2.2.2.2.2.2.1==0)then (false,(a0.1,a0.2.1,a0.2.2.1,a0.2.2.2.1,a0.2.2.2.2.1,a0.2.2.2.2.2.1,a0.2.2.2.2.2.2.1,a0.2.2.2.2.2.2.2.1,a0.2.2.2.2.2.2.2.2.1,(-1),true,a0.2.2.2.2.2.2.2.2.2.2.2)) else bif(ltb 0 a0.2.2.2.2.2.2.2.2.2.1)then (true,(a0.1,a0.2.1,a0.2.2.1,a0.2.2.2.1,a0.2.2.2.2.1,a0.2.2.2.2.2.1,a0.2.2.2.2.2.2.1,a0.2.2.2.2.2.2.2.1,a0.2.2.2.2.2.2.2.2.1,(i64.wrap (a0.2.2.2.2.2.2.2.2.2.1-1)),a0.2.2.2.2.2.2.2.2.2.2)) else (true,a0)
def yqz:Con:=⟨yuW,yve,fun x=>(fun n=>some ((n.1,()),(n.2,()))) (yfX x.1)⟩
theorem yP1 (a0:dA):yBi a0=(fun n=>some ((n.1,()),(n.2,()))) (yfX a0):=zkV (p:=fun(n:Bool×dA)=>((n.1,()),(n.2,()))) (zkG (p:=fun(n:Bool×dA)=>((n.1,()),(n.2,()))) rfl (zkG (p:=fun(n:Bool×dA)=>((n.1,()),(n.2,()))) rfl rfl))
theorem yCO:ConOk prog 192 yqz:=(yNF).mono (fun x r _ h=>(yP1 x.1).trans h)
theorem yMY {a:dA} (h:ya a=false):yfX a=opA a:=by
 unfold yfX opA;rw[h];cases(a.2.2.2.2.2.2.2.2.2.1==0)
 ·cases ltb 0 a.2.2.2.2.2.2.2.2.2.1
  ·rfl
  ·show(true,_)=(true,yTM a _ false)
   unfold yTM;rw[show a.2.2.2.2.2.2.2.2.2.2=(ya a,a.2.2.2.2.2.2.2.2.2.2.2)from rfl,h]
 ·rfl
def yGa:Code:=(f223.body).getD .skip
def yGl:Env:=zkw TT [] []
theorem yDj:FrOk prog ⟨yGl,7,fun _=>none⟩ yGa:=zkA mixed ye trivial
abbrev ymE:List Par:= [.rd tI,.rp tI]
abbrev ymG:List OT:= [⟨false,tB,.fz⟩]
def yrS (a0 a1:Int):Option (zaY ymG×zak ymE) :=some (((a0==a1),()),())
theorem yEe:ConOk prog 223 ⟨ymE,ymG,fun x=>yrS x.1 x.2.1⟩:=zkI (yDj) func223 ntmps223.symm fun x=>by kernel_rfl
def ycU (a0 a1:Int):Bool :=(a0==a1)
def yjD:Con:=⟨ymE,ymG,fun x=>(fun n=>some ((n,()),())) (ycU x.1 x.2.1)⟩
theorem yFz (a0 a1:Int):yrS a0 a1=(fun n=>some ((n,()),())) (ycU a0 a1):=zkV (p:=fun(n:Bool)=>((n,()),())) rfl
theorem yuz:ConOk prog 223 yjD:=(yEe).mono (fun x r _ h=>(yFz x.1 x.2.1).trans h)
def ydB:Code:=(f244.body).getD .skip
def yhe:Env:=zkw TT [(223,yjD)] []
theorem yxl:FrOk prog ⟨yhe,19,fun _=>none⟩ ydB:=zkA mixed ye ⟨yuz,trivial⟩
def ykL:Nat→Option Seg:=fun _=>none
def yaf:Shape:=⟨[(0,false,[.br tI]),(1,false,[.fx 223 tI]),(7,false,[.int .i64]),(8,false,[.int .i64])],[],[]⟩
def yaW:Shape:=⟨[(0,false,[.br tI]),(1,false,[.fx 223 tI]),(7,false,[.int .i64]),(8,false,[.ci .i64 0])],[],[]⟩
def yaU:Shape:=⟨[],[],[]⟩
def yaY:Shape:=⟨[(4,false,[.int .i64])],[],[]⟩
abbrev yem (v0:List Int) (v1 v2 v3:Int):(yaf).X:=(((v0,()),(v1,()),(v2,()),(v3,()),()),(),())
abbrev yvR (v0:List Int) (v1 v2:Int):(yaW).X:=(((v0,()),(v1,()),(v2,()),((),()),()),(),())
abbrev yvP  :(yaU).X:=((),(),())
abbrev yjh (v0:Int):(yaY).X:=(((v0,()),()),(),())
def yet (v0:List Int) (v1 v2 v3:Int):Option ((yaf).X ⊕ ((yaU).X ⊕ (yaY).X)) :=bif(ltb v3 v2)then bif(inb v3 v0.length)then let r2:=ycU (nth v0 v3 0) v1;bif r2 then some (.inr (.inr (((v3,()),()),(),()))) else some (.inl (((v0,()),(v1,()),(v2,()),((i64.wrap (v3+1)),()),()),(),())) else none else some (.inr (.inl ((),(),())))
def yar (x:(yaf).X):=yet x.1.1.1 x.1.2.1.1 x.1.2.2.1.1 x.1.2.2.2.1.1
def yjb (x:(yaW).X):(yaf).X:=(((x.1.1.1,()),(x.1.2.1.1,()),(x.1.2.2.1.1,()),(0,()),()),(),())
def ykw:Code:=(zd7 ydB 64 52).getD .skip
theorem yxf:zd7 ydB 64 13=some (.block 0 (.loop ykw)):=by kernel_rfl
theorem yxs (x:(yaf).X):zhu ⟨yhe,19,ykL⟩ 0 ykw 52 yaf yaU yaY x=yar x:=by kernel_rfl
def yjd (x:(yaW).X):Nat:=18446744073709551616
def yeU (x:(yaW).X):Option ((yaU).X ⊕ (yaY).X):=zF yar (yjd x) (yjb x)
def yjy:Seg:=⟨yaW,yaU,yaY,yeU⟩
def yxE:Nat→Option Seg:=fun q=>bif Nat.beq q 13 then some yjy else ykL q
theorem yxm:FrOk prog ⟨yhe,19,yxE⟩ ydB:=(yxl).loop (sg:=yjy) yaf yjb (by decide) yxf yar yjd (by decide) (fun _=>rfl) (fun x r _ h=>h) yxs
abbrev ydD:List Par:= [.rd tL,.fn 223 tI]
abbrev yhg:List OT:= [⟨false,tI,.fz⟩]
def yfL (a0:List Int) (a1:Int):Option (zaY yhg×zak ydD) :=zkt (yeU (((a0,()),(a1,()),((a0.length:Int),()),((),()),()),(),())) (fun y2 =>some (((-1),()),())) (fun y2 =>some ((y2.1.1.1,()),()))
theorem yzC:ConOk prog 244 ⟨ydD,yhg,fun x=>yfL x.1 x.2.1⟩:=zkI (yxm) func244 ntmps244.symm fun x=>by kernel_rfl
def ybZ (a0:List Int) (a1:Int):Int:=yau (fun e:Int=>e==a1) a0
theorem yAg (a0:List Int) (a1:Int) (hk:zjx ydD (a0,a1,())):yfL a0 a1=(fun n=>some ((n,()),())) (ybZ a0 a1):=by
 have hb:a0.length*8≤2^47:=hk.1.1
 have h1:yeU (yvR a0 a1 a0.length)=some (bif leb 0 (yau (fun e:Int=>e==a1) a0)then .inr (yjh (yau (fun e:Int=>e==a1) a0))else .inl yvP) :=
  yFg (step:=yar) a0 0 (fun i=>yem a0 a1 a0.length i) (fun e:Int=>e==a1) (fun i=> .inr (yjh i)) _ (fun i hi=>by
   simp only[yar,yem,yet,zky (show(i:Int)<a0.length by omega),cond_true,wq ((i:Int)+1) (by omega) (by omega),Int.natCast_add,Int.natCast_one,Int.toNat_natCast,zkR hi,zkS,ycU]
   cases(a0.getD i 0==a1)<;>rfl) (by simp only[yar,yem,yet,zk3 (Int.le_refl _),cond_false]) _ (by show _<18446744073709551616; omega)
 unfold yfL ybZ;rw[h1];cases h:leb 0 (yau (fun e:Int=>e==a1) a0)
 ·rw[yF5 h]; rfl
 ·rfl
def yk6:Con:=⟨ydD,yhg,fun x=>(fun n=>some ((n,()),())) (ybZ x.1 x.2.1)⟩
theorem yAj:ConOk prog 244 yk6:=(yzC).mono (fun x r hk h=>(yAg x.1 x.2.1 hk).trans h)
end
end Go.Tf
