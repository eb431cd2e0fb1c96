/- Functions of the program, and what they come to. -/
import Derived.Test.YtolmneojjjpnjaaGreatBuiltTornTt
namespace Go.Tf
noncomputable section
open Go.Proofs Go.Proofs.Tryz IntKind
set_option synthInstance.maxHeartbeats 400000
set_option synthInstance.maxSize 10000
set_option linter.unusedVariables false
set_option linter.unusedSimpArgs false
set_option maxRecDepth 100000
def y38:Code:=(f14.body).getD .skip
def y39:Env:=zkw TT [] []
theorem y1h:FrOk prog ⟨y39,6,fun _=>none⟩ y38:=zkA mixed yf trivial
abbrev yIZ:List Par:= [.rd tYs]
abbrev yI0:List OT:= [⟨false,tB,.fz⟩]
def yMV (a0:List Int):Option (zaY yI0×zak yIZ) :=some (((ltb 1048576 (a0.length:Int)),()),())
theorem y20:ConOk prog 14 ⟨yIZ,yI0,fun x=>yMV x.1⟩:=zkI (y1h) func14 ntmps14.symm fun x=>by kernel_rfl
def yCV (a0:List Int):Bool :=(ltb 1048576 (a0.length:Int))
def yLe:Con:=⟨yIZ,yI0,fun x=>(fun n=>some ((n,()),())) (yCV x.1)⟩
theorem y3x (a0:List Int):yMV a0=(fun n=>some ((n,()),())) (yCV a0):=zkV (p:=fun(n:Bool)=>((n,()),())) rfl
theorem y3y:ConOk prog 14 yLe:=(y20).mono (fun x r _ h=>(y3x x.1).trans h)
def yan {α:Type} (p:α→Bool) (l:List α):Int:=bif l.any p then((l.takeWhile (fun x=> !p x)).length:Int)else -1
theorem yZV {α:Type} (p:α→Bool):yan p []= -1:=rfl
theorem yCT {α:Type} (p:α→Bool) (x:α) (l:List α):yan p (x::l)=bif p x then 0 else bif leb 0 (yan p l)then yan p l+1 else -1:=by
 unfold yan;rw[List.any_cons,List.takeWhile_cons];cases p x
 ·cases l.any p
  ·rfl
  ·simp only[Bool.false_or,Bool.not_false,if_true,cond_true,cond_false,List.length_cons]
   rw[zk2 (show(0:Int)≤((l.takeWhile (fun x=> !p x)).length:Int)by omega),cond_true]; omega
 ·simp
theorem yn9 {α:Type} {p:α→Bool} {d:α}: ∀{l:List α},leb 0 (yan p l)=true→inb (yan p l) l.length=true∧p (nth l (yan p l) d)=true
 | [],h=>by rw[yZV]at h; cases h
 | x::l,h=>by
  rw[yCT]at h ⊢;cases hx:p x
  ·rw[hx]at h
   cases hl:leb 0 (yan p l)
   ·rw[hl]at h; cases h
   ·obtain⟨h1,h2⟩:=yn9 (d:=d) hl
    have h3:=zj6.1 h1;have h4:=zj7.1 hl;simp only[cond_false,cond_true,List.length_cons];refine⟨zj6.2 (by omega),?_⟩;unfold nth at h2 ⊢;rw[show(yan p l+1).toNat=(yan p l).toNat+1 by omega,List.getD_cons_succ];exact h2
  ·simp only[cond_true,List.length_cons]
   refine⟨zj6.2 (by omega),?_⟩;exact hx
theorem yL0 {A B α:Type} {step:A→Option (A ⊕ B)} (l:List α) (d:α) (f:Nat→A) (p:α→Bool) (b:Int→B) (c:B)
  (h: ∀i,i<l.length→step (f i)=some (bif p (l.getD i d)then .inr (b i)else .inl (f (i+1)))) (e:step (f l.length)=some (.inr c)) (fuel:Nat) (hf:l.length<fuel) :
  zF step fuel (f 0)=some (bif leb 0 (yan p l)then b (yan p l)else c):=by
 have: ∀(t q:List α) (fuel:Nat),q++t=l→t.length<fuel→zF step fuel (f q.length)=some (bif leb 0 (yan p t)then b (q.length+yan p t)else c):=by
  intro t
  induction t with
  | nil =>
   intro q fuel hq hf;obtain⟨fuel,rfl⟩: ∃m,fuel=m+1:=⟨fuel-1,by omega⟩;rw[List.append_nil]at hq;subst hq;simp only[zF,e]; rfl
  | cons x t ih =>
   intro q fuel hq hf;obtain⟨fuel,rfl⟩: ∃m,fuel=m+1:=⟨fuel-1,by omega⟩
   have hx:l.getD q.length d=x:=by
    subst hq;rw[zkJ (by simp)]; simp
   have hs:=h q.length (by rw[← hq]; simp);rw[hx]at hs;rw[yCT];cases hp:p x
   ·rw[hp]at hs
    have:=ih (q++ [x]) fuel (by rw[← hq]; simp) (by simp at hf; omega);simp only[List.length_append,List.length_cons,List.length_nil]at this;simp only[zF,hs,cond_false];rw[show q.length+1=q.length+(0+1)by omega,this];cases hl:leb 0 (yan p t)
    ·rfl
    ·have:=zj7.1 hl
     rw[cond_true,cond_true,zk2 (show 0≤yan p t+1 by omega),cond_true];congr 2; omega
   ·rw[hp]at hs
    simp only[zF,hs,cond_true];rw[zk2 (Int.le_refl 0),cond_true,Int.add_zero]
 have:=this l [] fuel rfl hf;simpa using this
theorem ypv {α β:Type} (f:α→β): ∀(l:List α) (s:List β),l.foldl (fun s i=>s++ [f i]) s=s++l.map f
 | [],s=>by simp
 | x::l,s=>by rw[List.foldl_cons,ypv f l]; simp
theorem yxW {α:Type} (l:List α):l.foldl (fun s i=>s++ [i]) []=l:=by
 have:=ypv id l [];simpa using this
theorem y5d {α:Type} (l:List α) (d:α) {i:Nat} (h:i<l.length):l.take i++ [nth l i d]=l.take (i+1):=by rw[zkS,zkJ h,List.take_append_getElem h]
def ycP (e:dW) (s:Bool×List dW) (x:dW):Bool×List dW:=(s.1||leb e.1 x.1,(bif !s.1&&leb e.1 x.1 then s.2++ [e]else s.2)++(bif x.1 !=e.1 then[x]else[]))
def yMI (l:List dW) (e:dW):List dW:=bif(l.foldl (ycP e) (false,[])).1 then(l.foldl (ycP e) (false,[])).2 else(l.foldl (ycP e) (false,[])).2++ [e]
def yyt (a:dA) (l:List dW):dA:=(a.1,a.2.1,a.2.2.1,a.2.2.2.1,a.2.2.2.2.1,a.2.2.2.2.2.1,a.2.2.2.2.2.2.1,a.2.2.2.2.2.2.2.1,l,a.2.2.2.2.2.2.2.2.2)
def y67 (a:dA):dA:=(a.1,a.2.1,a.2.2.1,a.2.2.2.1,a.2.2.2.2.1,a.2.2.2.2.2.1,a.2.2.2.2.2.2.1,a.2.2.2.2.2.2.2.1,a.2.2.2.2.2.2.2.2.1,-1,true,a.2.2.2.2.2.2.2.2.2.2.2)
abbrev yc:dM:=([],[],false,[])
def isW (x:Int):Bool:=leb 0 x&&leb x 65535
def yaB (s:List Int):Bool:=leb (s.length:Int) 12&&s.all isW
theorem ytc {x:Int}:isW x=true↔0≤x∧x≤65535:=by simp[isW,zj7]
theorem yzK {s:List Int}:yaB s=true↔s.length≤12∧ ∀x∈s,0≤x∧x≤65535:=by
 simp only[yaB,Bool.and_eq_true,zj7,List.all_eq_true,ytc];constructor
 ·rintro⟨h1,h2⟩; exact⟨by omega,h2⟩
 ·rintro⟨h1,h2⟩; exact⟨by omega,h2⟩
theorem y3F: ∀{l:List Int},l.Pairwise (· < ·)↔ ∀i,i+1<l.length→l.getD i 0<l.getD (i+1) 0
 | []=>by simp
 | [x]=>by simp
 | x::y::l=>by
  have ih:=y3F (l:=y::l);constructor
  ·intro h i hi
   cases h with
   | cons h1 h2 =>
    cases i with
    | zero=>exact h1 y List.mem_cons_self
    | succ i=>exact ih.1 h2 i (by simpa using hi)
  ·intro h
   have h2:(y::l).Pairwise (· < ·):=ih.2 fun i hi=>h (i+1) (by simpa using hi)
   refine .cons (fun z hz=> ?_) h2;have h3:x<y:=h 0 (by simp);rcases List.mem_cons.1 hz with rfl | hz
   ·exact h3
   ·cases h2 with
    | cons h4 _=>exact Int.lt_trans h3 (h4 z hz)
def ypr (n:Nat) (l:List Int):Bool:=l.all (fun x=>inb x n)&&decide (l.Pairwise (· < ·))
def ys0 (n:Nat) (w:dW):Bool:=inb w.1 n&&yaB w.2
def yx (m:dM):Bool:=m.1.all yaB&&m.2.1.all (ys0 m.1.length)&&ypr m.1.length m.2.2.2&&leb 1 (m.1.length:Int)&&leb (m.1.length:Int) 20&&leb (m.2.1.length:Int) 60
def yF1 (n:Nat) (l:List Int) (i:Nat):Bool:= !(inb (l.getD i 0) n)||(decide (0<i)&&leb (l.getD i 0) (l.getD (i-1) 0))
theorem yZH (n:Nat) (l:List Int):(List.range l.length).any (yF1 n l)= !(ypr n l):=by
 rw[Bool.eq_iff_iff,List.any_eq_true,Bool.not_eq_true',ypr,Bool.and_eq_false_iff,decide_eq_false_iff_not,y3F,List.all_eq_false];simp only[List.mem_range,yF1,Bool.or_eq_true,Bool.not_eq_true',Bool.and_eq_true,decide_eq_true_eq,zj7];constructor
 ·rintro⟨i,hi,h | ⟨h1,h2⟩⟩
  ·exact .inl ⟨l[i],List.getElem_mem hi,by rw[zkJ hi]at h; simp[h]⟩
  ·refine .inr fun h3=> ?_
   have:=h3 (i-1) (by omega);rw[show i-1+1=i by omega]at this;omega
 ·rintro(⟨x,hx,h⟩ | h)
  ·obtain⟨i,hi,rfl⟩:=List.getElem_of_mem hx
   exact⟨i,hi,.inl (by rw[zkJ hi]; simpa using h)⟩
  ·refine Classical.byContradiction fun hc=>h fun i hi=> ?_
   refine Classical.byContradiction fun h4=>hc ⟨i+1,hi,.inr ⟨by omega,?_⟩⟩
   rw[Nat.add_sub_cancel]; omega
def yhE (n:Int) (c:List dW) (s:List Int):List Int:=c.foldl (fun s w=>bif w.1==n then w.2 else s) s
def ys4 (m:dM) (n:Int):Bool:=yx m&&(!m.2.2.1&&(inb n m.1.length&& !(m.2.2.2.any (· ==n))))
def yW (m:dM) (n:Int):List Int×Bool:=bif ys4 m n then(yhE n m.2.1 (nth m.1 n []),true)else([],false)
theorem yJp {P:List Int→Prop} {n:Int}: ∀{c:List dW} {s:List Int},P s→(∀w∈c,P w.2)→P (yhE n c s)
 | [],_,h,_=>h
 | w::c,s,h,hc=>yJp (c:=c) (zkQ (hc w List.mem_cons_self) h) (fun x hx=>hc x (List.mem_cons_of_mem _ hx))
theorem yIw {α:Type} {P:α→Prop} {l:List α} {i:Int} {d:α} (h:inb i l.length=true) (hl: ∀x∈l,P x):P (nth l i d):=by
 obtain⟨h1,h2⟩:=zj6.1 h;unfold nth;rw[zkJ (show i.toNat<l.length by omega)];exact hl _ (List.getElem_mem _)
theorem yX2 {α:Type} {p:α→Bool} {l:List α} (h:leb 0 (yan p l)=false):yan p l= -1:=by
 unfold yan at h ⊢;cases ha:l.any p
 ·rfl
 ·rw[ha,cond_true,zk2 (show(0:Int)≤((l.takeWhile (fun x=> !p x)).length:Int)by omega)]at h; cases h
theorem yZW {α:Type} {p:α→Bool}: ∀{l:List α},leb 0 (yan p l)=true→(l.take ((yan p l).toNat+1)).filter (fun x=> !p x)=l.take (yan p l).toNat
 | [],h=>by rw[yZV]at h; cases h
 | x::l,h=>by
  rw[yCT]at h ⊢;cases hx:p x
  ·rw[hx]at h
   cases hl:leb 0 (yan p l)
   ·rw[hl]at h; cases h
   ·have h4:=zj7.1 hl
    simp only[cond_false,cond_true];rw[show(yan p l+1).toNat=(yan p l).toNat+1 by omega,List.take_succ_cons,List.take_succ_cons,List.filter_cons,hx,yZW hl]; rfl
  ·simp only[cond_true]
   show List.filter (fun x=> !p x) [x]= [];rw[List.filter_cons,hx]; rfl
theorem y5F {α:Type} {p:α→Bool} {l:List α} (h:leb 0 (yan p l)=false):l.filter (fun x=> !p x)=l:=by
 rw[List.filter_eq_self];intro x hx;unfold yan at h;cases ha:l.any p
 ·have:=List.any_eq_false.1 ha x hx
  simpa using this
 ·rw[ha,cond_true,zk2 (show(0:Int)≤((l.takeWhile (fun x=> !p x)).length:Int)by omega)]at h; cases h
def yO (a:dA):dA:=(a.1,a.2.1,a.2.2.1,a.2.2.2.1,a.2.2.2.2.1,i64.wrap (a.2.2.2.2.2.1+1),a.2.2.2.2.2.2)
def yu (s:Int):Int:=bif leb 0 s&&leb s 1099511627776 then s+6 else -1
def ycL (a:dA) (m s:Int):Bool:=inb m a.2.2.1.length&&(!(nth a.2.2.1 m yc).2.2.1&&(m !=a.2.2.2.1||ltb s a.2.2.2.2.1))
def ydw (a:dA) (m s:Int):List Int×Bool:=yW (nth a.2.2.1 m yc) (yu s)
def yD (a:dA) (m s:Int):Bool:=ycL a m s&&((ydw a m s).2&&((ydw a m s).1.length:Int)==1)
def yjE (a:dA) (m s:Int):Int:=bif yD a m s then nth (ydw a m s).1 0 0 else 0
def xw (a b:Int):Int:=i64.wrap ((BitVec.ofInt IntKind.i64.bits a ^^^ BitVec.ofInt IntKind.i64.bits b).toNat:Int)
def yaF (l:List Int):Int:=l.foldl xw 0
def yD0 (a:dA) (s:Int):Bool:=(List.range a.2.2.1.length).all (fun(i:Nat)=>yD a i s)
def ygL (a:dA) (s:Int):Int×Bool:=bif yD0 a s then(yaF ((List.range a.2.2.1.length).map (fun(i:Nat)=>yjE a i s)),true)else(0,false)
def y1X (a:dA):Bool:=(List.range (min a.2.1.2.toNat 20)).all (fun(s:Nat)=> !((ygL a s).2&&(ygL a s).1 !=0))
def bv (x:Int):BitVec 64:=BitVec.ofInt 64 x
theorem y1Z (a b:Int):xw a b=(bv a ^^^ bv b).toInt:=by
 show i64.wrap ((bv a ^^^ bv b).toNat:Int)=_;rw[IntKind.wrap_i64,BitVec.toInt_eq_toNat_cond];have:=(bv a ^^^ bv b).isLt;split<;>omega
theorem yxI (v:BitVec 64):bv v.toInt=v:=by unfold bv; simp
theorem y53 {x:Int} (h: -9223372036854775808≤x) (h2:x≤9223372036854775807):(bv x).toInt=x:=by
 unfold bv;rw[BitVec.toInt_ofInt,Int.bmod_def];simp only[Nat.reducePow]at *;omega
def yfH (l:List Int):BitVec 64:=l.foldl (fun v x=>v ^^^ bv x) 0#64
theorem yoU (l:List Int):yaF l=(yfH l).toInt:=by
 have: ∀(l:List Int) (v:BitVec 64),l.foldl xw v.toInt=(l.foldl (fun v x=>v ^^^ bv x) v).toInt:=by
  intro l
  induction l with
  | nil=>intro _; rfl
  | cons x l ih =>
   intro v;rw[List.foldl_cons,List.foldl_cons,y1Z,yxI,ih]
 have h:=this l 0#64;rwa[show(0#64:BitVec 64).toInt=0 from by decide]at h
theorem y5u (l:List Int) (x:Int):yfH (l++ [x])=yfH l ^^^ bv x:=by unfold yfH; rw[List.foldl_append]; rfl
theorem y6g {i:Int} {n:Nat} (h: ¬(0≤i∧i<(n:Int))):inb i n=false:=by
 cases e:inb i n
 ·rfl
 ·exact absurd (zj6.1 e) h
def yod (l:List Int) (k:Int):Int:=bif inb k l.length then xw (yaF l) (nth l k 0)else yaF l
theorem y0e (u v:BitVec 64):u ^^^ v ^^^ v=u:=by rw[BitVec.xor_assoc,BitVec.xor_self,BitVec.xor_zero]
theorem y46 (l:List Int) (k:Int):(List.range l.length).foldl (fun n (i:Nat)=>bif(i:Int) !=k then xw n (nth l i 0)else n) 0=yod l k:=by
 have: ∀n,n≤l.length→(List.range n).foldl (fun n (i:Nat)=>bif(i:Int) !=k then xw n (nth l i 0)else n) 0=(bif inb k n then yfH (l.take n) ^^^ bv (nth l k 0)else yfH (l.take n)).toInt:=by
  intro n
  induction n with
  | zero =>
   intro _;rw[y6g (show ¬(0≤k∧k<((0:Nat):Int))by omega)];rfl
  | succ n ih =>
   intro hn;rw[List.range_succ,List.foldl_append,List.foldl_cons,List.foldl_nil,ih (by omega),← y5d l 0 (show n<l.length by omega),y5u];by_cases hk:(n:Int)=k
   ·subst hk
    rw[show((n:Int) !=n)=false by simp,cond_false,y6g (show ¬(0≤(n:Int)∧(n:Int)<(n:Int))by omega),show inb (n:Int) (n+1)=true from zkR (Nat.lt_succ_self n),cond_false,cond_true,y0e]
   ·rw[show((n:Int) !=k)=true from bne_iff_ne.2 hk,cond_true,show inb k (n+1)=inb k n by rw[Bool.eq_iff_iff,zj6,zj6]; omega,y1Z,yxI]
    cases inb k n
    ·rfl
    ·rw[cond_true,cond_true,BitVec.xor_assoc,BitVec.xor_comm (bv (nth l k 0)),← BitVec.xor_assoc]
 rw[this l.length (Nat.le_refl _),List.take_length];unfold yod;rw[y1Z,yoU,yxI];cases inb k l.length<;>rfl
theorem y45 {l:List Int} {k:Int} (h:inb k l.length=true) (h0:nth l k 0=0):yod l k=yaF l:=by
 unfold yod;rw[h,h0,cond_true,y1Z,yoU,yxI,show bv 0=0#64 by decide,BitVec.xor_zero]
theorem yZT {α β:Type} (f:α→List β): ∀(l:List α) (s:List β),l.foldl (fun s i=>s++f i) s=s++l.flatMap f
 | [],s=>by simp
 | x::l,s=>by rw[List.foldl_cons,yZT f l]; simp
abbrev yai:dA:=(0,(0,0),[],0,0,0,0,0,[],0,false,false)
def yM4 (k:Int) (i:Nat):Bool:=i64.wrap ((BitVec.ofInt IntKind.i64.bits (k.fdiv (2^(min (i:Int).toNat IntKind.i64.bits))) &&& BitVec.ofInt IntKind.i64.bits 1).toNat:Int)==1
def yU3 (k:Int):Int:=bif leb 0 k&&leb k 1048575 then k else 0
def yfz (b:Nat→Bool) (c:List dW) (l:List (List Int)) (i:Nat):List (List Int):=bif b i then l.set (nth c i (0,[])).1.toNat (nth c i (0,[])).2 else l
def ygO (b:Nat→Bool) (c:List dW) (l:List (List Int)):List (List Int):=(List.range c.length).foldl (yfz b c) l
def yd7 (m:dM) (k:Int):dM:=bif yx m then(ygO (fun i=>decide (i<20)&&yM4 (yU3 k) i) m.2.1 m.1,[],m.2.2.1,m.2.2.2)else m
def yLY (ks:List Int) (i:Nat):Int:=bif decide (i<ks.length)then nth ks i 0 else 0
def yak (l:List dM) (ks:List Int):List dM:=(List.range l.length).map (fun(i:Nat)=>yd7 (nth l i yc) (yLY ks i))
theorem ycM {m:dM} (h:yx m=true):m.1.all yaB=true∧m.2.1.all (ys0 m.1.length)=true∧ypr m.1.length m.2.2.2=true∧1≤m.1.length∧m.1.length≤20∧m.2.1.length≤60:=by
 simp only[yx,Bool.and_eq_true,zj7]at h;exact⟨h.1.1.1.1.1,h.1.1.1.1.2,h.1.1.1.2,by omega,by omega,by omega⟩
theorem yRo {m:dM} (h:yx m=true) {i:Nat} (hi:i<m.2.1.length):inb (nth m.2.1 i (0,[])).1 m.1.length=true∧yaB (nth m.2.1 i (0,[])).2=true:=by
 have h1:=List.all_eq_true.1 (ycM h).2.1 m.2.1[i] (List.getElem_mem hi);rw[zkS,zkJ hi];exact Bool.and_eq_true_iff.1 h1
theorem yvm {b:Nat→Bool} {c:List dW} {l:List (List Int)} {i:Nat}:(yfz b c l i).length=l.length:=by
 unfold yfz; cases b i
 ·rfl
 ·exact List.length_set
theorem yUl {α β:Type} (P:β→Prop) (f:β→α→β) (h: ∀s x,P s→P (f s x)): ∀(l:List α) (s:β),P s→P (l.foldl f s)
 | [],_,hs=>hs
 | x::l,s,hs=>yUl P f h l (f s x) (h s x hs)
theorem yq0 {b:Nat→Bool} {c:List dW} {l:List (List Int)}:(ygO b c l).length=l.length :=
 yUl (fun x=>x.length=l.length) _ (fun s x hs=>by rw[yvm]; exact hs) _ l rfl
theorem y3w {P:List Int→Prop} {b:Nat→Bool} {c:List dW} {l:List (List Int)} (hl: ∀x∈l,P x) (hc: ∀w∈c,P w.2): ∀x∈ygO b c l,P x:=by
 have: ∀(n:Nat),n≤c.length→ ∀x∈(List.range n).foldl (yfz b c) l,P x:=by
  intro n
  induction n with
  | zero=>intro _; exact hl
  | succ n ih =>
   intro hn x hx;rw[List.range_succ,List.foldl_append,List.foldl_cons,List.foldl_nil,yfz]at hx;cases hb:b n
   ·rw[hb]at hx; exact ih (by omega) x hx
   ·rw[hb,cond_true]at hx
    rcases List.mem_or_eq_of_mem_set hx with h | h
    ·exact ih (by omega) x h
    ·rw[h,zkS,zkJ (show n<c.length by omega)]
     exact hc _ (List.getElem_mem _)
 exact this _ (Nat.le_refl _)
def ybp (m:dM) (n:Int) (s:List Int):Bool:=yx m&&(!m.2.2.1&&(inb n m.1.length&&(yaB s&&ltb (m.2.1.length:Int) 60)))
def yJy (l:List Int) (n:Int):List Int:=l.filter (· !=n)
def yab (m:dM) (n:Int) (s:List Int):dM×Bool:=bif ybp m n s then((m.1,m.2.1++ [(n,s)],m.2.2.1,yJy m.2.2.2 n),true)else(m,false)
def yC (m:dM):dM:=bif yx m&& !m.2.2.1 then(ygO (fun _=>true) m.2.1 m.1,[],m.2.2.1,m.2.2.2)else m
def yeU (m:dM):dM:=(m.1,[],true,m.2.2.2)
def y0s:Code:=(f81.body).getD .skip
def y00:Env:=zkw TT [] []
theorem yQI:FrOk prog ⟨y00,15,fun _=>none⟩ y0s:=zkA mixed yf trivial
abbrev yAh:List Par:= [.rd tI,.rd tI,.rd tI]
abbrev yAI:List OT:= [⟨false,tB,.fz⟩]
def yG9 (a0 a1 a2:Int):Option (zaY yAI×zak yAh) :=bif(leb a1 a0)then some (((leb a0 a2),()),()) else some ((false,()),())
theorem yVY:ConOk prog 81 ⟨yAh,yAI,fun x=>yG9 x.1 x.2.1 x.2.2.1⟩:=zkI (yQI) func81 ntmps81.symm fun x=>by kernel_rfl
def yi (a0 a1 a2:Int):Bool :=bif(leb a1 a0)then (leb a0 a2) else false
def yR:Con:=⟨yAh,yAI,fun x=>(fun n=>some ((n,()),())) (yi x.1 x.2.1 x.2.2.1)⟩
theorem yYm (a0 a1 a2:Int):yG9 a0 a1 a2=(fun n=>some ((n,()),())) (yi a0 a1 a2):=zkV (p:=fun(n:Bool)=>((n,()),())) (zkG (p:=fun(n:Bool)=>((n,()),())) rfl rfl)
theorem yac:ConOk prog 81 yR:=(yVY).mono (fun x r _ h=>(yYm x.1 x.2.1 x.2.2.1).trans h)
def y3l:Code:=(f82.body).getD .skip
def y3n:Env:=zkw TT [] []
theorem yXY:FrOk prog ⟨y3n,15,fun _=>none⟩ y3l:=zkA mixed yf trivial
abbrev yHr:List Par:= [.rd tI,.rd tI,.rd tI]
abbrev yHx:List OT:= [⟨false,tB,.fz⟩]
def yJ3 (a0 a1 a2:Int):Option (zaY yHx×zak yHr) :=bif(leb a1 a0)then some (((leb a0 a2),()),()) else some ((false,()),())
theorem y1L:ConOk prog 82 ⟨yHr,yHx,fun x=>yJ3 x.1 x.2.1 x.2.2.1⟩:=zkI (yXY) func82 ntmps82.symm fun x=>by kernel_rfl
def yb (a0 a1 a2:Int):Bool :=bif(leb a1 a0)then (leb a0 a2) else false
def yP:Con:=⟨yHr,yHx,fun x=>(fun n=>some ((n,()),())) (yb x.1 x.2.1 x.2.2.1)⟩
theorem y2X (a0 a1 a2:Int):yJ3 a0 a1 a2=(fun n=>some ((n,()),())) (yb a0 a1 a2):=zkV (p:=fun(n:Bool)=>((n,()),())) (zkG (p:=fun(n:Bool)=>((n,()),())) rfl rfl)
theorem yaa:ConOk prog 82 yP:=(y1L).mono (fun x r _ h=>(y2X x.1 x.2.1 x.2.2.1).trans h)
theorem yvj {a b c:Int}:yb a b c=true↔b≤a∧a≤c:=by
 unfold yb;cases h:leb b a
 ·have:=mt zk2 (by rw[h]; simp: ¬leb b a=true)
  simp[this]
 ·simp[zj7,zj7.1 h]
theorem y66 {a b c:Int} (h:b≤a) (h2:a≤c):yb a b c=true:=yvj.2 ⟨h,h2⟩
theorem yar (a b c:Int):yi a b c=yb a b c:=by kernel_rfl
theorem ybX (x a b:Int):yb x a b=(leb a x&&leb x b):=by
 unfold yb; cases leb a x<;>rfl
theorem yoa {x:Int} {n:Nat} (h:n≤1152921504606846976):yb x 0 (i64.wrap ((n:Int)-1))=inb x n:=by
 rw[wr (by omega) (by omega),Bool.eq_iff_iff,yvj,zj6]; omega
def y14:Code:=(f123.body).getD .skip
def y2k:Env:=zkw TT [(81,yR)] []
theorem yUp:FrOk prog ⟨y2k,11,fun _=>none⟩ y14:=zkA mixed yf ⟨yac,trivial⟩
abbrev yDs:List Par:= [.rd tG]
abbrev yDD:List OT:= [⟨false,tB,.fz⟩]
def yIO (a0:dG):Option (zaY yDD×zak yDs) :=let r1:=yi a0.1 3 5;bif r1 then let r2:=yi a0.2 1 8;some ((r2,()),()) else some ((false,()),())
theorem yYK:ConOk prog 123 ⟨yDs,yDD,fun x=>yIO x.1⟩:=zkI (yUp) func123 ntmps123.symm fun x=>by kernel_rfl
def ydW (a0:dG):Bool :=let r1:=yi a0.1 3 5;bif r1 then let r2:=yi a0.2 1 8;r2 else false
def yku:Con:=⟨yDs,yDD,fun x=>(fun n=>some ((n,()),())) (ydW x.1)⟩
theorem y1n (a0:dG):yIO a0=(fun n=>some ((n,()),())) (ydW a0):=zkV (p:=fun(n:Bool)=>((n,()),())) (zkG (p:=fun(n:Bool)=>((n,()),())) rfl rfl)
theorem yrF:ConOk prog 123 yku:=(yYK).mono (fun x r _ h=>(y1n x.1).trans h)
def y0r:Code:=(f125.body).getD .skip
def y0Z:Env:=zkw TT [(81,yR)] []
theorem yQH:FrOk prog ⟨y0Z,26,fun _=>none⟩ y0r:=zkA mixed yf ⟨yac,trivial⟩
abbrev yAg:List Par:= [.rd tG,.rd tI,.rd tI]
abbrev yAH:List OT:= [⟨false,tB,.fz⟩]
def yG8 (a0:dG) (a1 a2:Int):Option (zaY yAH×zak yAg) :=let r1:=yi a1 (-1) (i64.wrap (a0.1-1));bif r1 then let r2:=yi a2 0 a0.2;bif r2 then bif(!(a2==0))then some (((a1 !=(-1)),()),()) else some ((true,()),()) else some ((false,()),()) else some ((false,()),())
theorem yVX:ConOk prog 125 ⟨yAg,yAH,fun x=>yG8 x.1 x.2.1 x.2.2.1⟩:=zkI (yQH) func125 ntmps125.symm fun x=>by kernel_rfl
def yf3 (a0:dG) (a1 a2:Int):Bool :=let r1:=yi a1 (-1) (i64.wrap (a0.1-1));bif r1 then let r2:=yi a2 0 a0.2;bif r2 then bif(!(a2==0))then (a1 !=(-1)) else true else false else false
def yuT:Con:=⟨yAg,yAH,fun x=>(fun n=>some ((n,()),())) (yf3 x.1 x.2.1 x.2.2.1)⟩
theorem yYl (a0:dG) (a1 a2:Int):yG8 a0 a1 a2=(fun n=>some ((n,()),())) (yf3 a0 a1 a2):=zkV (p:=fun(n:Bool)=>((n,()),())) (zkG (p:=fun(n:Bool)=>((n,()),())) (zkG (p:=fun(n:Bool)=>((n,()),())) (zkG (p:=fun(n:Bool)=>((n,()),())) rfl rfl) rfl) rfl)
theorem yIC:ConOk prog 125 yuT:=(yVX).mono (fun x r _ h=>(yYl x.1 x.2.1 x.2.2.1).trans h)
def yPT:Code:=(f109.body).getD .skip
def yQa:Env:=zkw TT [(81,yR),(123,yku)] []
theorem yKm:FrOk prog ⟨yQa,14,fun _=>none⟩ yPT:=zkA mixed yf ⟨yac,yrF,trivial⟩
abbrev yrW:List Par:= [.rd tG,.rd tI]
abbrev yrZ:List OT:= [⟨false,tB,.fz⟩]
def yzJ (a0:dG) (a1:Int):Option (zaY yrZ×zak yrW) :=let r1:=ydW a0;bif r1 then let r2:=yi a1 0 (i64.wrap (a0.2-1));some ((r2,()),()) else some ((false,()),())
theorem yMA:ConOk prog 109 ⟨yrW,yrZ,fun x=>yzJ x.1 x.2.1⟩:=zkI (yKm) func109 ntmps109.symm fun x=>by kernel_rfl
def ya7 (a0:dG) (a1:Int):Bool :=let r1:=ydW a0;bif r1 then let r2:=yi a1 0 (i64.wrap (a0.2-1));r2 else false
def yfx:Con:=⟨yrW,yrZ,fun x=>(fun n=>some ((n,()),())) (ya7 x.1 x.2.1)⟩
theorem yOQ (a0:dG) (a1:Int):yzJ a0 a1=(fun n=>some ((n,()),())) (ya7 a0 a1):=zkV (p:=fun(n:Bool)=>((n,()),())) (zkG (p:=fun(n:Bool)=>((n,()),())) rfl rfl)
theorem yj1:ConOk prog 109 yfx:=(yMA).mono (fun x r _ h=>(yOQ x.1 x.2.1).trans h)
def y0q:Code:=(f135.body).getD .skip
def y0Y:Env:=zkw TT [(81,yR)] []
theorem yQG:FrOk prog ⟨y0Y,5,fun _=>none⟩ y0q:=zkA mixed yf ⟨yac,trivial⟩
abbrev yAf:List Par:= [.rd tI]
abbrev yAG:List OT:= [⟨false,tB,.fz⟩]
def yG7 (a0:Int):Option (zaY yAG×zak yAf) :=let r1:=yi a0 0 65535;some ((r1,()),())
theorem yVW:ConOk prog 135 ⟨yAf,yAG,fun x=>yG7 x.1⟩:=zkI (yQG) func135 ntmps135.symm fun x=>by kernel_rfl
def yaQ (a0:Int):Bool :=let r1:=yi a0 0 65535;r1
def yGo:Con:=⟨yAf,yAG,fun x=>(fun n=>some ((n,()),())) (yaQ x.1)⟩
theorem yYk (a0:Int):yG7 a0=(fun n=>some ((n,()),())) (yaQ a0):=zkV (p:=fun(n:Bool)=>((n,()),())) rfl
theorem yZd:ConOk prog 135 yGo:=(yVW).mono (fun x r _ h=>(yYk x.1).trans h)
def yo1:Code:=(f187.body).getD .skip
def yw5:Env:=zkw TT [(135,yGo)] []
theorem yN7:FrOk prog ⟨yw5,15,fun _=>none⟩ yo1:=zkA mixed yf ⟨yZd,trivial⟩
def yDb:Nat→Option Seg:=fun _=>none
def yd4:Shape:=⟨[(5,false,[.br tI]),(6,false,[ii]),(7,false,[ii])],[],[]⟩
def yjI:Shape:=⟨[(5,false,[.br tI]),(6,false,[ii]),(7,false,[.ci .i64 0])],[],[]⟩
def yjG:Shape:=⟨[],[],[]⟩
def yjQ:Shape:=⟨[(2,false,[.bool])],[],[]⟩
def yoO (v0:List Int) (v1 v2:Int):Option ((yd4).X ⊕ ((yjG).X ⊕ (yjQ).X)) :=bif(ltb v2 v1)then bif(inb v2 v0.length)then let r2:=yaQ (nth v0 v2 0);bif(!r2)then some (.inr (.inr (((false,()),()),(),()))) else some (.inl (((v0,()),(v1,()),((i64.wrap (v2+1)),()),()),(),())) else none else some (.inr (.inl ((),(),())))
def ycC (x:(yd4).X):=yoO x.1.1.1 x.1.2.1.1 x.1.2.2.1.1
def yze (x:(yjI).X):(yd4).X:=(((x.1.1.1,()),(x.1.2.1.1,()),(0,()),()),(),())
def yBG:Code:=(zd7 yo1 64 52).getD .skip
theorem yNI:zd7 yo1 64 13=some (.block 0 (.loop yBG)):=by kernel_rfl
theorem yPv (x:(yd4).X):zhu ⟨yw5,15,yDb⟩ 0 yBG 52 yd4 yjG yjQ x=ycC x:=by kernel_rfl
def yzt (x:(yjI).X):Nat:=18446744073709551616
def ypV (x:(yjI).X):Option ((yjG).X ⊕ (yjQ).X):=zF ycC (yzt x) (yze x)
def yzT:Seg:=⟨yjI,yjG,yjQ,ypV⟩
def yP1:Nat→Option Seg:=fun q=>bif Nat.beq q 13 then some yzT else yDb q
theorem yN8:FrOk prog ⟨yw5,15,yP1⟩ yo1:=(yN7).loop (sg:=yzT) yd4 yze (by decide) yNI ycC yzt (by decide) (fun _=>rfl) (fun x r _ h=>h) yPv
abbrev ypd:List Par:= [.rd tL]
abbrev yxy:List OT:= [⟨false,tB,.fz⟩]
def ysB (a0:List Int):Option (zaY yxy×zak ypd) :=zkt (ypV (((a0,()),((a0.length:Int),()),((),()),()),(),())) (fun y2 =>some ((true,()),())) (fun y2 =>some ((y2.1.1.1,()),()))
theorem ySs:ConOk prog 187 ⟨ypd,yxy,fun x=>ysB x.1⟩:=zkI (yN8) func187 ntmps187.symm fun x=>by kernel_rfl
def yaI (a0:List Int):Bool:=a0.all yaQ
theorem yVv (a0:List Int) (hk:zjx ypd (a0,())):ysB a0=(fun n=>some ((n,()),())) (yaI a0):=by
 have hb:a0.length*8≤2^47:=hk.1.1
 have hl:ypV (((a0,()),((a0.length:Int),()),((),()),()),(),())=some (bif a0.all yaQ then .inl ((),(),())else .inr (((false,()),()),(),())) :=
  zj9 (step:=ycC) a0 0 (fun i=>(((a0,()),((a0.length:Int),()),((i:Int),()),()),(),())) yaQ _ _ (fun i hi=>by
   simp only[ycC,yoO,zkR hi,zkS,zky (show(i:Int)<a0.length by omega),cond_true,wq ((i:Int)+1) (by omega) (by omega),Int.natCast_add,Int.natCast_one]
   cases yaQ (a0.getD i 0)<;>rfl) (by simp only[ycC,yoO,zk3 (Int.le_refl _),cond_false]) _ (by show _<18446744073709551616; omega)
 unfold ysB yaI;rw[hl];cases a0.all yaQ<;>rfl
def yls:Con:=⟨ypd,yxy,fun x=>(fun n=>some ((n,()),())) (yaI x.1)⟩
theorem yvy:ConOk prog 187 yls:=(ySs).mono (fun x r hk h=>(yVv x.1 hk).trans h)
def y0n:Code:=(f129.body).getD .skip
def y0V:Env:=zkw TT [(187,yls)] []
theorem yQD:FrOk prog ⟨y0V,15,fun _=>none⟩ y0n:=zkA mixed yf ⟨yvy,trivial⟩
abbrev yAc:List Par:= [.rd tG,.rd tL]
abbrev yAD:List OT:= [⟨false,tB,.fz⟩]
def yG4 (a0:dG) (a1:List Int):Option (zaY yAD×zak yAc) :=bif((a1.length:Int)==(i64.wrap (a0.1-1)))then let r1:=yaI a1;some ((r1,()),()) else some ((false,()),())
theorem yVT:ConOk prog 129 ⟨yAc,yAD,fun x=>yG4 x.1 x.2.1⟩:=zkI (yQD) func129 ntmps129.symm fun x=>by kernel_rfl
def yl7 (a0:dG) (a1:List Int):Bool :=bif((a1.length:Int)==(i64.wrap (a0.1-1)))then let r1:=yaI a1;r1 else false
def yGn:Con:=⟨yAc,yAD,fun x=>(fun n=>some ((n,()),())) (yl7 x.1 x.2.1)⟩
theorem yYh (a0:dG) (a1:List Int):yG4 a0 a1=(fun n=>some ((n,()),())) (yl7 a0 a1):=zkV (p:=fun(n:Bool)=>((n,()),())) (zkG (p:=fun(n:Bool)=>((n,()),())) rfl rfl)
theorem yZc:ConOk prog 129 yGn:=(yVT).mono (fun x r _ h=>(yYh x.1 x.2.1).trans h)
def y2c:Code:=(f150.body).getD .skip
def y2p:Env:=zkw TT [(82,yP)] []
theorem yUE:FrOk prog ⟨y2p,11,fun _=>none⟩ y2c:=zkA mixed yf ⟨yaa,trivial⟩
abbrev yDv:List Par:= [.rd tG]
abbrev yDM:List OT:= [⟨false,tB,.fz⟩]
def yIR (a0:dG):Option (zaY yDM×zak yDv) :=let r1:=yb a0.1 3 5;bif r1 then let r2:=yb a0.2 1 8;some ((r2,()),()) else some ((false,()),())
theorem yYT:ConOk prog 150 ⟨yDv,yDM,fun x=>yIR x.1⟩:=zkI (yUE) func150 ntmps150.symm fun x=>by kernel_rfl
def ye (a0:dG):Bool :=let r1:=yb a0.1 3 5;bif r1 then let r2:=yb a0.2 1 8;r2 else false
def ygM:Con:=⟨yDv,yDM,fun x=>(fun n=>some ((n,()),())) (ye x.1)⟩
theorem y1w (a0:dG):yIR a0=(fun n=>some ((n,()),())) (ye a0):=zkV (p:=fun(n:Bool)=>((n,()),())) (zkG (p:=fun(n:Bool)=>((n,()),())) rfl rfl)
theorem ymd:ConOk prog 150 ygM:=(yYT).mono (fun x r _ h=>(y1w x.1).trans h)
theorem yj {a:Int×Int}:ye a=true↔(3≤a.1∧a.1≤5)∧1≤a.2∧a.2≤8:=by
 unfold ye;cases h:yb a.1 3 5
 ·have: ¬(3≤a.1∧a.1≤5):=fun e=>by rw[yvj.2 e]at h; simp at h
  simp[this]
 ·simp only[cond_true,yvj]
  exact⟨fun e=>⟨yvj.1 h,e⟩,fun e=>e.2⟩
def yhu (a:dA) (i:Nat):Bool:= !(yx (nth a.2.2.1 i yc))||((((nth a.2.2.1 i yc).1.length:Int) !=6+a.2.1.2)||((nth a.2.2.1 i yc).2.2.1&&(((i:Int) !=a.2.2.2.1)&& !a.2.2.2.2.2.2.2.2.2.2.2)))
def yl0 (a:dA):Bool:= !((List.range a.2.2.1.length).any (yhu a))&&(a.2.2.1.length:Int)==a.2.1.1
def yh3 (g:dG) (l:List dW) (i:Nat):Bool:= !(leb 0 (nth l i (0,[])).1&&leb (nth l i (0,[])).1 (g.2-1))||(((nth l i (0,[])).2.length:Int) !=g.1-1||(!((nth l i (0,[])).2.all isW)||(decide (0<i)&&leb (nth l i (0,[])).1 (nth l ((i-1:Nat):Int) (0,[])).1)))
def ya2 (g:dG) (l:List dW):Bool:= !((List.range l.length).any (yh3 g l))
def yM (a:dA):Bool :=ye a.2.1&&((leb 1 a.1&&leb a.1 60000)&&(yl0 a&&(ya2 a.2.1 a.2.2.2.2.2.2.2.2.1&&((leb (-1) a.2.2.2.1&&leb a.2.2.2.1 (a.2.1.1-1))&&((leb 0 a.2.2.2.2.1&&leb a.2.2.2.2.1 a.2.1.2)&&(!(a.2.2.2.1== -1&&a.2.2.2.2.1 !=0) && ((leb 0 a.2.2.2.2.2.2.1&&leb a.2.2.2.2.2.2.1 60000)&&((leb a.2.2.2.2.2.2.1 a.2.2.2.2.2.1&&leb a.2.2.2.2.2.1 60000)&&(leb a.2.2.2.2.2.1 (a.2.2.2.2.2.2.1+4)&&((leb 0 a.2.2.2.2.2.2.2.1&&leb a.2.2.2.2.2.2.2.1 60000)&&(leb (-1) a.2.2.2.2.2.2.2.2.2.1&&leb a.2.2.2.2.2.2.2.2.2.1 1000)))))))))))
theorem yen {a:dA} (h:yM a=true):ye a.2.1=true:=(Bool.and_eq_true_iff.1 h).1
theorem y4b {a:dA} (h:yM a=true):yl0 a=true:=by simp only[yM,Bool.and_eq_true]at h; exact h.2.2.1
theorem yF0 {a:dA} (h:yM a=true):(a.2.2.1.length:Int)=a.2.1.1:=by have:=y4b h; simp only[yl0,Bool.and_eq_true,beq_iff_eq]at this; exact this.2
theorem y44 {a:dA} (h:yl0 a=true) {i:Nat} (hi:i<a.2.2.1.length):yx (nth a.2.2.1 i yc)=true∧((nth a.2.2.1 i yc).1.length:Int)=6+a.2.1.2∧((nth a.2.2.1 i yc).2.2.1=true→(i:Int)=a.2.2.2.1∨a.2.2.2.2.2.2.2.2.2.2.2=true):=by
 simp only[yl0,Bool.and_eq_true,Bool.not_eq_true',List.any_eq_false,List.mem_range]at h;have:=h.1 i hi;simp only[yhu,Bool.not_eq_true,Bool.or_eq_false_iff,Bool.not_eq_false',bne_eq_false_iff_eq,Bool.and_eq_false_iff]at this;refine⟨this.1,this.2.1,fun hf=> ?_⟩;rcases this.2.2 with h1 | h1 | h1
 ·rw[hf]at h1; cases h1
 ·exact .inl h1
 ·exact .inr h1
theorem yLW (a:Int×Int):ydW a=ye a:=by kernel_rfl
theorem yXL: ∀{l:List Int} {lo n:Int},l.Pairwise (· < ·)→(∀x∈l,lo≤x∧x<n)→lo≤n→(l.length:Int)≤n-lo
 | [],lo,n,_,_,h=>by simp; omega
 | x::l,lo,n,hp,hx,h=>by
  cases hp with
  | cons h1 h2 =>
   have h3:=hx x List.mem_cons_self;have:=yXL (l:=l) (lo:=x+1) (n:=n) h2 (fun y hy=>⟨h1 y hy,(hx y (List.mem_cons_of_mem _ hy)).2⟩) (by omega);rw[List.length_cons]; omega
theorem ys1 {n:Nat} {l:List Int}:ypr n l=true↔(∀x∈l,0≤x∧x<n)∧l.Pairwise (· < ·):=by
 simp only[ypr,Bool.and_eq_true,List.all_eq_true,zj6,decide_eq_true_eq]
theorem ysa {m:dM} (h1:m.1.all yaB=true) (h2:m.2.1.all (ys0 m.1.length)=true) (h3:ypr m.1.length m.2.2.2=true) (h4:1≤m.1.length) (h5:m.1.length≤20) (h6:m.2.1.length≤60):yx m=true:=by
 simp only[yx,h1,h2,h3,Bool.true_and,Bool.and_eq_true,zj7];omega
theorem yU5 {m:dM} (b:Nat→Bool) (h:yx m=true):(ygO b m.2.1 m.1).all yaB=true:=by
 obtain⟨h1,h2,_⟩:=ycM h;rw[List.all_eq_true];exact y3w (P:=fun x=>yaB x=true) (fun x hx=>List.all_eq_true.1 h1 x hx) (fun w hw=>(Bool.and_eq_true_iff.1 (List.all_eq_true.1 h2 w hw)).2)
theorem y3k {m:dM} (n:Int) (s:List Int) (h:yx m=true):yx (yab m n s).1=true:=by
 unfold yab;cases hc:ybp m n s
 ·exact h
 ·simp only[ybp,Bool.and_eq_true,Bool.not_eq_true',zka]at hc
  obtain⟨h1,h2,h3,h4,h5,h6⟩:=ycM h;refine ysa h1 ?_ ?_ h4 h5 (by show(m.2.1++ [(n,s)]).length≤60; rw[List.length_append]; simp only[List.length_cons,List.length_nil]; omega)
  ·show(m.2.1++ [(n,s)]).all (ys0 m.1.length)=true
   rw[List.all_append,h2];simp[ys0,hc.2.2.1,hc.2.2.2.1]
  ·show ypr m.1.length (yJy m.2.2.2 n)=true
   obtain⟨b1,b2⟩:=ys1.1 h3;exact ys1.2 ⟨fun x hx=>b1 x (List.mem_filter.1 hx).1,b2.filter _⟩
theorem yzZ (m:dM) (n:Int) (s:List Int):(yab m n s).1.1=m.1∧(yab m n s).1.2.2.1=m.2.2.1:=by
 unfold yab;cases ybp m n s<;>exact⟨rfl,rfl⟩
theorem y5E {m:dM} (h:yx m=true):yx (yC m)=true:=by
 unfold yC;cases hc:(yx m&& !m.2.2.1)
 ·exact h
 ·obtain⟨h1,h2,h3,h4,h5,h6⟩:=ycM h
  refine ysa (yU5 _ h) rfl ?_ ?_ ?_ (Nat.zero_le _)
  ·show ypr (ygO _ m.2.1 m.1).length m.2.2.2=true; rw[yq0]; exact h3
  ·show 1≤(ygO _ m.2.1 m.1).length; rw[yq0]; exact h4
  ·show(ygO _ m.2.1 m.1).length≤20; rw[yq0]; exact h5
theorem yn6 (m:dM):(yC m).1.length=m.1.length∧(yC m).2.2.1=m.2.2.1:=by
 unfold yC;cases(yx m&& !m.2.2.1)
 ·exact⟨rfl,rfl⟩
 ·exact⟨yq0,rfl⟩
theorem yXQ {m:dM} (h:yx m=true):yx (yeU m)=true:=by
 obtain⟨h1,h2,h3,h4,h5,h6⟩:=ycM h;exact ysa h1 rfl h3 h4 h5 (Nat.zero_le _)
def y4U (g:dG):Bool:=decide ((-1000≤g.1∧g.1≤1000)∧ -1000≤g.2∧g.2≤1000)
theorem y4Y {g:dG} (h:(ye g||y4U g)=true):(-1000≤g.1∧g.1≤1000)∧ -1000≤g.2∧g.2≤1000:=by
 rcases Bool.or_eq_true_iff.1 h with h | h
 ·have:=yj.1 h; omega
 ·exact of_decide_eq_true h
def ydx (p:Nat→Bool) (n:Nat):Nat:=((List.range n).filter (fun i=> !p i)).length
theorem y5L (p:Nat→Bool) (n:Nat):ydx p n≤n:=by
 have:=List.length_filter_le (fun i=> !p i) (List.range n);rwa[List.length_range]at this
theorem ylu (p:Nat→Bool) (n:Nat):ydx p (n+1)=bif p n then ydx p n else ydx p n+1:=by
 unfold ydx;rw[List.range_succ,List.filter_append,List.length_append,List.filter_cons];cases p n<;>simp
def y2z (a:dA):Int:=bif yM a then(ydx (fun(s:Nat)=>(ygL a s).2) a.2.1.2.toNat:Nat)else 0
theorem y3X {α:Type} (A:List α) (y:α) (t:List α) (d:α):(A++y::t).getD A.length d=y:=by
 rw[List.getD_eq_getElem?_getD,List.getElem?_append_right (Nat.le_refl _),Nat.sub_self]; rfl
theorem y32 {α:Type} (A:List α) (y z:α) (t:List α):(A++y::t).set A.length z=A++z::t:=by
 rw[List.set_append_right _ _ (Nat.le_refl _),Nat.sub_self]; rfl
def yvk (l:List Int) (n:Int):List Int:=l.filter (fun x=>ltb x n)++n::l.filter (fun x=>ltb n x)
def spoil (m:dM) (n:Int):dM:=bif yx m&&(inb n m.1.length&& !(m.2.2.2.any (· ==n)))then(m.1,m.2.1,m.2.2.1,yvk m.2.2.2 n)else m
theorem y3b {l:List Int} {n:Int} (h:l.Pairwise (· < ·)) (hn:n∉l):l=l.filter (fun x=>ltb x n)++l.filter (fun x=>ltb n x):=by
 induction l with
 | nil=>rfl
 | cons x t ih =>
  obtain⟨hx,ht⟩:=List.pairwise_cons.1 h;simp only[List.mem_cons,not_or]at hn;rw[List.filter_cons,List.filter_cons];by_cases hlt:x<n
  ·rw[zky hlt,zk3 (show x≤n by omega)]
   simp only[if_true,Bool.false_eq_true,if_false,List.cons_append];rw[← ih ht hn.2]
  ·have h3:t.filter (fun x=>ltb x n)= []:=List.filter_eq_nil_iff.2 (fun y hy=>by rw[zk3 (by have:=hx y hy; omega)]; simp)
   have h4:t.filter (fun x=>ltb n x)=t:=List.filter_eq_self.2 (fun y hy=>zky (by have:=hx y hy; omega));rw[zk3 (show n≤x by omega),zky (show n<x by omega),h3,h4]; rfl
theorem yTf {m:dM} (n:Int) (h:yx m=true):yx (spoil m n)=true:=by
 unfold spoil;cases hc:(yx m&&(inb n m.1.length&& !(m.2.2.2.any (· ==n))))
 ·exact h
 ·simp only[Bool.and_eq_true]at hc
  have hi:=zj6.1 hc.2.1;obtain⟨h1,h2,h3,h4,h5,h6⟩:=ycM h;rw[ys1]at h3;refine ysa h1 h2 ?_ h4 h5 h6;show ypr m.1.length (yvk m.2.2.2 n)=true;rw[ys1];unfold yvk;refine⟨fun x hx=> ?_,?_⟩
  ·rcases List.mem_append.1 hx with g | g
   ·exact h3.1 x (List.mem_filter.1 g).1
   ·rcases List.mem_cons.1 g with rfl | g
    ·exact hi
    ·exact h3.1 x (List.mem_filter.1 g).1
  ·rw[List.pairwise_append,List.pairwise_cons]
   refine⟨h3.2.filter _,⟨fun y hy=>zka.1 (List.mem_filter.1 hy).2,h3.2.filter _⟩,fun x hx y hy=> ?_⟩;have g1:=zka.1 (List.mem_filter.1 hx).2;rcases List.mem_cons.1 hy with rfl | hy
   ·exact g1
   ·exact Int.lt_trans g1 (zka.1 (List.mem_filter.1 hy).2)
theorem yoF (m:dM) (n:Int):(spoil m n).1=m.1∧(spoil m n).2.2.1=m.2.2.1:=by
 unfold spoil;cases(yx m&&(inb n m.1.length&& !(m.2.2.2.any (· ==n))))<;>exact⟨rfl,rfl⟩
def yaj (g:dG) (s:Int):Bool:=ye g&&(leb 0 s&&leb s (g.2-1))
def yk (g:dG) (s:Int):Int:=bif yaj g s then g.1-1-s.tmod g.1 else -1
def ybP (g:dG) (s i:Int):Int:=bif yaj g s&&(leb 0 i&&leb i (g.1-2))then(yk g s+1+i).tmod g.1 else -1
theorem yad {g:dG} {s:Int}:yaj g s=true↔ye g=true∧0≤s∧s≤g.2-1:=by simp[yaj,zj7]
theorem yk6 {g:dG} {s:Int} (h:yaj g s=true):0≤yk g s∧yk g s≤g.1-1:=by
 have h1:=yad.1 h;have h2:=yj.1 h1.1;unfold yk;rw[h,cond_true,Int.tmod_eq_emod_of_nonneg h1.2.1];have:=Int.emod_nonneg s (show g.1≠0 by omega);have:=Int.emod_lt_of_pos s (show 0<g.1 by omega);omega
theorem yXP {g:dG} {s i:Int} (h:yaj g s=true) (h1:0≤i) (h2:i≤g.1-2):0≤ybP g s i∧ybP g s i≤g.1-1:=by
 have h3:=yj.1 (yad.1 h).1;have h4:=yk6 h;unfold ybP;rw[h,zk2 h1,zk2 h2,Bool.and_self,Bool.and_self,cond_true,Int.tmod_eq_emod_of_nonneg (by omega)];have:=Int.emod_nonneg (yk g s+1+i) (show g.1≠0 by omega);have:=Int.emod_lt_of_pos (yk g s+1+i) (show 0<g.1 by omega);omega
def yJ (p:Nat→Bool):Nat→Int
 | 0=> -1
 | n+1=>bif p n then yJ p n else n
def ye8 (p:Nat→Bool) (n:Nat):Bool:=(List.range n).any (fun i=> !p i&&leb 0 (yJ p i))
theorem yL3 (p:Nat→Bool): ∀n,yJ p n= -1∨(0≤yJ p n∧yJ p n<n∧p (yJ p n).toNat=false)
 | 0=> .inl rfl
 | n+1=>by
  unfold yJ;cases h:p n
  ·exact .inr ⟨by show(0:Int)≤n; omega,by show(n:Int)<_; omega,h⟩
  ·rcases yL3 p n with h1 | h1
   ·exact .inl h1
   ·exact .inr ⟨h1.1,by show yJ p n<_; omega,h1.2.2⟩
def yal (a:dA) (s:Int) (n:Nat):List Int:=(List.range n).map (fun(i:Nat)=>yjE a i s)
theorem yfG (a:dA) (s:Int) (n:Nat):(yal a s n).length=n:=by unfold yal; rw[List.length_map,List.length_range]
theorem yJ6 (a:dA) (s:Int) (n:Nat):yal a s n++ [yjE a n s]=yal a s (n+1):=by unfold yal; rw[List.range_succ,List.map_append]; rfl
theorem y3D (a:dA) (s:Int) {i n:Nat} (h:i<n):nth (yal a s n) i 0=yjE a i s:=by
 unfold yal;rw[zkS,zkJ (by rw[List.length_map,List.length_range]; exact h)]; simp
def yK (a:dA) (s:Int):List Int×Bool :=bif ye8 (fun(i:Nat)=>yD a i s) a.2.1.1.toNat then([],false) else bif leb 0 (yJ (fun(i:Nat)=>yD a i s) a.2.1.1.toNat)then((yal a s a.2.1.1.toNat).set (yJ (fun(i:Nat)=>yD a i s) a.2.1.1.toNat).toNat (yaF (yal a s a.2.1.1.toNat)),true) else(yal a s a.2.1.1.toNat,true)
theorem yHm {a:dA} {s:Int} (h:(yK a s).2=true):(yK a s).1.length=a.2.1.1.toNat:=by
 unfold yK at h ⊢;cases h1:ye8 (fun(i:Nat)=>yD a i s) a.2.1.1.toNat
 ·cases leb 0 (yJ (fun(i:Nat)=>yD a i s) a.2.1.1.toNat)
  ·exact yfG _ _ _
  ·simp only[cond_false,cond_true,List.length_set]; exact yfG _ _ _
 ·rw[h1]at h; cases h
theorem yZ3 (a:dA) (s:Int) (n:Nat) (h:leb 0 (yJ (fun(i:Nat)=>yD a i s) n)=true):inb (yJ (fun(i:Nat)=>yD a i s) n) (yal a s n).length=true∧yod (yal a s n) (yJ (fun(i:Nat)=>yD a i s) n)=yaF (yal a s n):=by
 rcases yL3 (fun(i:Nat)=>yD a i s) n with h1 | h1
 ·rw[h1]at h; cases h
 ·have h2:inb (yJ (fun(i:Nat)=>yD a i s) n) (yal a s n).length=true:=by rw[yfG,zj6]; exact⟨h1.1,h1.2.1⟩
  refine⟨h2,y45 h2 ?_⟩;have h3:=y3D a s (show(yJ (fun(i:Nat)=>yD a i s) n).toNat<n by omega);rw[show(((yJ (fun(i:Nat)=>yD a i s) n).toNat:Nat):Int)=yJ (fun(i:Nat)=>yD a i s) n by omega]at h3;rw[h3];unfold yjE
  have h4:yD a (yJ (fun(i:Nat)=>yD a i s) n) s=false:=by
   have:=h1.2.2;have this:yD a ((yJ (fun(i:Nat)=>yD a i s) n).toNat:Nat) s=false:=h1.2.2;rwa[show(((yJ (fun(i:Nat)=>yD a i s) n).toNat:Nat):Int)=yJ (fun(i:Nat)=>yD a i s) n by omega]at this
  rw[h4]; rfl
def yrA (a:dA) (s:Int):List Int×Bool:=bif(yK a s).2 then((List.range (a.2.1.1-1).toNat).map (fun(i:Nat)=>nth (yK a s).1 (ybP a.2.1 s i) 0),true)else([],false)
def ydU (a:dA) (s:Int):List Int×Bool:=bif yM a&&(!a.2.2.2.2.2.2.2.2.2.2.2&&yaj a.2.1 s)then yrA a s else([],false)
theorem y4M (a:dA) (s:Int):(yrA a s).1.length≤(a.2.1.1-1).toNat:=by
 unfold yrA;cases(yK a s).2
 ·exact Nat.zero_le _
 ·simp
def ypu (a:dA):List Int:=bif yM a&&(List.range a.2.1.2.toNat).all (fun(s:Nat)=>(ydU a s).2)then(List.range a.2.1.2.toNat).flatMap (fun(s:Nat)=>(ydU a s).1)else[]
theorem yHG (g:dG) (s:Int):ya7 g s=yaj g s:=by
 unfold ya7 yaj;rw[yLW];cases hg:ye g
 ·rfl
 have:=yj.1 hg;rw[yar,ybX,wr (by omega) (by omega)]; rfl
theorem y4e {a:dA} (s:Int) (hg:ye a.2.1=true):(ydU a s).1.length≤4:=by
 have:=yj.1 hg;unfold ydU;cases(yM a&&(!a.2.2.2.2.2.2.2.2.2.2.2&&yaj a.2.1 s))
 ·exact Nat.zero_le _
 ·have:=y4M a s
  show(yrA a s).1.length≤4;omega
theorem yU6 (p:Nat→Bool): ∀n,leb 0 (yJ p n)=decide (1≤ydx p n)∧ye8 p n=decide (2≤ydx p n)
 | 0=>⟨rfl,rfl⟩
 | n+1=>by
  obtain⟨h1,h2⟩:=yU6 p n
  have e:ye8 p (n+1)=(ye8 p n||(!p n&&leb 0 (yJ p n))):=by
   unfold ye8;rw[List.range_succ,List.any_append]; simp
  have e2:yJ p (n+1)=bif p n then yJ p n else n:=rfl;rw[e,e2,ylu,h2,h1];cases hp:p n
  ·simp only[cond_false,Bool.not_false,Bool.true_and]
   refine⟨by rw[zk2 (show(0:Int)≤n by omega)]; simp,?_⟩;rw[Bool.eq_iff_iff,Bool.or_eq_true,decide_eq_true_eq,decide_eq_true_eq,decide_eq_true_eq]; omega
  ·simp[h1]
def ycm (m:dM) (n:Int):List Int:=yhE n m.2.1 (nth m.1 n [])
def ya0 (m:dM) (n:Int):Bool:=m.2.2.2.any (· ==n)
def ynV (m:dM) (n:Int) (v:List Int):Prop:=v=nth m.1 n []∨ ∃w∈m.2.1,w.1=n∧w.2=v
theorem yVj (n:Int): ∀(c:List dW) (s:List Int),yhE n c s=s∨ ∃w∈c,w.1=n∧w.2=yhE n c s
 | [],s=> .inl rfl
 | w::c,s=>by
  show yhE n c (bif w.1==n then w.2 else s)=s∨ ∃x∈w::c,x.1=n∧x.2=yhE n c (bif w.1==n then w.2 else s);rcases yVj n c (bif w.1==n then w.2 else s)with h | ⟨x,hx,h1,h2⟩
  ·rw[h]
   cases hw:(w.1==n)
   ·exact .inl rfl
   ·exact .inr ⟨w,List.mem_cons_self,beq_iff_eq.1 hw,rfl⟩
  ·exact .inr ⟨x,List.mem_cons_of_mem _ hx,h1,h2⟩
theorem yxV (m:dM) (n:Int):ynV m n (ycm m n):=yVj n m.2.1 _
theorem yPL (n:Int) (c:List dW) (w:dW) (s:List Int):yhE n (c++ [w]) s=bif w.1==n then w.2 else yhE n c s:=by
 unfold yhE; rw[List.foldl_append]; rfl
theorem yTe {m:dM} {n:Int} (h:yx m=true) (h1:m.2.2.1=false) (h2:inb n m.1.length=true):yW m n=bif ya0 m n then([],false)else(ycm m n,true):=by
 unfold yW ys4;rw[h,h1,h2];show(bif !(ya0 m n)then(ycm m n,true)else([],false))=_;cases ya0 m n<;>rfl
theorem yqS {m:dM} {n:Int} {s:List Int} (h:yx m=true) (h1:m.2.2.1=false) (h2:inb n m.1.length=true) (h3:yaB s=true) (h4:m.2.1.length<60):ybp m n s=true:=by
 unfold ybp;rw[h,h1,h2,h3,zky (by omega)]; rfl
theorem yJF {m:dM} {n:Int} {s:List Int} (h:ybp m n s=true):(yab m n s).1=(m.1,m.2.1++ [(n,s)],m.2.2.1,yJy m.2.2.2 n):=by unfold yab; rw[h]; rfl
theorem yn3 {m:dM} {n:Int} {s:List Int} (h:ybp m n s=true) (k:Int):ycm (yab m n s).1 k=bif n==k then s else ycm m k:=by
 rw[yJF h]; exact yPL _ _ _ _
theorem y5v (l:List Int) (n k:Int):(yJy l n).any (· ==k)=(l.any (· ==k)&&k !=n):=by
 rw[Bool.eq_iff_iff];simp only[yJy,List.any_eq_true,List.mem_filter,Bool.and_eq_true,beq_iff_eq,bne_iff_ne];constructor
 ·rintro⟨x,⟨h1,h2⟩,rfl⟩; exact⟨⟨x,h1,rfl⟩,h2⟩
 ·rintro⟨⟨x,h1,rfl⟩,h2⟩; exact⟨x,⟨h1,h2⟩,rfl⟩
theorem yyP {m:dM} {n:Int} {s:List Int} (h:ybp m n s=true) (k:Int):ya0 (yab m n s).1 k=(ya0 m k&&k !=n):=by
 rw[yJF h]; exact y5v _ _ _
theorem y4x {m:dM} {n:Int} {s:List Int} {k:Int} {v:List Int} (h:ynV (yab m n s).1 k v):ynV m k v∨(k=n∧v=s):=by
 cases hc:ybp m n s
 ·unfold yab at h; rw[hc]at h; exact .inl h
 ·rw[yJF hc]at h
  rcases h with h | ⟨w,hw,h1,h2⟩
  ·exact .inl (.inl h)
  ·rcases List.mem_append.1 hw with hw | hw
   ·exact .inl (.inr ⟨w,hw,h1,h2⟩)
   ·rw[List.mem_singleton.1 hw]at h1 h2; exact .inr ⟨h1.symm,h2.symm⟩
theorem yFa {α:Type} {l:List α} {i k:Int} {x d:α} (hi:inb i l.length=true) (hk:0≤k):nth (l.set i.toNat x) k d=bif i==k then x else nth l k d:=by
 have h1:=zj6.1 hi;unfold nth;rw[List.getD_eq_getElem?_getD,List.getD_eq_getElem?_getD,List.getElem?_set];by_cases h:i=k
 ·subst h; simp[show i.toNat<l.length by omega]
 ·rw[if_neg (by omega),show(i==k)=false from beq_eq_false_iff_ne.2 h]; rfl
theorem y3Q (b:Nat→Bool) {c:List dW} {l:List (List Int)} {k:Int} (hk:0≤k) (hc: ∀w∈c,inb w.1 l.length=true) :
  ∀n,n≤c.length→((List.range n).foldl (yfz b c) l).length=l.length∧(nth ((List.range n).foldl (yfz b c) l) k []=nth l k []∨ ∃w∈c,w.1=k∧w.2=nth ((List.range n).foldl (yfz b c) l) k []) ∧
   ((∀i,b i=true)→nth ((List.range n).foldl (yfz b c) l) k []=yhE k (c.take n) (nth l k [])):=by
 intro n
 induction n with
 | zero=>intro _; exact⟨rfl,.inl rfl,fun _=>rfl⟩
 | succ n ih =>
  intro hn;obtain⟨h1,h2,h3⟩:=ih (by omega);rw[List.range_succ,List.foldl_append,List.foldl_cons,List.foldl_nil];have hnc:n<c.length:=by omega
  generalize (List.range n).foldl (yfz b c) l=L at h1 h2 h3 ⊢;refine⟨yvm.trans h1,?_⟩;unfold yfz;rw[zkS,zkJ hnc];have hw:inb c[n].1 L.length=true:=by rw[h1]; exact hc _ (List.getElem_mem hnc)
  cases hb:b n
  ·refine⟨h2,fun h=> ?_⟩
   rw[h n]at hb; cases hb
  ·simp only[cond_true,yFa hw hk]
   constructor
   ·cases he:(c[n].1==k)
    ·exact h2
    ·exact .inr ⟨c[n],List.getElem_mem hnc,beq_iff_eq.1 he,rfl⟩
   ·intro h
    rw[h3 h,List.take_add_one,List.getElem?_eq_getElem hnc];exact(yPL k _ _ _).symm
theorem y2R {m:dM} (h:yx m=true): ∀w∈m.2.1,inb w.1 m.1.length=true:=fun w hw=>by
 have:=List.all_eq_true.1 (ycM h).2.1 w hw;simp only[ys0,Bool.and_eq_true]at this; exact this.1
theorem y4T {m:dM} {k:Int} (h:yx m=true) (h1:m.2.2.1=false) (hk:0≤k):nth (yC m).1 k []=ycm m k:=by
 have:=(y3Q (fun _=>true) hk (y2R h) m.2.1.length (Nat.le_refl _)).2.2 (fun _=>rfl);rw[List.take_length]at this;unfold yC;rw[h,h1]; exact this
theorem yvb {m:dM} (h:yx m=true) (h1:m.2.2.1=false):(yC m).2.1= []∧(yC m).2.2=m.2.2:=by
 unfold yC;rw[h,h1];refine⟨rfl,?_⟩;show(false,m.2.2.2)=m.2.2;rw[← h1]
theorem yu9 {m:dM} {k:Int} {v:List Int} (h:yx m=true) (h1:m.2.2.1=false) (hk:0≤k) (hv:ynV (yC m) k v):v=ycm m k:=by
 rcases hv with hv | ⟨w,hw,_⟩
 ·rw[hv,y4T h h1 hk]
 ·rw[(yvb h h1).1]at hw; cases hw
theorem y4S {m:dM} {k:Int} (h:yx m=true) (h1:m.2.2.1=false) (hk:0≤k):ycm (yC m) k=ycm m k:=yu9 h h1 hk (yxV _ _)
theorem yLh (m:dM) (k:Int):ya0 (yC m) k=ya0 m k:=by
 unfold yC;cases(yx m&& !m.2.2.1)<;>rfl
theorem y5D {m:dM} (h:yx m=true) (ks:Int) {k:Int} (hk:0≤k):ynV m k (nth (yd7 m ks).1 k []):=by
 have:=(y3Q (fun i=>decide (i<20)&&yM4 (yU3 ks) i) hk (y2R h) m.2.1.length (Nat.le_refl _)).2.1;unfold yd7;rw[h];rcases this with h1 | ⟨w,hw,h1,h2⟩
 ·exact .inl h1
 ·exact .inr ⟨w,hw,h1,h2⟩
theorem yZS {m:dM} (h:yx m=true) (ks:Int):(yd7 m ks).2.1= []∧(yd7 m ks).2.2=m.2.2∧(yd7 m ks).1.length=m.1.length:=by
 unfold yd7;rw[h];exact⟨rfl,rfl,yq0⟩
theorem y6l {m:dM} (h:yx m=true) (ks:Int):yx (yd7 m ks)=true:=by
 obtain⟨h1,h2,h3,h4,h5,h6⟩:=ycM h;obtain⟨e1,e2,e3⟩:=yZS h ks;refine ysa ?_ (by rw[e1]; rfl) (by rw[e2,e3]; exact h3) (by omega) (by omega) (by rw[e1]; exact Nat.zero_le _);have:=yU5 (fun i=>decide (i<20)&&yM4 (yU3 ks) i) h;unfold yd7;rw[h]; exact this
theorem y6B {x:Int} (h:isW x=true):(bv x).toNat<2^16:=by
 have:=ytc.1 h;unfold bv;rw[BitVec.toNat_ofInt];omega
theorem y6F {v:BitVec 64} (h:v.toNat<2^16):isW v.toInt=true:=by
 rw[BitVec.toInt_eq_toNat_of_lt (by omega)];exact ytc.2 (by omega)
theorem y6z: ∀(l:List Int),l.all isW=true→(yfH l).toNat<2^16:=by
 intro l h
 have: ∀(l:List Int) (v:BitVec 64),v.toNat<2^16→l.all isW=true→(l.foldl (fun v x=>v ^^^ bv x) v).toNat<2^16:=by
  intro l
  induction l with
  | nil=>intro v hv _; exact hv
  | cons x t ih =>
   intro v hv h;simp only[List.all_cons,Bool.and_eq_true]at h;refine ih _ ?_ h.2;rw[BitVec.toNat_xor];exact Nat.xor_lt_two_pow hv (y6B h.1)
 exact this l 0#64 (by decide) h
theorem y0d {l:List Int} (h:l.all isW=true):isW (yaF l)=true:=by
 rw[yoU]; exact y6F (y6z l h)
theorem yH6 {l:List Int}:l.all isW=true↔ ∀x∈l,isW x=true:=by simp
theorem yYH {l:List Int} {i:Int} (h:l.all isW=true):isW (nth l i 0)=true:=by
 unfold nth;rw[List.getD_eq_getElem?_getD];cases e:l[i.toNat]? with
 | none=>rfl
 | some x=>exact yH6.1 h x (List.mem_of_getElem? e)
theorem yZB {l:List Int} {i:Nat} {x:Int} (h:l.all isW=true) (hx:isW x=true):(l.set i x).all isW=true:=by
 rw[yH6]at h ⊢;intro y hy;rcases List.mem_or_eq_of_mem_set hy with h1 | rfl
 ·exact h y h1
 ·exact hx
theorem y4y {m:dM} {n:Int} (h:(yW m n).2=true):yaB (yW m n).1=true:=by
 unfold yW at h ⊢;cases hc:ys4 m n
 ·rw[hc]at h; cases h
 ·simp only[ys4,Bool.and_eq_true]at hc
  obtain⟨h1,h2,h3,_,_,_⟩:=ycM hc.1;refine yJp (P:=fun s=>yaB s=true) ?_ fun w hw=> ?_
  ·exact yIw (P:=fun s=>yaB s=true) hc.2.2.1 (fun x hx=>List.all_eq_true.1 h1 x hx)
  ·have:=List.all_eq_true.1 h2 w hw
   simp only[ys0,Bool.and_eq_true]at this;exact this.2
theorem y6c (a:dA) (m s:Int):isW (yjE a m s)=true:=by
 unfold yjE;cases h:yD a m s
 ·rfl
 ·simp only[yD,Bool.and_eq_true]at h
  have:=y4y (m:=nth a.2.2.1 m yc) (n:=yu s) h.2.1;simp only[yaB,Bool.and_eq_true]at this;exact yYH this.2
theorem yFJ (a:dA) (s:Int) (n:Nat):(yal a s n).all isW=true:=by
 rw[yH6];unfold yal;intro x hx;obtain⟨i,_,rfl⟩:=List.mem_map.1 hx;exact y6c a i s
theorem y5r (a:dA) (s:Int):(yK a s).1.all isW=true:=by
 unfold yK;cases ye8 (fun(i:Nat)=>yD a i s) a.2.1.1.toNat
 ·cases leb 0 (yJ (fun(i:Nat)=>yD a i s) a.2.1.1.toNat)
  ·exact yFJ _ _ _
  ·exact yZB (yFJ _ _ _) (y0d (yFJ _ _ _))
 ·rfl
theorem yZN (a:dA) (s:Int):(yrA a s).1.all isW=true:=by
 unfold yrA;cases(yK a s).2
 ·rfl
 ·rw[yH6]
  intro x hx;obtain⟨i,_,rfl⟩:=List.mem_map.1 hx;exact yYH (y5r a s)
def yo0:Code:=(f126.body).getD .skip
def yw4:Env:=zkw TT [(109,yfx),(129,yGn)] []
theorem yN3:FrOk prog ⟨yw4,44,fun _=>none⟩ yo0:=zkA mixed yf ⟨yj1,yZc,trivial⟩
def yDa:Nat→Option Seg:=fun _=>none
def ych:Shape:=⟨[(1,false,[.ptr 0 0]),(6,false,[.br tW]),(7,false,[ii]),(8,false,[ii])],[(0,oJ)],[]⟩
def ygq:Shape:=⟨[(1,false,[.ptr 0 0]),(6,false,[.br tW]),(7,false,[ii]),(8,false,[.ci .i64 0])],[(0,oJ)],[]⟩
def yge:Shape:=⟨[],[],[]⟩
def ygx:Shape:=⟨[(2,false,[.bool])],[],[]⟩
abbrev yol (v0:List dW) (v1 v2:Int) (v3:dA):(ych).X:=((((),()),(v0,()),(v1,()),(v2,()),()),((v3.1,v3.2.1.1,v3.2.1.2,v3.2.2.1,v3.2.2.2.1,v3.2.2.2.2.1,v3.2.2.2.2.2.1,v3.2.2.2.2.2.2.1,v3.2.2.2.2.2.2.2.1,v3.2.2.2.2.2.2.2.2.1,v3.2.2.2.2.2.2.2.2.2.1,v3.2.2.2.2.2.2.2.2.2.2.1,v3.2.2.2.2.2.2.2.2.2.2.2,()),()),())
abbrev yMh (v0:List dW) (v1:Int) (v2:dA):(ygq).X:=((((),()),(v0,()),(v1,()),((),()),()),((v2.1,v2.2.1.1,v2.2.1.2,v2.2.2.1,v2.2.2.2.1,v2.2.2.2.2.1,v2.2.2.2.2.2.1,v2.2.2.2.2.2.2.1,v2.2.2.2.2.2.2.2.1,v2.2.2.2.2.2.2.2.2.1,v2.2.2.2.2.2.2.2.2.2.1,v2.2.2.2.2.2.2.2.2.2.2.1,v2.2.2.2.2.2.2.2.2.2.2.2,()),()),())
abbrev yL6  :(yge).X:=((),(),())
abbrev yMo (v0:Bool):(ygx).X:=(((v0,()),()),(),())
def yoN (v0:List dW) (v1 v2 v3 v4 v5:Int) (v6:List dM) (v7 v8 v9 v10 v11:Int) (v12:List dW) (v13:Int) (v14 v15:Bool):Option ((ych).X ⊕ ((yge).X ⊕ (ygx).X)) :=bif(ltb v2 v1)then bif(inb v2 v0.length)then let r4:=ya7 (v4,v5) ((nth v0 v2 (0,[])).1);bif(!(!r4))then bif(ltb 0 v2)then bif(inb (i64.wrap (v2-1)) v12.length)then bif(!(leb ((nth v0 v2 (0,[])).1) ((nth v12 (i64.wrap (v2-1)) (0,[])).1)))then let r5:=yl7 (v4,v5) ((nth v0 v2 (0,[])).2);bif(!r5)then some (.inr (.inr (((false,()),()),(),()))) else some (.inl ((((),()),(v0,()),(v1,()),((i64.wrap (v2+1)),()),()),((v3,v4,v5,v6,v7,v8,v9,v10,v11,v12,v13,v14,v15,()),()),())) else some (.inr (.inr (((false,()),()),(),()))) else none else let r6:=yl7 (v4,v5) ((nth v0 v2 (0,[])).2);bif(!r6)then some (.inr (.inr (((false,()),()),(),()))) else some (.inl ((((),()),(v0,()),(v1,()),((i64.wrap (v2+1)),()),()),((v3,v4,v5,v6,v7,v8,v9,v10,v11,v12,v13,v14,v15,()),()),())) else some (.inr (.inr (((false,()),()),(),()))) else none else some (.inr (.inl ((),(),())))
def ycB (x:(ych).X):=yoN x.1.2.1.1 x.1.2.2.1.1 x.1.2.2.2.1.1 x.2.1.1.1 x.2.1.1.2.1 x.2.1.1.2.2.1 x.2.1.1.2.2.2.1 x.2.1.1.2.2.2.2.1 x.2.1.1.2.2.2.2.2.1 x.2.1.1.2.2.2.2.2.2.1 x.2.1.1.2.2.2.2.2.2.2.1 x.2.1.1.2.2.2.2.2.2.2.2.1 x.2.1.1.2.2.2.2.2.2.2.2.2.1 x.2.1.1.2.2.2.2.2.2.2.2.2.2.1 x.2.1.1.2.2.2.2.2.2.2.2.2.2.2.1 x.2.1.1.2.2.2.2.2.2.2.2.2.2.2.2.1
def yzd (x:(ygq).X):(ych).X:=((((),()),(x.1.2.1.1,()),(x.1.2.2.1.1,()),(0,()),()),((x.2.1.1.1,x.2.1.1.2.1,x.2.1.1.2.2.1,x.2.1.1.2.2.2.1,x.2.1.1.2.2.2.2.1,x.2.1.1.2.2.2.2.2.1,x.2.1.1.2.2.2.2.2.2.1,x.2.1.1.2.2.2.2.2.2.2.1,x.2.1.1.2.2.2.2.2.2.2.2.1,x.2.1.1.2.2.2.2.2.2.2.2.2.1,x.2.1.1.2.2.2.2.2.2.2.2.2.2.1,x.2.1.1.2.2.2.2.2.2.2.2.2.2.2.1,x.2.1.1.2.2.2.2.2.2.2.2.2.2.2.2.1,()),()),())
def yBF:Code:=(zd7 yo0 64 52).getD .skip
theorem yNH:zd7 yo0 64 13=some (.block 0 (.loop yBF)):=by kernel_rfl
theorem yPu (x:(ych).X):zhu ⟨yw4,44,yDa⟩ 0 yBF 52 ych yge ygx x=ycB x:=by kernel_rfl
def yzs (x:(ygq).X):Nat:=18446744073709551616
def ypU (x:(ygq).X):Option ((yge).X ⊕ (ygx).X):=zF ycB (yzs x) (yzd x)
def yzS:Seg:=⟨ygq,yge,ygx,ypU⟩
def yP0:Nat→Option Seg:=fun q=>bif Nat.beq q 13 then some yzS else yDa q
theorem yN4:FrOk prog ⟨yw4,44,yP0⟩ yo0:=(yN3).loop (sg:=yzS) ych yzd (by decide) yNH ycB yzs (by decide) (fun _=>rfl) (fun x r _ h=>h) yPu
abbrev yj8:List Par:= [.rd tA]
abbrev ypi:List OT:= [⟨false,tB,.fz⟩]
def ysA (a0:dA):Option (zaY ypi×zak yj8) :=zkt (ypU ((((),()),(a0.2.2.2.2.2.2.2.2.1,()),((a0.2.2.2.2.2.2.2.2.1.length:Int),()),((),()),()),((a0.1,a0.2.1.1,a0.2.1.2,a0.2.2.1,a0.2.2.2.1,a0.2.2.2.2.1,a0.2.2.2.2.2.1,a0.2.2.2.2.2.2.1,a0.2.2.2.2.2.2.2.1,a0.2.2.2.2.2.2.2.2.1,a0.2.2.2.2.2.2.2.2.2.1,a0.2.2.2.2.2.2.2.2.2.2.1,a0.2.2.2.2.2.2.2.2.2.2.2,()),()),())) (fun y6 =>some ((true,()),())) (fun y6 =>some ((y6.1.1.1,()),()))
theorem ySp:ConOk prog 126 ⟨yj8,ypi,fun x=>ysA x.1⟩:=zkI (yN4) func126 ntmps126.symm fun x=>by kernel_rfl
def ykF (a0:dA):Bool:=ya2 a0.2.1 a0.2.2.2.2.2.2.2.2.1
def yx6 (a0:dA):Bool:=ye a0.2.1
theorem yGM (l:List Int):yaI l=l.all isW:=by
 unfold yaI;rw[show yaQ=isW from funext fun x=>by unfold yaQ; rw[yar,ybX]; rfl]
theorem yVs (a0:dA) (hk:zjx yj8 (a0,())) (hq:yx6 a0=true):ysA a0=(fun n=>some ((n,()),())) (ykF a0):=by
 have hb:a0.2.2.2.2.2.2.2.2.1.length*32≤2^47:=hk.1.2.2.2.2.2.2.2.2.1.1;have hg:=yj.1 hq;have hq':ye a0.2.1=true:=hq
 have h1:ypU (yMh a0.2.2.2.2.2.2.2.2.1 a0.2.2.2.2.2.2.2.2.1.length a0)=some (bif(List.range a0.2.2.2.2.2.2.2.2.1.length).any (yh3 a0.2.1 a0.2.2.2.2.2.2.2.2.1)then .inr (yMo false)else .inl yL6) :=
  zji (step:=ycB) (fun i=>yol a0.2.2.2.2.2.2.2.2.1 a0.2.2.2.2.2.2.2.2.1.length i a0) a0.2.2.2.2.2.2.2.2.1.length (yh3 a0.2.1 a0.2.2.2.2.2.2.2.2.1) _ _ (fun i hi=>by
   simp only[ycB,yol,yoN,zky (show(i:Int)<a0.2.2.2.2.2.2.2.2.1.length by omega),cond_true,wq ((i:Int)+1) (by omega) (by omega),Int.natCast_add,Int.natCast_one,Int.toNat_natCast,zkR hi,zkX,ya7,yl7,yLW,hq',yar,ybX,yGM,wq (a0.2.1.2-1) (by omega) (by omega),wq (a0.2.1.1-1) (by omega) (by omega),yh3,bne];rcases Nat.eq_zero_or_pos i with rfl | h0
   ·cases(leb 0 (nth a0.2.2.2.2.2.2.2.2.1 ((0:Nat):Int) (0,[])).1&&leb (nth a0.2.2.2.2.2.2.2.2.1 ((0:Nat):Int) (0,[])).1 (a0.2.1.2-1))<;>cases(((nth a0.2.2.2.2.2.2.2.2.1 ((0:Nat):Int) (0,[])).2.length:Int)==a0.2.1.1-1)<;>cases((nth a0.2.2.2.2.2.2.2.2.1 ((0:Nat):Int) (0,[])).2.all isW)<;>rfl
   ·rw[show i64.wrap ((i:Int)-1)=((i-1:Nat):Int)by rw[wr (by omega) (by omega)]; omega,zkR (show i-1<a0.2.2.2.2.2.2.2.2.1.length by omega),zky (show(0:Int)<i by omega),decide_eq_true h0]
    cases(leb 0 (nth a0.2.2.2.2.2.2.2.2.1 (i:Int) (0,[])).1&&leb (nth a0.2.2.2.2.2.2.2.2.1 (i:Int) (0,[])).1 (a0.2.1.2-1))<;>cases(((nth a0.2.2.2.2.2.2.2.2.1 (i:Int) (0,[])).2.length:Int)==a0.2.1.1-1)<;>cases((nth a0.2.2.2.2.2.2.2.2.1 (i:Int) (0,[])).2.all isW)<;>cases leb (nth a0.2.2.2.2.2.2.2.2.1 (i:Int) (0,[])).1 (nth a0.2.2.2.2.2.2.2.2.1 ((i-1:Nat):Int) (0,[])).1<;>rfl) (by simp only[ycB,yol,yoN,zk3 (Int.le_refl _),cond_false]) _ (by show _<18446744073709551616; omega)
 unfold ysA ykF ya2;rw[h1];cases(List.range a0.2.2.2.2.2.2.2.2.1.length).any (yh3 a0.2.1 a0.2.2.2.2.2.2.2.2.1)<;>rfl
def ypC (a0:dA):Option (zaY ypi×zak yj8):=bif yx6 a0 then(fun n=>some ((n,()),())) (ykF a0)else none
theorem yWD (a0:dA) (h:yx6 a0=true):ypC a0=(fun n=>some ((n,()),())) (ykF a0):=by unfold ypC; rw[h]; rfl
def yEi:Con:=⟨yj8,ypi,fun x=>ypC x.1⟩
theorem yWs:ConOk prog 126 yEi:=(ySp).mono (fun x r hk h=>zkY h (fun hq=>yVs x.1 hk hq))
def y0p:Code:=(f156.body).getD .skip
def y0X:Env:=zkw TT [(81,yR)] []
theorem yQF:FrOk prog ⟨y0X,11,fun _=>none⟩ y0p:=zkA mixed yf ⟨yac,trivial⟩
abbrev yAe:List Par:= [.rd tM,.rd tI]
abbrev yAF:List OT:= [⟨false,tB,.fz⟩]
def yG6 (a0:dM) (a1:Int):Option (zaY yAF×zak yAe) :=let r1:=yi a1 0 (i64.wrap ((a0.1.length:Int)-1));some ((r1,()),())
theorem yVV:ConOk prog 156 ⟨yAe,yAF,fun x=>yG6 x.1 x.2.1⟩:=zkI (yQF) func156 ntmps156.symm fun x=>by kernel_rfl
def ybT (a0:dM) (a1:Int):Bool :=let r1:=yi a1 0 (i64.wrap ((a0.1.length:Int)-1));r1
def yns:Con:=⟨yAe,yAF,fun x=>(fun n=>some ((n,()),())) (ybT x.1 x.2.1)⟩
theorem yYj (a0:dM) (a1:Int):yG6 a0 a1=(fun n=>some ((n,()),())) (ybT a0 a1):=zkV (p:=fun(n:Bool)=>((n,()),())) rfl
theorem yx1:ConOk prog 156 yns:=(yVV).mono (fun x r _ h=>(yYj x.1 x.2.1).trans h)
def y19:Code:=(f186.body).getD .skip
def y2m:Env:=zkw TT [(187,yls)] []
theorem yUv:FrOk prog ⟨y2m,10,fun _=>none⟩ y19:=zkA mixed yf ⟨yvy,trivial⟩
abbrev yDu:List Par:= [.rd tL]
abbrev yDG:List OT:= [⟨false,tB,.fz⟩]
def yIQ (a0:List Int):Option (zaY yDG×zak yDu) :=bif(leb (a0.length:Int) 12)then let r1:=yaI a0;some ((r1,()),()) else some ((false,()),())
theorem yYN:ConOk prog 186 ⟨yDu,yDG,fun x=>yIQ x.1⟩:=zkI (yUv) func186 ntmps186.symm fun x=>by kernel_rfl
def yhx (a0:List Int):Bool :=bif(leb (a0.length:Int) 12)then let r1:=yaI a0;r1 else false
def yxM:Con:=⟨yDu,yDG,fun x=>(fun n=>some ((n,()),())) (yhx x.1)⟩
theorem y1q (a0:List Int):yIQ a0=(fun n=>some ((n,()),())) (yhx a0):=zkV (p:=fun(n:Bool)=>((n,()),())) (zkG (p:=fun(n:Bool)=>((n,()),())) rfl rfl)
theorem yJS:ConOk prog 186 yxM:=(yYN).mono (fun x r _ h=>(y1q x.1).trans h)
theorem yHF:yhx=yaB:=funext fun s=>by
 unfold yhx yaB yaI;rw[show yaQ=isW from funext fun x=>by unfold yaQ; rw[yar,ybX]; rfl];cases leb (s.length:Int) 12<;>rfl
def ycI:Code:=(f127.body).getD .skip
def ygX:Env:=zkw TT [(81,yR),(156,yns),(186,yxM)] []
theorem yUq:FrOk prog ⟨ygX,76,fun _=>none⟩ ycI:=zkA mixed yf ⟨yac,yx1,yJS,trivial⟩
def yHS:Nat→Option Seg:=fun _=>none
def ydA:Shape:=⟨[(1,false,[.ptr 0 0]),(10,false,[.br tL]),(11,false,[ii]),(12,false,[ii])],[(0,oL)],[]⟩
def yiE:Shape:=⟨[(1,false,[.ptr 0 0]),(10,false,[.br tL]),(11,false,[ii]),(12,false,[.ci .i64 0])],[(0,oL)],[]⟩
def yip:Shape:=⟨[(1,false,[.ptr 0 0])],[(0,oL)],[]⟩
def yiX:Shape:=⟨[(2,false,[.bool])],[],[]⟩
abbrev ysc (v0:List (List Int)) (v1 v2:Int) (v3:dM):(ydA).X:=((((),()),(v0,()),(v1,()),(v2,()),()),((v3.1,v3.2.1,v3.2.2.1,v3.2.2.2,()),()),())
abbrev yRy (v0:List (List Int)) (v1:Int) (v2:dM):(yiE).X:=((((),()),(v0,()),(v1,()),((),()),()),((v2.1,v2.2.1,v2.2.2.1,v2.2.2.2,()),()),())
abbrev yRq (v0:dM):(yip).X:=((((),()),()),((v0.1,v0.2.1,v0.2.2.1,v0.2.2.2,()),()),())
abbrev yRM (v0:Bool):(yiX).X:=(((v0,()),()),(),())
def ysM (v0:List (List Int)) (v1 v2:Int) (v3:List (List Int)) (v4:List dW) (v5:Bool) (v6:List Int):Option ((ydA).X ⊕ ((yip).X ⊕ (yiX).X)) :=bif(ltb v2 v1)then bif(inb v2 v0.length)then let r2:=yhx (nth v0 v2 []);bif(!r2)then some (.inr (.inr (((false,()),()),(),()))) else some (.inl ((((),()),(v0,()),(v1,()),((i64.wrap (v2+1)),()),()),((v3,v4,v5,v6,()),()),())) else none else some (.inr (.inl ((((),()),()),((v3,v4,v5,v6,()),()),())))
def yea (x:(ydA).X):=ysM x.1.2.1.1 x.1.2.2.1.1 x.1.2.2.2.1.1 x.2.1.1.1 x.2.1.1.2.1 x.2.1.1.2.2.1 x.2.1.1.2.2.2.1
def yEv (x:(yiE).X):(ydA).X:=((((),()),(x.1.2.1.1,()),(x.1.2.2.1.1,()),(0,()),()),((x.2.1.1.1,x.2.1.1.2.1,x.2.1.1.2.2.1,x.2.1.1.2.2.2.1,()),()),())
def yF4:Code:=(zd7 ycI 64 52).getD .skip
theorem yT1:zd7 ycI 64 13=some (.block 0 (.loop yF4)):=by kernel_rfl
theorem yWI (x:(ydA).X):zhu ⟨ygX,76,yHS⟩ 0 yF4 52 ydA yip yiX x=yea x:=by kernel_rfl
def yEM (x:(yiE).X):Nat:=18446744073709551616
def ytK (x:(yiE).X):Option ((yip).X ⊕ (yiX).X):=zF yea (yEM x) (yEv x)
def yFs:Seg:=⟨yiE,yip,yiX,ytK⟩
def ywV:Nat→Option Seg:=fun q=>bif Nat.beq q 13 then some yFs else yHS q
theorem yUr:FrOk prog ⟨ygX,76,ywV⟩ ycI:=(yUq).loop (sg:=yFs) ydA yEv (by decide) yT1 yea yEM (by decide) (fun _=>rfl) (fun x r _ h=>h) yWI
def ydB:Shape:=⟨[(1,false,[.ptr 0 0]),(21,false,[.br tW]),(22,false,[ii]),(23,false,[ii])],[(0,oL)],[]⟩
def yiF:Shape:=⟨[(1,false,[.ptr 0 0]),(21,false,[.br tW]),(22,false,[ii]),(23,false,[.ci .i64 0])],[(0,oL)],[]⟩
def yiq:Shape:=⟨[(1,false,[.ptr 0 0])],[(0,oL)],[]⟩
def yiY:Shape:=⟨[(2,false,[.bool])],[],[]⟩
abbrev ysd (v0:List dW) (v1 v2:Int) (v3:dM):(ydB).X:=((((),()),(v0,()),(v1,()),(v2,()),()),((v3.1,v3.2.1,v3.2.2.1,v3.2.2.2,()),()),())
abbrev yRz (v0:List dW) (v1:Int) (v2:dM):(yiF).X:=((((),()),(v0,()),(v1,()),((),()),()),((v2.1,v2.2.1,v2.2.2.1,v2.2.2.2,()),()),())
abbrev yRr (v0:dM):(yiq).X:=((((),()),()),((v0.1,v0.2.1,v0.2.2.1,v0.2.2.2,()),()),())
abbrev yRN (v0:Bool):(yiY).X:=(((v0,()),()),(),())
def ysN (v0:List dW) (v1 v2:Int) (v3:List (List Int)) (v4:List dW) (v5:Bool) (v6:List Int):Option ((ydB).X ⊕ ((yiq).X ⊕ (yiY).X)) :=bif(ltb v2 v1)then bif(inb v2 v0.length)then let r6:=ybT (v3,v4,v5,v6) ((nth v0 v2 (0,[])).1);bif(!(!r6))then let r7:=yhx ((nth v0 v2 (0,[])).2);bif(!r7)then some (.inr (.inr (((false,()),()),(),()))) else some (.inl ((((),()),(v0,()),(v1,()),((i64.wrap (v2+1)),()),()),((v3,v4,v5,v6,()),()),())) else some (.inr (.inr (((false,()),()),(),()))) else none else some (.inr (.inl ((((),()),()),((v3,v4,v5,v6,()),()),())))
def yeb (x:(ydB).X):=ysN x.1.2.1.1 x.1.2.2.1.1 x.1.2.2.2.1.1 x.2.1.1.1 x.2.1.1.2.1 x.2.1.1.2.2.1 x.2.1.1.2.2.2.1
def yEw (x:(yiF).X):(ydB).X:=((((),()),(x.1.2.1.1,()),(x.1.2.2.1.1,()),(0,()),()),((x.2.1.1.1,x.2.1.1.2.1,x.2.1.1.2.2.1,x.2.1.1.2.2.2.1,()),()),())
def yF5:Code:=(zd7 ycI 64 116).getD .skip
theorem yT2:zd7 ycI 64 29=some (.block 2 (.loop yF5)):=by kernel_rfl
theorem yWJ (x:(ydB).X):zhu ⟨ygX,76,ywV⟩ 2 yF5 116 ydB yiq yiY x=yeb x:=by kernel_rfl
def yEN (x:(yiF).X):Nat:=18446744073709551616
def ytL (x:(yiF).X):Option ((yiq).X ⊕ (yiY).X):=zF yeb (yEN x) (yEw x)
def yFt:Seg:=⟨yiF,yiq,yiY,ytL⟩
def ywW:Nat→Option Seg:=fun q=>bif Nat.beq q 29 then some yFt else ywV q
theorem yUs:FrOk prog ⟨ygX,76,ywW⟩ ycI:=(yUr).loop (sg:=yFt) ydB yEw (by decide) yT2 yeb yEN (by decide) (fun _=>rfl) (fun x r _ h=>h) yWJ
def ydC:Shape:=⟨[(1,false,[.ptr 0 0]),(40,false,[.br tI]),(41,false,[ii]),(42,false,[ii])],[(0,oL)],[]⟩
def yiG:Shape:=⟨[(1,false,[.ptr 0 0]),(40,false,[.br tI]),(41,false,[ii]),(42,false,[.ci .i64 0])],[(0,oL)],[]⟩
def yir:Shape:=⟨[(1,false,[.ptr 0 0])],[(0,oL)],[]⟩
def yiZ:Shape:=⟨[(2,false,[.bool])],[],[]⟩
abbrev yse (v0:List Int) (v1 v2:Int) (v3:dM):(ydC).X:=((((),()),(v0,()),(v1,()),(v2,()),()),((v3.1,v3.2.1,v3.2.2.1,v3.2.2.2,()),()),())
abbrev yRA (v0:List Int) (v1:Int) (v2:dM):(yiG).X:=((((),()),(v0,()),(v1,()),((),()),()),((v2.1,v2.2.1,v2.2.2.1,v2.2.2.2,()),()),())
abbrev yRs (v0:dM):(yir).X:=((((),()),()),((v0.1,v0.2.1,v0.2.2.1,v0.2.2.2,()),()),())
abbrev yRO (v0:Bool):(yiZ).X:=(((v0,()),()),(),())
def ysO (v0:List Int) (v1 v2:Int) (v3:List (List Int)) (v4:List dW) (v5:Bool) (v6:List Int):Option ((ydC).X ⊕ ((yir).X ⊕ (yiZ).X)) :=bif(ltb v2 v1)then bif(inb v2 v0.length)then let r10:=ybT (v3,v4,v5,v6) (nth v0 v2 0);bif(!(!r10))then bif(ltb 0 v2)then bif(inb (i64.wrap (v2-1)) v6.length)then bif(leb (nth v0 v2 0) (nth v6 (i64.wrap (v2-1)) 0))then some (.inr (.inr (((false,()),()),(),()))) else some (.inl ((((),()),(v0,()),(v1,()),((i64.wrap (v2+1)),()),()),((v3,v4,v5,v6,()),()),())) else none else some (.inl ((((),()),(v0,()),(v1,()),((i64.wrap (v2+1)),()),()),((v3,v4,v5,v6,()),()),())) else some (.inr (.inr (((false,()),()),(),()))) else none else some (.inr (.inl ((((),()),()),((v3,v4,v5,v6,()),()),())))
def yec (x:(ydC).X):=ysO x.1.2.1.1 x.1.2.2.1.1 x.1.2.2.2.1.1 x.2.1.1.1 x.2.1.1.2.1 x.2.1.1.2.2.1 x.2.1.1.2.2.2.1
def yEx (x:(yiG).X):(ydC).X:=((((),()),(x.1.2.1.1,()),(x.1.2.2.1.1,()),(0,()),()),((x.2.1.1.1,x.2.1.1.2.1,x.2.1.1.2.2.1,x.2.1.1.2.2.2.1,()),()),())
def yF6:Code:=(zd7 ycI 64 244).getD .skip
theorem yT3:zd7 ycI 64 61=some (.block 4 (.loop yF6)):=by kernel_rfl
theorem yWK (x:(ydC).X):zhu ⟨ygX,76,ywW⟩ 4 yF6 244 ydC yir yiZ x=yec x:=by kernel_rfl
def yEO (x:(yiG).X):Nat:=18446744073709551616
def ytM (x:(yiG).X):Option ((yir).X ⊕ (yiZ).X):=zF yec (yEO x) (yEx x)
def yFu:Seg:=⟨yiG,yir,yiZ,ytM⟩
def yXi:Nat→Option Seg:=fun q=>bif Nat.beq q 61 then some yFu else ywW q
theorem yUt:FrOk prog ⟨ygX,76,yXi⟩ ycI:=(yUs).loop (sg:=yFu) ydC yEx (by decide) yT3 yec yEO (by decide) (fun _=>rfl) (fun x r _ h=>h) yWK
abbrev yt0:List Par:= [.rd tM]
abbrev yDE:List OT:= [⟨false,tB,.fz⟩]
def yyd (a0:dM):Option (zaY yDE×zak yt0) :=zkt (ytK ((((),()),(a0.1,()),((a0.1.length:Int),()),((),()),()),((a0.1,a0.2.1,a0.2.2.1,a0.2.2.2,()),()),())) (fun y2 =>zkt (ytL ((((),()),(y2.2.1.1.2.1,()),((y2.2.1.1.2.1.length:Int),()),((),()),()),((y2.2.1.1.1,y2.2.1.1.2.1,y2.2.1.1.2.2.1,y2.2.1.1.2.2.2.1,()),()),())) (fun y7 =>zkt (ytM ((((),()),(y7.2.1.1.2.2.2.1,()),((y7.2.1.1.2.2.2.1.length:Int),()),((),()),()),((y7.2.1.1.1,y7.2.1.1.2.1,y7.2.1.1.2.2.1,y7.2.1.1.2.2.2.1,()),()),())) (fun y10 =>let r12:=yi (y10.2.1.1.1.length:Int) 1 20;bif r12 then some (((leb (y10.2.1.1.2.1.length:Int) 60),()),()) else some ((false,()),())) (fun y10 =>some ((y10.1.1.1,()),()))) (fun y7 =>some ((y7.1.1.1,()),()))) (fun y2 =>some ((y2.1.1.1,()),()))
theorem yYL:ConOk prog 127 ⟨yt0,yDE,fun x=>yyd x.1⟩:=zkI (yUt) func127 ntmps127.symm fun x=>by kernel_rfl
def yaA (a0:dM):Bool:=yx a0
theorem y1o (a0:dM) (hk:zjx yt0 (a0,())):yyd a0=(fun n=>some ((n,()),())) (yaA a0):=by
 have hb1:a0.1.length*24≤2^47:=hk.1.1.1;have hb2:a0.2.1.length*32≤2^47:=hk.1.2.1.1;have hb3:a0.2.2.2.length*8≤2^47:=hk.1.2.2.2.1
 have h1:ytK (yRy a0.1 a0.1.length a0)=some (bif a0.1.all yaB then .inl (yRq a0)else .inr (yRM false)) :=
  zj9 (step:=yea) a0.1 [] (fun i=>ysc a0.1 a0.1.length i a0) yaB _ _ (fun i hi=>by
   simp only[yea,ysc,ysM,zky (show(i:Int)<a0.1.length by omega),cond_true,wq ((i:Int)+1) (by omega) (by omega),Int.natCast_add,Int.natCast_one,Int.toNat_natCast,zkR hi,zkS,yHF]
   cases yaB (a0.1.getD i [])<;>rfl) (by simp only[yea,ysc,ysM,zk3 (Int.le_refl _),cond_false]) _ (by show _<18446744073709551616; omega)
 have h2:ytL (yRz a0.2.1 a0.2.1.length a0)=some (bif a0.2.1.all (ys0 a0.1.length)then .inl (yRr a0)else .inr (yRN false)) :=
  zj9 (step:=yeb) a0.2.1 (0,[]) (fun i=>ysd a0.2.1 a0.2.1.length i a0) (ys0 a0.1.length) _ _ (fun i hi=>by
   simp only[yeb,ysd,ysN,zky (show(i:Int)<a0.2.1.length by omega),cond_true,wq ((i:Int)+1) (by omega) (by omega),Int.natCast_add,Int.natCast_one,Int.toNat_natCast,zkR hi,zkS,yHF,ybT,yar,yoa (show a0.1.length≤1152921504606846976 by omega),ys0]
   cases inb (a0.2.1.getD i (0,[])).1 a0.1.length<;>cases yaB (a0.2.1.getD i (0,[])).2<;>rfl) (by simp only[yeb,ysd,ysN,zk3 (Int.le_refl _),cond_false]) _ (by show _<18446744073709551616; omega)
 have h3:ytM (yRA a0.2.2.2 a0.2.2.2.length a0)=some (bif(List.range a0.2.2.2.length).any (yF1 a0.1.length a0.2.2.2)then .inr (yRO false)else .inl (yRs a0)) :=
  zji (step:=yec) (fun i=>yse a0.2.2.2 a0.2.2.2.length i a0) a0.2.2.2.length (yF1 a0.1.length a0.2.2.2) _ _ (fun i hi=>by
   simp only[yec,yse,ysO,zky (show(i:Int)<a0.2.2.2.length by omega),cond_true,wq ((i:Int)+1) (by omega) (by omega),Int.natCast_add,Int.natCast_one,Int.toNat_natCast,zkR hi,zkS,ybT,yar,yoa (show a0.1.length≤1152921504606846976 by omega),yF1];rcases Nat.eq_zero_or_pos i with rfl | h0
   ·cases inb (a0.2.2.2.getD 0 0) a0.1.length<;>rfl
   ·rw[show i64.wrap ((i:Int)-1)=((i-1:Nat):Int)by rw[wr (by omega) (by omega)]; omega,zkR (show i-1<a0.2.2.2.length by omega),zkS,zky (show(0:Int)<i by omega),decide_eq_true h0]
    cases inb (a0.2.2.2.getD i 0) a0.1.length<;>cases leb (a0.2.2.2.getD i 0) (a0.2.2.2.getD (i-1) 0)<;>rfl) (by simp only[yec,yse,ysO,zk3 (Int.le_refl _),cond_false]) _ (by show _<18446744073709551616; omega)
 unfold yyd yaA yx;rw[h1];cases a0.1.all yaB
 ·rfl
 simp only[cond_true,zkN,h2];cases a0.2.1.all (ys0 a0.1.length)
 ·rfl
 simp only[cond_true,zkN,h3,yZH,yar,ybX];cases ypr a0.1.length a0.2.2.2
 ·rfl
 simp only[Bool.not_true,cond_false,zkN];cases leb 1 (a0.1.length:Int)<;>cases leb (a0.1.length:Int) 20<;>rfl
def yeS:Con:=⟨yt0,yDE,fun x=>(fun n=>some ((n,()),())) (yaA x.1)⟩
theorem yh9:ConOk prog 127 yeS:=(yYL).mono (fun x r hk h=>(y1o x.1 hk).trans h)
def yW6:Code:=(f128.body).getD .skip
def yXv:Env:=zkw TT [] []
theorem yN5:FrOk prog ⟨yXv,6,fun _=>none⟩ yW6:=zkA mixed yf trivial
abbrev yxh:List Par:= [.rd tG]
abbrev yxw:List OT:= [⟨false,tI,.fz⟩]
def yFm (a0:dG):Option (zaY yxw×zak yxh) :=some (((i64.wrap (6+a0.2)),()),())
theorem ySq:ConOk prog 128 ⟨yxh,yxw,fun x=>yFm x.1⟩:=zkI (yN5) func128 ntmps128.symm fun x=>by kernel_rfl
def ygQ (a0:dG):Int :=(i64.wrap (6+a0.2))
def yr2:Con:=⟨yxh,yxw,fun x=>(fun n=>some ((n,()),())) (ygQ x.1)⟩
theorem yVt (a0:dG):yFm a0=(fun n=>some ((n,()),())) (ygQ a0):=zkV (p:=fun(n:Int)=>((n,()),())) rfl
theorem yGT:ConOk prog 128 yr2:=(ySq).mono (fun x r _ h=>(yVt x.1).trans h)
def ytk:Code:=(f55.body).getD .skip
def yDi:Env:=zkw TT [(81,yR),(123,yku),(125,yuT),(126,yEi),(127,yeS),(128,yr2)] []
theorem yUn:FrOk prog ⟨yDi,103,fun _=>none⟩ ytk:=zkA mixed yf ⟨yac,yrF,yIC,yWs,yh9,yGT,trivial⟩
def yHR:Nat→Option Seg:=fun _=>none
def ydz:Shape:=⟨[(1,false,[.ptr 0 0]),(41,false,[.br tM]),(42,false,[ii]),(43,false,[ii])],[(0,oJ)],[]⟩
def yiD:Shape:=⟨[(1,false,[.ptr 0 0]),(41,false,[.br tM]),(42,false,[ii]),(43,false,[.ci .i64 0])],[(0,oJ)],[]⟩
def yio:Shape:=⟨[(1,false,[.ptr 0 0])],[(0,oJ)],[]⟩
def yiS:Shape:=⟨[(2,false,[.bool])],[],[]⟩
abbrev ysb (v0:List dM) (v1 v2:Int) (v3:dA):(ydz).X:=((((),()),(v0,()),(v1,()),(v2,()),()),((v3.1,v3.2.1.1,v3.2.1.2,v3.2.2.1,v3.2.2.2.1,v3.2.2.2.2.1,v3.2.2.2.2.2.1,v3.2.2.2.2.2.2.1,v3.2.2.2.2.2.2.2.1,v3.2.2.2.2.2.2.2.2.1,v3.2.2.2.2.2.2.2.2.2.1,v3.2.2.2.2.2.2.2.2.2.2.1,v3.2.2.2.2.2.2.2.2.2.2.2,()),()),())
abbrev yRx (v0:List dM) (v1:Int) (v2:dA):(yiD).X:=((((),()),(v0,()),(v1,()),((),()),()),((v2.1,v2.2.1.1,v2.2.1.2,v2.2.2.1,v2.2.2.2.1,v2.2.2.2.2.1,v2.2.2.2.2.2.1,v2.2.2.2.2.2.2.1,v2.2.2.2.2.2.2.2.1,v2.2.2.2.2.2.2.2.2.1,v2.2.2.2.2.2.2.2.2.2.1,v2.2.2.2.2.2.2.2.2.2.2.1,v2.2.2.2.2.2.2.2.2.2.2.2,()),()),())
abbrev yRp (v0:dA):(yio).X:=((((),()),()),((v0.1,v0.2.1.1,v0.2.1.2,v0.2.2.1,v0.2.2.2.1,v0.2.2.2.2.1,v0.2.2.2.2.2.1,v0.2.2.2.2.2.2.1,v0.2.2.2.2.2.2.2.1,v0.2.2.2.2.2.2.2.2.1,v0.2.2.2.2.2.2.2.2.2.1,v0.2.2.2.2.2.2.2.2.2.2.1,v0.2.2.2.2.2.2.2.2.2.2.2,()),()),())
abbrev yRL (v0:Bool):(yiS).X:=(((v0,()),()),(),())
def ysL (v0:List dM) (v1 v2 v3 v4 v5:Int) (v6:List dM) (v7 v8 v9 v10 v11:Int) (v12:List dW) (v13:Int) (v14 v15:Bool):Option ((ydz).X ⊕ ((yio).X ⊕ (yiS).X)) :=bif(ltb v2 v1)then bif(inb v2 v0.length)then let r7:=yaA ((nth v0 v2 ([],[],false,[])).1,((nth v0 v2 ([],[],false,[])).2).1,(((nth v0 v2 ([],[],false,[])).2).2));bif(!(!r7))then let r8:=ygQ (v4,v5);bif(!((((nth v0 v2 ([],[],false,[])).1).length:Int) !=r8))then bif(((nth v0 v2 ([],[],false,[])).2).2).1 then bif(v7 !=v2)then bif(!v15)then some (.inr (.inr (((false,()),()),(),()))) else some (.inl ((((),()),(v0,()),(v1,()),((i64.wrap (v2+1)),()),()),((v3,v4,v5,v6,v7,v8,v9,v10,v11,v12,v13,v14,v15,()),()),())) else some (.inl ((((),()),(v0,()),(v1,()),((i64.wrap (v2+1)),()),()),((v3,v4,v5,v6,v7,v8,v9,v10,v11,v12,v13,v14,v15,()),()),())) else some (.inl ((((),()),(v0,()),(v1,()),((i64.wrap (v2+1)),()),()),((v3,v4,v5,v6,v7,v8,v9,v10,v11,v12,v13,v14,v15,()),()),())) else some (.inr (.inr (((false,()),()),(),()))) else some (.inr (.inr (((false,()),()),(),()))) else none else some (.inr (.inl ((((),()),()),((v3,v4,v5,v6,v7,v8,v9,v10,v11,v12,v13,v14,v15,()),()),())))
def yd9 (x:(ydz).X):=ysL x.1.2.1.1 x.1.2.2.1.1 x.1.2.2.2.1.1 x.2.1.1.1 x.2.1.1.2.1 x.2.1.1.2.2.1 x.2.1.1.2.2.2.1 x.2.1.1.2.2.2.2.1 x.2.1.1.2.2.2.2.2.1 x.2.1.1.2.2.2.2.2.2.1 x.2.1.1.2.2.2.2.2.2.2.1 x.2.1.1.2.2.2.2.2.2.2.2.1 x.2.1.1.2.2.2.2.2.2.2.2.2.1 x.2.1.1.2.2.2.2.2.2.2.2.2.2.1 x.2.1.1.2.2.2.2.2.2.2.2.2.2.2.1 x.2.1.1.2.2.2.2.2.2.2.2.2.2.2.2.1
def yEu (x:(yiD).X):(ydz).X:=((((),()),(x.1.2.1.1,()),(x.1.2.2.1.1,()),(0,()),()),((x.2.1.1.1,x.2.1.1.2.1,x.2.1.1.2.2.1,x.2.1.1.2.2.2.1,x.2.1.1.2.2.2.2.1,x.2.1.1.2.2.2.2.2.1,x.2.1.1.2.2.2.2.2.2.1,x.2.1.1.2.2.2.2.2.2.2.1,x.2.1.1.2.2.2.2.2.2.2.2.1,x.2.1.1.2.2.2.2.2.2.2.2.2.1,x.2.1.1.2.2.2.2.2.2.2.2.2.2.1,x.2.1.1.2.2.2.2.2.2.2.2.2.2.2.1,x.2.1.1.2.2.2.2.2.2.2.2.2.2.2.2.1,()),()),())
def yF3:Code:=(zd7 ytk 64 116).getD .skip
theorem yT0:zd7 ytk 64 29=some (.block 0 (.loop yF3)):=by kernel_rfl
theorem yWH (x:(ydz).X):zhu ⟨yDi,103,yHR⟩ 0 yF3 116 ydz yio yiS x=yd9 x:=by kernel_rfl
def yEL (x:(yiD).X):Nat:=18446744073709551616
def ytJ (x:(yiD).X):Option ((yio).X ⊕ (yiS).X):=zF yd9 (yEL x) (yEu x)
def yFr:Seg:=⟨yiD,yio,yiS,ytJ⟩
def yXh:Nat→Option Seg:=fun q=>bif Nat.beq q 29 then some yFr else yHR q
theorem yUo:FrOk prog ⟨yDi,103,yXh⟩ ytk:=(yUn).loop (sg:=yFr) ydz yEu (by decide) yT0 yd9 yEL (by decide) (fun _=>rfl) (fun x r _ h=>h) yWH
abbrev ytZ:List Par:= [.rd tA]
abbrev yDC:List OT:= [⟨false,tB,.fz⟩]
def yyc (a0:dA):Option (zaY yDC×zak ytZ) :=let r1:=ydW a0.2.1;bif(!(!r1))then bif(!((a0.2.2.1.length:Int) !=a0.2.1.1))then let r2:=yi a0.1 1 60000;bif(!(!r2))then let r3:=yf3 a0.2.1 a0.2.2.2.1 a0.2.2.2.2.1;bif(!(!r3))then bnd (ypC a0) fun r4 =>bif(!r4.1.1)then some ((false,()),()) else zkt (ytJ ((((),()),(a0.2.2.1,()),((a0.2.2.1.length:Int),()),((),()),()),((a0.1,a0.2.1.1,a0.2.1.2,a0.2.2.1,a0.2.2.2.1,a0.2.2.2.2.1,a0.2.2.2.2.2.1,a0.2.2.2.2.2.2.1,a0.2.2.2.2.2.2.2.1,a0.2.2.2.2.2.2.2.2.1,a0.2.2.2.2.2.2.2.2.2.1,a0.2.2.2.2.2.2.2.2.2.2.1,a0.2.2.2.2.2.2.2.2.2.2.2,()),()),())) (fun y8 =>let r10:=yi y8.2.1.1.2.2.2.2.2.2.1 0 60000;bif r10 then let r11:=yi y8.2.1.1.2.2.2.2.2.2.2.1 0 60000;bif r11 then let r12:=yi y8.2.1.1.2.2.2.2.2.2.2.2.1 0 60000;bif r12 then let r13:=yi (i64.wrap (y8.2.1.1.2.2.2.2.2.2.1-y8.2.1.1.2.2.2.2.2.2.2.1)) 0 4;bif r13 then let r14:=yi y8.2.1.1.2.2.2.2.2.2.2.2.2.2.1 (-1) 1000;some ((r14,()),()) else some ((false,()),()) else some ((false,()),()) else some ((false,()),()) else some ((false,()),())) (fun y8 =>some ((y8.1.1.1,()),())) else some ((false,()),()) else some ((false,()),()) else some ((false,()),()) else some ((false,()),())
theorem yYJ:ConOk prog 55 ⟨ytZ,yDC,fun x=>yyc x.1⟩:=zkI (yUo) func55 ntmps55.symm fun x=>by kernel_rfl
theorem y6u {S T G F z TS le:Bool} (h1:T=true→TS=true→S=true) (h2:S=true→T=true→z=(TS&&le)) :
  (bif S then bif T then bif G then bif z then some ((F,()),())else some ((false,()),())else some ((false,()),())else some ((false,()),())else some ((false,()),()))=some (((T&&(TS&&(le&&(G&&F)))),()),()):=by
 cases S
 ·cases T
  ·rfl
  ·cases TS
   ·rfl
   ·exact absurd (h1 rfl rfl) Bool.false_ne_true
 ·cases T
  ·cases G<;>rfl
  ·rw[h2 rfl rfl]
   cases TS<;>cases le<;>cases G<;>rfl
def yU (a0:dA):Bool:=yM a0
theorem y1m (a0:dA) (hk:zjx ytZ (a0,())):yyc a0=(fun n=>some ((n,()),())) (yU a0):=by
 have hb:a0.2.2.1.length*80≤2^47:=hk.1.2.2.1.1;unfold yyc yU yM;simp only[yLW,yar,ybX];cases hg:ye a0.2.1
 ·rfl
 have hg2:=yj.1 hg
 have h1:ytJ (yRx a0.2.2.1 a0.2.2.1.length a0)=some (bif(List.range a0.2.2.1.length).any (yhu a0)then .inr (yRL false)else .inl (yRp a0)) :=
  zji (step:=yd9) (fun i=>ysb a0.2.2.1 a0.2.2.1.length i a0) a0.2.2.1.length (yhu a0) _ _ (fun i hi=>by
   simp only[yd9,ysb,ysL,zky (show(i:Int)<a0.2.2.1.length by omega),cond_true,wq ((i:Int)+1) (by omega) (by omega),Int.natCast_add,Int.natCast_one,Int.toNat_natCast,zkR hi,zkX,yaA,yhu,ygQ,wq (6+a0.2.1.2) (by omega) (by omega),yc];rw[show(a0.2.2.2.1 !=(i:Int))=((i:Int) !=a0.2.2.2.1)from bne_comm]
   cases yx (nth a0.2.2.1 i ([],[],false,[]))<;>cases(((nth a0.2.2.1 i ([],[],false,[])).1.length:Int) !=6+a0.2.1.2)<;>cases(nth a0.2.2.1 i ([],[],false,[])).2.2.1<;>cases((i:Int) !=a0.2.2.2.1)<;>cases a0.2.2.2.2.2.2.2.2.2.2.2<;>rfl) (by simp only[yd9,ysb,ysL,zk3 (Int.le_refl _),cond_false]) _ (by show _<18446744073709551616; omega)
 rw[yWD a0 hg,h1];simp only[zkH,ykF,yf3,yar,ybX,wq (a0.2.1.1-1) (by omega) (by omega),yl0]
 have hw:(leb 0 a0.2.2.2.2.2.1&&leb a0.2.2.2.2.2.1 60000)=true→(leb 0 a0.2.2.2.2.2.2.1&&leb a0.2.2.2.2.2.2.1 60000)=true→i64.wrap (a0.2.2.2.2.2.1-a0.2.2.2.2.2.2.1)=a0.2.2.2.2.2.1-a0.2.2.2.2.2.2.1:=fun h h'=>by
  rw[Bool.and_eq_true,zj7,zj7]at h h';exact wr (by omega) (by omega)
 simp only[bne,Bool.not_not,cond_true,Bool.true_and]
 have h2:(leb 0 a0.2.2.2.2.2.1&&leb a0.2.2.2.2.2.1 60000)=true→(leb 0 a0.2.2.2.2.2.2.1&&leb a0.2.2.2.2.2.2.1 60000)=true→(leb 0 (i64.wrap (a0.2.2.2.2.2.1-a0.2.2.2.2.2.2.1))&&leb (i64.wrap (a0.2.2.2.2.2.1-a0.2.2.2.2.2.2.1)) 4)=((leb a0.2.2.2.2.2.2.1 a0.2.2.2.2.2.1&&leb a0.2.2.2.2.2.1 60000)&&leb a0.2.2.2.2.2.1 (a0.2.2.2.2.2.2.1+4)):=fun h h'=>by
  rw[hw h h',Bool.eq_iff_iff];simp only[Bool.and_eq_true,zj7]at h h' ⊢;omega
 have h3:(leb 0 a0.2.2.2.2.2.2.1&&leb a0.2.2.2.2.2.2.1 60000)=true→(leb a0.2.2.2.2.2.2.1 a0.2.2.2.2.2.1&&leb a0.2.2.2.2.2.1 60000)=true→(leb 0 a0.2.2.2.2.2.1&&leb a0.2.2.2.2.2.1 60000)=true:=fun h h'=>by
  simp only[Bool.and_eq_true,zj7]at h h' ⊢;omega
 cases((a0.2.2.1.length:Int)==a0.2.1.1)
 ·cases(leb 1 a0.1&&leb a0.1 60000)<;>cases(List.range a0.2.2.1.length).any (yhu a0)<;>rfl
 cases(leb 1 a0.1&&leb a0.1 60000)
 ·rfl
 cases(leb (-1) a0.2.2.2.1&&leb a0.2.2.2.1 (a0.2.1.1-1))
 ·cases(List.range a0.2.2.1.length).any (yhu a0)<;>cases ya2 a0.2.1 a0.2.2.2.2.2.2.2.2.1<;>rfl
 cases(leb 0 a0.2.2.2.2.1&&leb a0.2.2.2.2.1 a0.2.1.2)
 ·cases(List.range a0.2.2.1.length).any (yhu a0)<;>cases ya2 a0.2.1 a0.2.2.2.2.2.2.2.2.1<;>rfl
 cases ya2 a0.2.1 a0.2.2.2.2.2.2.2.2.1
 ·cases(List.range a0.2.2.1.length).any (yhu a0)<;>cases(a0.2.2.2.1== -1)<;>cases(a0.2.2.2.2.1==0)<;>rfl
 cases(List.range a0.2.2.1.length).any (yhu a0)
 ·cases(a0.2.2.2.1== -1)<;>cases(a0.2.2.2.2.1==0)
  case true.false=>rfl
  all_goals exact y6u h3 h2
 ·cases(a0.2.2.2.1== -1)<;>cases(a0.2.2.2.2.1==0)<;>rfl
def ybW:Con:=⟨ytZ,yDC,fun x=>(fun n=>some ((n,()),())) (yU x.1)⟩
theorem yes:ConOk prog 55 ybW:=(yYJ).mono (fun x r hk h=>(y1m x.1 hk).trans h)
def yib:Code:=(f201.body).getD .skip
def ynG:Env:=zkw TT [] []
theorem yIo:FrOk prog ⟨ynG,19,fun _=>none⟩ yib:=zkA mixed yf trivial
def ytv:Nat→Option Seg:=fun _=>none
def yaT:Shape:=⟨[(0,false,[.br tI]),(1,false,[ii]),(7,false,[ii]),(8,false,[ii])],[],[]⟩
def yde:Shape:=⟨[(0,false,[.br tI]),(1,false,[ii]),(7,false,[ii]),(8,false,[.ci .i64 0])],[],[]⟩
def ydc:Shape:=⟨[],[],[]⟩
def ydg:Shape:=⟨[(4,false,[ii])],[],[]⟩
abbrev yjy (v0:List Int) (v1 v2 v3:Int):(yaT).X:=(((v0,()),(v1,()),(v2,()),(v3,()),()),(),())
abbrev yHK (v0:List Int) (v1 v2:Int):(yde).X:=(((v0,()),(v1,()),(v2,()),((),()),()),(),())
abbrev yHI  :(ydc).X:=((),(),())
abbrev yq1 (v0:Int):(ydg).X:=(((v0,()),()),(),())
def yjC (v0:List Int) (v1 v2 v3:Int):Option ((yaT).X ⊕ ((ydc).X ⊕ (ydg).X)) :=bif(ltb v3 v2)then bif(inb v3 v0.length)then bif(v1==(nth v0 v3 0))then some (.inr (.inr (((v3,()),()),(),()))) else some (.inl (((v0,()),(v1,()),(v2,()),((i64.wrap (v3+1)),()),()),(),())) else none else some (.inr (.inl ((),(),())))
def ya3 (x:(yaT).X):=yjC x.1.1.1 x.1.2.1.1 x.1.2.2.1.1 x.1.2.2.2.1.1
def yqV (x:(yde).X):(yaT).X:=(((x.1.1.1,()),(x.1.2.1.1,()),(x.1.2.2.1.1,()),(0,()),()),(),())
def ys2:Code:=(zd7 yib 64 52).getD .skip
theorem yH4:zd7 yib 64 13=some (.block 0 (.loop ys2)):=by kernel_rfl
theorem yIM (x:(yaT).X):zhu ⟨ynG,19,ytv⟩ 0 ys2 52 yaT ydc ydg x=ya3 x:=by kernel_rfl
def yqX (x:(yde).X):Nat:=18446744073709551616
def yj5 (x:(yde).X):Option ((ydc).X ⊕ (ydg).X):=zF ya3 (yqX x) (yqV x)
def yq5:Seg:=⟨yde,ydc,ydg,yj5⟩
def yIX:Nat→Option Seg:=fun q=>bif Nat.beq q 13 then some yq5 else ytv q
theorem yIp:FrOk prog ⟨ynG,19,yIX⟩ yib:=(yIo).loop (sg:=yq5) yaT yqV (by decide) yH4 ya3 yqX (by decide) (fun _=>rfl) (fun x r _ h=>h) yIM
abbrev yik:List Par:= [.rd tL,.rd tI]
abbrev ynY:List OT:= [⟨false,tI,.fz⟩]
def ylG (a0:List Int) (a1:Int):Option (zaY ynY×zak yik) :=zkt (yj5 (((a0,()),(a1,()),((a0.length:Int),()),((),()),()),(),())) (fun y0 =>some (((-1),()),())) (fun y0 =>some ((y0.1.1.1,()),()))
theorem yJs:ConOk prog 201 ⟨yik,ynY,fun x=>ylG x.1 x.2.1⟩:=zkI (yIp) func201 ntmps201.symm fun x=>by kernel_rfl
def yX3 (l:List Int) (x:Int):Int:=bif l.any (· ==x)then((l.takeWhile (· !=x)).length:Int)else -1
def yfB (a0:List Int) (a1:Int):Int:=yX3 a0 a1
theorem y4p {A B α:Type} {step:A→Option (A ⊕ B)} (l:List α) (d:α) (f:Nat→A) (p:α→Bool) (b:Nat→B) (c:B)
  (h: ∀i,i<l.length→step (f i)=some (bif p (l.getD i d)then .inr (b i)else .inl (f (i+1)))) (e:step (f l.length)=some (.inr c)) (fuel:Nat) (hf:l.length<fuel) :
  zF step fuel (f 0)=some (bif l.any p then b (l.takeWhile (fun x=> !p x)).length else c):=by
 have: ∀(t q:List α) (fuel:Nat),q++t=l→t.length<fuel→zF step fuel (f q.length)=some (bif t.any p then b (q.length+(t.takeWhile (fun x=> !p x)).length)else c):=by
  intro t
  induction t with
  | nil =>
   intro q fuel hq hf;obtain⟨fuel,rfl⟩: ∃m,fuel=m+1:=⟨fuel-1,by omega⟩;rw[List.append_nil]at hq;subst hq;simp only[zF,e,List.any_nil,cond_false]
  | cons x t ih =>
   intro q fuel hq hf;obtain⟨fuel,rfl⟩: ∃m,fuel=m+1:=⟨fuel-1,by omega⟩
   have hx:l.getD q.length d=x:=by
    subst hq;rw[zkJ (by simp)]; simp
   have hs:=h q.length (by rw[← hq]; simp);rw[hx]at hs;cases hp:p x
   ·rw[hp]at hs
    have:=ih (q++ [x]) fuel (by rw[← hq]; simp) (by simp at hf; omega);simp only[List.length_append,List.length_cons,List.length_nil]at this;simp only[zF,hs,cond_false];simp only[List.any_cons,hp,Bool.false_or,List.takeWhile_cons,Bool.not_false,if_true,List.length_cons];rw[show q.length+((t.takeWhile (fun x=> !p x)).length+1)=q.length+(0+1)+(t.takeWhile (fun x=> !p x)).length by omega];exact this
   ·rw[hp]at hs
    simp only[zF,hs,cond_true,List.any_cons,hp,Bool.true_or,List.takeWhile_cons,Bool.not_true,Bool.false_eq_true,if_false,List.length_nil,Nat.add_zero]
 have:=this l [] fuel rfl hf;simpa using this
theorem yKD (a0:List Int) (a1:Int) (hk:zjx yik (a0,a1,())):ylG a0 a1=(fun n=>some ((n,()),())) (yfB a0 a1):=by
 have hb:a0.length*8≤2^47:=hk.1.1
 have h1:yj5 (yHK a0 a1 a0.length)=some (bif a0.any (· ==a1)then .inr (yq1 ((a0.takeWhile (fun x=> !(x==a1))).length:Int))else .inl yHI) :=
  y4p (step:=ya3) a0 0 (fun i=>yjy a0 a1 a0.length i) (· ==a1) (fun i=> .inr (yq1 (i:Int))) _ (fun i hi=>by
   simp only[ya3,yjy,yjC,zky (show(i:Int)<a0.length by omega),cond_true,wq ((i:Int)+1) (by omega) (by omega),Int.natCast_add,Int.natCast_one,Int.toNat_natCast,zkR hi,zkS];rw[show(a1==a0.getD i 0)=(a0.getD i 0==a1)by rw[Bool.eq_iff_iff,beq_iff_eq,beq_iff_eq]; exact eq_comm]
   cases(a0.getD i 0==a1)<;>rfl) (by simp only[ya3,yjy,yjC,zk3 (Int.le_refl _),cond_false]) _ (by show _<18446744073709551616; omega)
 unfold ylG yfB yX3;rw[h1];cases a0.any (· ==a1)<;>rfl
def yuV:Con:=⟨yik,ynY,fun x=>(fun n=>some ((n,()),())) (yfB x.1 x.2.1)⟩
theorem yKL:ConOk prog 201 yuV:=(yJs).mono (fun x r hk h=>(yKD x.1 x.2.1 hk).trans h)
def yHQ:Code:=(f157.body).getD .skip
def yH3:Env:=zkw TT [(201,yuV)] []
theorem yEJ:FrOk prog ⟨yH3,9,fun _=>none⟩ yHQ:=zkA mixed yf ⟨yKL,trivial⟩
abbrev yfI:List Par:= [.rd tL,.rd tI]
abbrev ykp:List OT:= [⟨false,tB,.fz⟩]
def yh1 (a0:List Int) (a1:Int):Option (zaY ykp×zak yfI) :=let r1:=yfB a0 a1;some (((leb 0 r1),()),())
theorem yFM:ConOk prog 157 ⟨yfI,ykp,fun x=>yh1 x.1 x.2.1⟩:=zkI (yEJ) func157 ntmps157.symm fun x=>by kernel_rfl
def ydj (a0:List Int) (a1:Int):Bool:=a0.any (· ==a1)
theorem yHM (a0:List Int) (a1:Int) (hk:zjx yfI (a0,a1,())):yh1 a0 a1=(fun n=>some ((n,()),())) (ydj a0 a1):=by
 unfold yh1 ydj yfB yX3;cases a0.any (· ==a1)
 ·rfl
 ·simp only[cond_true]
  rw[zk2 (show(0:Int)≤((a0.takeWhile (· !=a1)).length:Int)by omega)]
def ypK:Con:=⟨yfI,ykp,fun x=>(fun n=>some ((n,()),())) (ydj x.1 x.2.1)⟩
theorem yHN:ConOk prog 157 ypK:=(yFM).mono (fun x r hk h=>(yHM x.1 x.2.1 hk).trans h)
def yTo:Code:=(f158.body).getD .skip
def yTP:Env:=zkw TT [] []
theorem yLz:FrOk prog ⟨yTP,6,fun _=>none⟩ yTo:=zkA mixed yf trivial
abbrev ym3:List Par:= [.rd tL]
abbrev yuq:List OT:= [⟨false,tL,oG⟩]
def yqw (a0:List Int):Option (zaY yuq×zak ym3) :=bif(zkl ([]:List Int).length a0.length 8)then some (((([]:List Int)++a0),()),()) else none
theorem yO2:ConOk prog 158 ⟨ym3,yuq,fun x=>yqw x.1⟩:=zkI (yLz) func158 ntmps158.symm fun x=>by kernel_rfl
def yE (a0:List Int):List Int:=a0
theorem yR3 (a0:List Int) (hk:zjx ym3 (a0,())):yqw a0=(fun n=>some ((n,()),())) (yE a0):=by
 have hb:a0.length*8≤2^47:=hk.1.1;unfold yqw yE;rw[show zkl ([]:List Int).length a0.length 8=true by rw[zkF,List.length_nil]; omega];rfl
def ybh:Con:=⟨ym3,yuq,fun x=>(fun n=>some ((n,()),())) (yE x.1)⟩
theorem yda:ConOk prog 158 ybh:=(yO2).mono (fun x r hk h=>(yR3 x.1 hk).trans h)
def yoY:Code:=(f87.body).getD .skip
def yw2:Env:=zkw TT [(127,yeS),(156,yns),(157,ypK),(158,ybh)] []
theorem yNU:FrOk prog ⟨yw2,49,fun _=>none⟩ yoY:=zkA mixed yf ⟨yh9,yx1,yHN,yda,trivial⟩
def yC7:Nat→Option Seg:=fun _=>none
def ycd:Shape:=⟨[(1,false,[ii]),(6,false,[.br tI]),(34,false,[.br tW]),(35,false,[ii]),(36,false,[ii])],[],[]⟩
def ygm:Shape:=⟨[(1,false,[ii]),(6,false,[.br tI]),(34,false,[.br tW]),(35,false,[ii]),(36,false,[.ci .i64 0])],[],[]⟩
def yga:Shape:=⟨[(6,false,[.br tI])],[],[]⟩
def yjM:Shape:=⟨[],[],[]⟩
abbrev yoh (v0:Int) (v1:List Int) (v2:List dW) (v3 v4:Int):(ycd).X:=(((v0,()),(v1,()),(v2,()),(v3,()),(v4,()),()),(),())
abbrev yMd (v0:Int) (v1:List Int) (v2:List dW) (v3:Int):(ygm).X:=(((v0,()),(v1,()),(v2,()),(v3,()),((),()),()),(),())
abbrev yzC (v0:List Int):(yga).X:=(((v0,()),()),(),())
def yoJ (v0:Int) (v1:List Int) (v2:List dW) (v3 v4:Int):Option ((ycd).X ⊕ ((yga).X ⊕ (yjM).X)) :=bif(ltb v4 v3)then bif(inb v4 v2.length)then bif((nth v2 v4 (0,[])).1==v0)then some (.inl (((v0,()),((nth v2 v4 (0,[])).2,()),(v2,()),(v3,()),((i64.wrap (v4+1)),()),()),(),())) else some (.inl (((v0,()),(v1,()),(v2,()),(v3,()),((i64.wrap (v4+1)),()),()),(),())) else none else some (.inr (.inl (((v1,()),()),(),())))
def ycx (x:(ycd).X):=yoJ x.1.1.1 x.1.2.1.1 x.1.2.2.1.1 x.1.2.2.2.1.1 x.1.2.2.2.2.1.1
def yy9 (x:(ygm).X):(ycd).X:=(((x.1.1.1,()),(x.1.2.1.1,()),(x.1.2.2.1.1,()),(x.1.2.2.2.1.1,()),(0,()),()),(),())
def yBB:Code:=(zd7 yoY 64 244).getD .skip
theorem yND:zd7 yoY 64 61=some (.block 0 (.loop yBB)):=by kernel_rfl
theorem yPq (x:(ycd).X):zhu ⟨yw2,49,yC7⟩ 0 yBB 244 ycd yga yjM x=ycx x:=by kernel_rfl
def yzo (x:(ygm).X):Nat:=18446744073709551616
def ypQ (x:(ygm).X):Option ((yga).X ⊕ (yjM).X):=zF ycx (yzo x) (yy9 x)
def yzO:Seg:=⟨ygm,yga,yjM,ypQ⟩
def yPX:Nat→Option Seg:=fun q=>bif Nat.beq q 61 then some yzO else yC7 q
theorem yNV:FrOk prog ⟨yw2,49,yPX⟩ yoY:=(yNU).loop (sg:=yzO) ycd yy9 (by decide) yND ycx yzo (by decide) (fun _=>rfl) (fun x r _ h=>h) yPq
abbrev yo9:List Par:= [.rd tM,.rd tI]
abbrev yxr:List OT:= [⟨false,tL,oG⟩,⟨false,tB,.fz⟩]
def ysw (a0:dM) (a1:Int):Option (zaY yxr×zak yo9) :=let r1:=yaA a0;bif(!(!r1))then bif(!a0.2.2.1)then let r2:=ybT a0 a1;bif(!(!r2))then let r3:=ydj a0.2.2.2 a1;bif r3 then some (([],false,()),()) else bif(inb a1 a0.1.length)then zkt (ypQ (((a1,()),((nth a0.1 a1 []),()),(a0.2.1,()),((a0.2.1.length:Int),()),((),()),()),(),())) (fun y3 =>let r5:=yE y3.1.1.1;some ((r5,true,()),())) (fun y3 =>none) else none else some (([],false,()),()) else some (([],false,()),()) else some (([],false,()),())
theorem ySk:ConOk prog 87 ⟨yo9,yxr,fun x=>ysw x.1 x.2.1⟩:=zkI (yNV) func87 ntmps87.symm fun x=>by kernel_rfl
def ybY (a0:dM) (a1:Int):List Int×Bool:=yW a0 a1
theorem yVn (a0:dM) (a1:Int) (hk:zjx yo9 (a0,a1,())):ysw a0 a1=(fun n=>some ((n.1,n.2,()),())) (ybY a0 a1):=by
 have hb1:a0.1.length*24≤2^47:=hk.1.1.1;have hb2:a0.2.1.length*32≤2^47:=hk.1.2.1.1
 have h1: ∀s,ypQ (yMd a1 s a0.2.1 a0.2.1.length)=some (.inl (yzC (yhE a1 a0.2.1 s))):=fun s =>
  zkx (step:=ycx) a0.2.1 (0,[]) (fun i s=>yoh a1 s a0.2.1 a0.2.1.length i) (fun s w=>bif w.1==a1 then w.2 else s) (fun _ _=>True) (fun s=> .inl (yzC s)) (fun i s hi _=>⟨by
   simp only[ycx,yoh,yoJ,zky (show(i:Int)<a0.2.1.length by omega),cond_true,wq ((i:Int)+1) (by omega) (by omega),Int.natCast_add,Int.natCast_one,Int.toNat_natCast,zkR hi,zkS]
   cases((a0.2.1.getD i (0,[])).1==a1)<;>rfl,trivial⟩) (fun s _=>by simp only[ycx,yoh,yoJ,zk3 (Int.le_refl _),cond_false]) s trivial _ (by show _<18446744073709551616; omega)
 unfold ysw ybY yW ys4 ybT;rw[yar,yoa (show a0.1.length≤1152921504606846976 by omega)];unfold yaA ydj yE;simp only[h1,zkN];cases yx a0
 ·rfl
 cases a0.2.2.1
 ·cases inb a1 a0.1.length
  ·rfl
  ·cases a0.2.2.2.any (· ==a1)<;>rfl
 ·rfl
def ylr:Con:=⟨yo9,yxr,fun x=>(fun n=>some ((n.1,n.2,()),())) (ybY x.1 x.2.1)⟩
theorem yvx:ConOk prog 87 ylr:=(ySk).mono (fun x r hk h=>(yVn x.1 x.2.1 hk).trans h)
def yXa:Code:=(f195.body).getD .skip
def yXz:Env:=zkw TT [(82,yP),(150,ygM)] []
theorem yOd:FrOk prog ⟨yXz,60,fun _=>none⟩ yXa:=zkA mixed yf ⟨yaa,ymd,trivial⟩
abbrev yxk:List Par:= [.rd tS]
abbrev yxC:List OT:= [⟨false,tB,.fz⟩]
def yFp (a0:dS):Option (zaY yxC×zak yxk) :=let r1:=ye (a0.2.2.2.1,a0.2.2.2.2.1);bif(!(!r1))then let r2:=yb a0.1 1 60000;bif(!(!r2))then let r3:=yb a0.2.1 0 60000;bif(!(!r3))then let r4:=yb a0.2.2.1 0 (i64.wrap (a0.2.2.2.1-1));bif(!(!r4))then let r5:=yb a0.2.2.2.2.2.1 0 60000;bif(!r5)then some ((false,()),()) else let r6:=yb a0.2.2.2.2.2.2.1 (-1) (i64.wrap (a0.2.2.2.1-1));bif r6 then let r7:=yb a0.2.2.2.2.2.2.2 0 a0.2.2.2.2.1;bif r7 then bif(!(leb 0 a0.2.2.2.2.2.2.1))then some (((a0.2.2.2.2.2.2.2==0),()),()) else some ((true,()),()) else some ((false,()),()) else some ((false,()),()) else some ((false,()),()) else some ((false,()),()) else some ((false,()),()) else some ((false,()),())
theorem ySw:ConOk prog 195 ⟨yxk,yxC,fun x=>yFp x.1⟩:=zkI (yOd) func195 ntmps195.symm fun x=>by kernel_rfl
def yH (a0:dS):Bool :=let r1:=ye (a0.2.2.2.1,a0.2.2.2.2.1);bif(!(!r1))then let r2:=yb a0.1 1 60000;bif(!(!r2))then let r3:=yb a0.2.1 0 60000;bif(!(!r3))then let r4:=yb a0.2.2.1 0 (i64.wrap (a0.2.2.2.1-1));bif(!(!r4))then let r5:=yb a0.2.2.2.2.2.1 0 60000;bif(!r5)then false else let r6:=yb a0.2.2.2.2.2.2.1 (-1) (i64.wrap (a0.2.2.2.1-1));bif r6 then let r7:=yb a0.2.2.2.2.2.2.2 0 a0.2.2.2.2.1;bif r7 then bif(!(leb 0 a0.2.2.2.2.2.2.1))then (a0.2.2.2.2.2.2.2==0) else true else false else false else false else false else false else false
def yEn:Con:=⟨yxk,yxC,fun x=>(fun n=>some ((n,()),())) (yH x.1)⟩
theorem yVz (a0:dS):yFp a0=(fun n=>some ((n,()),())) (yH a0):=zkV (p:=fun(n:Bool)=>((n,()),())) (zkG (p:=fun(n:Bool)=>((n,()),())) (zkG (p:=fun(n:Bool)=>((n,()),())) (zkG (p:=fun(n:Bool)=>((n,()),())) (zkG (p:=fun(n:Bool)=>((n,()),())) (zkG (p:=fun(n:Bool)=>((n,()),())) rfl (zkG (p:=fun(n:Bool)=>((n,()),())) (zkG (p:=fun(n:Bool)=>((n,()),())) (zkG (p:=fun(n:Bool)=>((n,()),())) rfl rfl) rfl) rfl)) rfl) rfl) rfl) rfl)
theorem yWx:ConOk prog 195 yEn:=(ySw).mono (fun x r _ h=>(yVz x.1).trans h)
abbrev yeX:dS:=(0,0,0,0,0,0,0,0)
theorem yyJ {s:dS}:yH s=true↔ye (s.2.2.2.1,s.2.2.2.2.1)=true∧(1≤s.1∧s.1≤60000)∧(0≤s.2.1∧s.2.1≤60000)∧(0≤s.2.2.1∧s.2.2.1≤s.2.2.2.1-1)∧(0≤s.2.2.2.2.2.1∧s.2.2.2.2.2.1≤60000)∧(-1≤s.2.2.2.2.2.2.1∧s.2.2.2.2.2.2.1≤s.2.2.2.1-1)∧(0≤s.2.2.2.2.2.2.2∧s.2.2.2.2.2.2.2≤s.2.2.2.2.1)∧(0≤s.2.2.2.2.2.2.1∨s.2.2.2.2.2.2.2=0):=by
 unfold yH;cases hg:ye (s.2.2.2.1,s.2.2.2.2.1)
 ·simp
 have hg2:=yj.1 hg;simp only at hg2;rw[wq (s.2.2.2.1-1) (by omega) (by omega)];simp only[Bool.not_not,cond_true,true_and];simp only[← yvj];cases yb s.1 1 60000
 ·simp
 cases yb s.2.1 0 60000
 ·simp
 cases yb s.2.2.1 0 (s.2.2.2.1-1)
 ·simp
 cases yb s.2.2.2.2.2.1 0 60000
 ·simp
 cases yb s.2.2.2.2.2.2.1 (-1) (s.2.2.2.1-1)
 ·simp
 cases yb s.2.2.2.2.2.2.2 0 s.2.2.2.2.1
 ·simp
 cases hl:leb 0 s.2.2.2.2.2.2.1
 ·have:=mt zk2 (by rw[hl]; simp: ¬leb 0 s.2.2.2.2.2.2.1=true)
  simp[this]
 ·simp[zj7.1 hl]
def yIV (l:List Int):dS:=(nth l 1 0,nth l 2 0,nth l 3 0,nth l 4 0,nth l 5 0,nth l 6 0,i64.wrap (nth l 7 0-1),nth l 8 0)
def yeV (l:List Int):dS×Bool:=bif(l.length:Int)==9&&(nth l 0 0==21317&&yH (yIV l))then(yIV l,true)else(yeX,false)
def yHC (m:dM) (i:Int):dS:=(yeV (yW m i).1).1
def yqT (m:dM) (id i:Int):Bool:=(yW m i).2&&((yeV (yW m i).1).2&&((yHC m i).1==id&&(yHC m i).2.1.tmod 2==i))
def ylW (b:dS×Bool) (ok:Bool) (s:dS):dS×Bool:=bif ok&&(!b.2||ltb b.1.2.1 s.2.1)then(s,true)else b
def yav (m:dM) (id:Int):dS×Bool:=(List.range 2).foldl (fun s (i:Nat)=>ylW s (yqT m id i) (yHC m i)) (yeX,false)
def yhU (m:dM) (i id:Int):Bool:= !m.2.2.1&&((yav m id).2&&(yav m id).1.2.2.1==i)
def ydT (l:List dM) (id:Int):dS×Bool:=(List.range l.length).foldl (fun s (i:Nat)=>ylW s (yhU (nth l i yc) i id) (yav (nth l i yc) id).1) (yeX,false)
def ykt (l:List dM) (id:Int) (s:Int×Int×Bool) (i:Nat):Int×Int×Bool:=bif yhU (nth l i yc) i id then s else bif s.1== -1||s.1==i then((i:Int),0,s.2.2)else(s.1,s.2.1,true)
def yuJ (b:dS) (l:List dM) (id:Int) (s:Int×Int×Bool):dA:=(id,(b.2.2.2.1,b.2.2.2.2.1),l,s.1,s.2.1,b.2.2.2.2.2.1,b.2.2.2.2.2.1,b.2.1,[],-1,false,s.2.2)
def yH7 (l:List dM) (id:Int):dA:=yuJ (ydT l id).1 l id ((List.range l.length).foldl (ykt l id) ((ydT l id).1.2.2.2.2.2.2.1,(ydT l id).1.2.2.2.2.2.2.2,false))
def yfX (l:List dM) (id:Int):dA×Bool:=bif(ydT l id).2&&((l.length:Int)==(ydT l id).1.2.2.2.1&&yM (yH7 l id))then(yH7 l id,true)else(yai,false)
theorem y5z (b:dS×Bool) (s:dS):ylW b false s=b:=rfl
theorem y3z {m:dM} {i:Int} (h:(yW m i).2=true):yx m=true:=by
 unfold yW at h;cases hc:ys4 m i
 ·rw[hc]at h; cases h
 ·exact(Bool.and_eq_true_iff.1 hc).1
theorem y5A {m:dM} {id i:Int} (h:yx m=false):yqT m id i=false:=by
 unfold yqT;cases hr:(yW m i).2
 ·rfl
 ·rw[y3z hr]at h; cases h
theorem y5y {m:dM} {id:Int} (h:(yav m id).2=true):yx m=true:=by
 cases hm:yx m
 ·unfold yav at h
  simp only[y5A hm,y5z]at h;exact h
 ·rfl
def yW5:Code:=(f212.body).getD .skip
def yXu:Env:=zkw TT [(81,yR),(123,yku),(125,yuT)] []
theorem yNX:FrOk prog ⟨yXu,44,fun _=>none⟩ yW5:=zkA mixed yf ⟨yac,yrF,yIC,trivial⟩
abbrev yxg:List Par:= [.rd tS]
abbrev yxt:List OT:= [⟨false,tB,.fz⟩]
def yFl (a0:dS):Option (zaY yxt×zak yxg) :=let r1:=yi a0.1 1 60000;bif r1 then let r2:=yi a0.2.1 0 60000;bif r2 then let r3:=yi a0.2.2.2.2.2.1 0 60000;bif r3 then let r4:=ydW (a0.2.2.2.1,a0.2.2.2.2.1);bif r4 then let r5:=yi a0.2.2.1 0 (i64.wrap (a0.2.2.2.1-1));bif r5 then let r6:=yf3 (a0.2.2.2.1,a0.2.2.2.2.1) a0.2.2.2.2.2.2.1 a0.2.2.2.2.2.2.2;some ((r6,()),()) else some ((false,()),()) else some ((false,()),()) else some ((false,()),()) else some ((false,()),()) else some ((false,()),())
theorem ySm:ConOk prog 212 ⟨yxg,yxt,fun x=>yFl x.1⟩:=zkI (yNX) func212 ntmps212.symm fun x=>by kernel_rfl
def yeW (a0:dS):Bool :=let r1:=yi a0.1 1 60000;bif r1 then let r2:=yi a0.2.1 0 60000;bif r2 then let r3:=yi a0.2.2.2.2.2.1 0 60000;bif r3 then let r4:=ydW (a0.2.2.2.1,a0.2.2.2.2.1);bif r4 then let r5:=yi a0.2.2.1 0 (i64.wrap (a0.2.2.2.1-1));bif r5 then let r6:=yf3 (a0.2.2.2.1,a0.2.2.2.2.1) a0.2.2.2.2.2.2.1 a0.2.2.2.2.2.2.2;r6 else false else false else false else false else false
def yr1:Con:=⟨yxg,yxt,fun x=>(fun n=>some ((n,()),())) (yeW x.1)⟩
theorem yVp (a0:dS):yFl a0=(fun n=>some ((n,()),())) (yeW a0):=zkV (p:=fun(n:Bool)=>((n,()),())) (zkG (p:=fun(n:Bool)=>((n,()),())) (zkG (p:=fun(n:Bool)=>((n,()),())) (zkG (p:=fun(n:Bool)=>((n,()),())) (zkG (p:=fun(n:Bool)=>((n,()),())) (zkG (p:=fun(n:Bool)=>((n,()),())) rfl rfl) rfl) rfl) rfl) rfl)
theorem yGS:ConOk prog 212 yr1:=(ySm).mono (fun x r _ h=>(yVp x.1).trans h)
theorem yJP (s:dS):yeW s=yH s:=by
 rw[Bool.eq_iff_iff,yyJ];unfold yeW yf3;simp only[yLW,yar];cases hg:ye (s.2.2.2.1,s.2.2.2.2.1)
 ·cases yb s.1 1 60000<;>cases yb s.2.1 0 60000<;>cases yb s.2.2.2.2.2.1 0 60000<;>simp
 have hg2:=yj.1 hg;simp only at hg2;rw[wq (s.2.2.2.1-1) (by omega) (by omega)];simp only[← yvj];cases yb s.1 1 60000
 ·simp
 cases yb s.2.1 0 60000
 ·simp
 cases yb s.2.2.2.2.2.1 0 60000
 ·simp
 cases yb s.2.2.1 0 (s.2.2.2.1-1)
 ·simp
 cases hl:yb s.2.2.2.2.2.2.1 (-1) (s.2.2.2.1-1)
 ·simp
 cases yb s.2.2.2.2.2.2.2 0 s.2.2.2.2.1
 ·simp
 have:=yvj.1 hl;by_cases h0:s.2.2.2.2.2.2.2=0
 ·simp[h0]
 ·simp[h0]; omega
def yTj:Code:=(f198.body).getD .skip
def yTK:Env:=zkw TT [(212,yr1)] []
theorem yLu:FrOk prog ⟨yTK,46,fun _=>none⟩ yTj:=zkA mixed yf ⟨yGS,trivial⟩
abbrev ymZ:List Par:= [.rd tL]
abbrev yul:List OT:= [⟨false,tS,oH⟩,⟨false,tB,.fz⟩]
def yqs (a0:List Int):Option (zaY yul×zak ymZ) :=bif(!((a0.length:Int) !=9))then bif(inb 0 a0.length)then bif((nth a0 0 0) !=21317)then some (((0,0,0,0,0,0,0,0),false,()),()) else bif(inb 1 a0.length)then bif(inb 2 a0.length)then bif(inb 3 a0.length)then bif(inb 4 a0.length)then bif(inb 5 a0.length)then bif(inb 6 a0.length)then bif(inb 7 a0.length)then bif(inb 8 a0.length)then let r1:=yeW ((nth a0 1 0),(nth a0 2 0),(nth a0 3 0),(nth a0 4 0),(nth a0 5 0),(nth a0 6 0),(i64.wrap ((nth a0 7 0)-1)),(nth a0 8 0));bif(!r1)then some (((0,0,0,0,0,0,0,0),false,()),()) else some ((((nth a0 1 0),(nth a0 2 0),(nth a0 3 0),(nth a0 4 0),(nth a0 5 0),(nth a0 6 0),(i64.wrap ((nth a0 7 0)-1)),(nth a0 8 0)),true,()),()) else none else none else none else none else none else none else none else none else none else some (((0,0,0,0,0,0,0,0),false,()),())
theorem yOX:ConOk prog 198 ⟨ymZ,yul,fun x=>yqs x.1⟩:=zkI (yLu) func198 ntmps198.symm fun x=>by kernel_rfl
def yji (a0:List Int):dS×Bool:=yeV a0
theorem yRY (a0:List Int) (hk:zjx ymZ (a0,())):yqs a0=(fun n=>some ((n.1,n.2,()),())) (yji a0):=by
 unfold yqs yji yeV;by_cases h:(a0.length:Int)=9
 ·simp only[bne,h,yJP,beq_self_eq_true,zj6.2 (show(0:Int)≤0∧(0:Int)<a0.length by omega),zj6.2 (show(0:Int)≤1∧(1:Int)<a0.length by omega),zj6.2 (show(0:Int)≤2∧(2:Int)<a0.length by omega),zj6.2 (show(0:Int)≤3∧(3:Int)<a0.length by omega),zj6.2 (show(0:Int)≤4∧(4:Int)<a0.length by omega),zj6.2 (show(0:Int)≤5∧(5:Int)<a0.length by omega),zj6.2 (show(0:Int)≤6∧(6:Int)<a0.length by omega),zj6.2 (show(0:Int)≤7∧(7:Int)<a0.length by omega),zj6.2 (show(0:Int)≤8∧(8:Int)<a0.length by omega)]
  rw[show yH (nth a0 1 0,nth a0 2 0,nth a0 3 0,nth a0 4 0,nth a0 5 0,nth a0 6 0,i64.wrap (nth a0 7 0-1),nth a0 8 0)=yH (yIV a0)from rfl];cases(nth a0 0 0==21317)<;>cases yH (yIV a0)<;>rfl
 ·rw[show((a0.length:Int) !=9)=true from bne_iff_ne.2 h,show((a0.length:Int)==9)=false from beq_eq_false_iff_ne.2 h]; rfl
def yBP:Con:=⟨ymZ,yul,fun x=>(fun n=>some ((n.1,n.2,()),())) (yji x.1)⟩
theorem ySK:ConOk prog 198 yBP:=(yOX).mono (fun x r hk h=>(yRY x.1 hk).trans h)
def yk9:Code:=(f148.body).getD .skip
def yrK:Env:=zkw TT [(87,ylr),(198,yBP)] []
theorem yKj:FrOk prog ⟨yrK,60,fun _=>none⟩ yk9:=zkA mixed yf ⟨yvx,ySK,trivial⟩
def yyL:Nat→Option Seg:=fun _=>none
def ybl:Shape:=⟨[(1,false,[ii]),(2,false,[.ptr 0 0]),(4,false,[.ptr 64 0]),(6,false,[.ptr 4160 0]),(7,false,[.bool]),(14,false,[ii])],[(0,oL),(64,oQ),(4160,oQ)],[]⟩
def yeF:Shape:=⟨[(1,false,[ii]),(2,false,[.ptr 0 0]),(4,false,[.ptr 64 0]),(6,false,[.ptr 4160 0]),(7,false,[.cb false]),(14,false,[.ci .i64 0])],[(0,oL),(64,oQ),(4160,oQ)],[]⟩
def yez:Shape:=⟨[(4,false,[.ptr 64 0]),(6,false,[.ptr 4160 0]),(7,false,[.bool])],[(64,oQ),(4160,oQ)],[]⟩
def yhN:Shape:=⟨[],[],[]⟩
abbrev ylx (v0:Int) (v1:Bool) (v2:Int) (v3:dM) (v4 v5:dS):(ybl).X:=(((v0,()),((),()),((),()),((),()),(v1,()),(v2,()),()),((v3.1,v3.2.1,v3.2.2.1,v3.2.2.2,()),(v4.1,v4.2.1,v4.2.2.1,v4.2.2.2.1,v4.2.2.2.2.1,v4.2.2.2.2.2.1,v4.2.2.2.2.2.2.1,v4.2.2.2.2.2.2.2,()),(v5.1,v5.2.1,v5.2.2.1,v5.2.2.2.1,v5.2.2.2.2.1,v5.2.2.2.2.2.1,v5.2.2.2.2.2.2.1,v5.2.2.2.2.2.2.2,()),()),())
abbrev yJl (v0:Int) (v1:dM) (v2 v3:dS):(yeF).X:=(((v0,()),((),()),((),()),((),()),((),()),((),()),()),((v1.1,v1.2.1,v1.2.2.1,v1.2.2.2,()),(v2.1,v2.2.1,v2.2.2.1,v2.2.2.2.1,v2.2.2.2.2.1,v2.2.2.2.2.2.1,v2.2.2.2.2.2.2.1,v2.2.2.2.2.2.2.2,()),(v3.1,v3.2.1,v3.2.2.1,v3.2.2.2.1,v3.2.2.2.2.1,v3.2.2.2.2.2.1,v3.2.2.2.2.2.2.1,v3.2.2.2.2.2.2.2,()),()),())
abbrev yJg (v0:Bool) (v1 v2:dS):(yez).X:=((((),()),((),()),(v0,()),()),((v1.1,v1.2.1,v1.2.2.1,v1.2.2.2.1,v1.2.2.2.2.1,v1.2.2.2.2.2.1,v1.2.2.2.2.2.2.1,v1.2.2.2.2.2.2.2,()),(v2.1,v2.2.1,v2.2.2.1,v2.2.2.2.1,v2.2.2.2.2.1,v2.2.2.2.2.2.1,v2.2.2.2.2.2.2.1,v2.2.2.2.2.2.2.2,()),()),())
def ylL (v0:Int) (v1:Bool) (v2:Int) (v3:List (List Int)) (v4:List dW) (v5:Bool) (v6:List Int) (v7 v8 v9 v10 v11 v12 v13 v14 v15 v16 v17 v18 v19 v20 v21 v22:Int):Option ((ybl).X ⊕ ((yez).X ⊕ (yhN).X)) :=bif(ltb v2 2)then let r3:=ybY (v3,v4,v5,v6) v2;let r4:=yji r3.1;bif r3.2 then bif r4.2 then bif(r4.1.1==v0)then bif((r4.1.2.1.tmod 2)==v2)then bif(!(!v1))then bif(ltb v16 r4.1.2.1)then some (.inl (((v0,()),((),()),((),()),((),()),(true,()),((i64.wrap (v2+1)),()),()),((v3,v4,v5,v6,()),(v7,v8,v9,v10,v11,v12,v13,v14,()),(r4.1.1,r4.1.2.1,r4.1.2.2.1,r4.1.2.2.2.1,r4.1.2.2.2.2.1,r4.1.2.2.2.2.2.1,r4.1.2.2.2.2.2.2.1,r4.1.2.2.2.2.2.2.2,()),()),())) else some (.inl (((v0,()),((),()),((),()),((),()),(v1,()),((i64.wrap (v2+1)),()),()),((v3,v4,v5,v6,()),(v7,v8,v9,v10,v11,v12,v13,v14,()),(v15,v16,v17,v18,v19,v20,v21,v22,()),()),())) else some (.inl (((v0,()),((),()),((),()),((),()),(true,()),((i64.wrap (v2+1)),()),()),((v3,v4,v5,v6,()),(v7,v8,v9,v10,v11,v12,v13,v14,()),(r4.1.1,r4.1.2.1,r4.1.2.2.1,r4.1.2.2.2.1,r4.1.2.2.2.2.1,r4.1.2.2.2.2.2.1,r4.1.2.2.2.2.2.2.1,r4.1.2.2.2.2.2.2.2,()),()),())) else some (.inl (((v0,()),((),()),((),()),((),()),(v1,()),((i64.wrap (v2+1)),()),()),((v3,v4,v5,v6,()),(v7,v8,v9,v10,v11,v12,v13,v14,()),(v15,v16,v17,v18,v19,v20,v21,v22,()),()),())) else some (.inl (((v0,()),((),()),((),()),((),()),(v1,()),((i64.wrap (v2+1)),()),()),((v3,v4,v5,v6,()),(v7,v8,v9,v10,v11,v12,v13,v14,()),(v15,v16,v17,v18,v19,v20,v21,v22,()),()),())) else some (.inl (((v0,()),((),()),((),()),((),()),(v1,()),((i64.wrap (v2+1)),()),()),((v3,v4,v5,v6,()),(v7,v8,v9,v10,v11,v12,v13,v14,()),(v15,v16,v17,v18,v19,v20,v21,v22,()),()),())) else some (.inl (((v0,()),((),()),((),()),((),()),(v1,()),((i64.wrap (v2+1)),()),()),((v3,v4,v5,v6,()),(v7,v8,v9,v10,v11,v12,v13,v14,()),(v15,v16,v17,v18,v19,v20,v21,v22,()),()),())) else some (.inr (.inl ((((),()),((),()),(v1,()),()),((v7,v8,v9,v10,v11,v12,v13,v14,()),(v15,v16,v17,v18,v19,v20,v21,v22,()),()),())))
def ybA (x:(ybl).X):=ylL x.1.1.1 x.1.2.2.2.2.1.1 x.1.2.2.2.2.2.1.1 x.2.1.1.1 x.2.1.1.2.1 x.2.1.1.2.2.1 x.2.1.1.2.2.2.1 x.2.1.2.1.1 x.2.1.2.1.2.1 x.2.1.2.1.2.2.1 x.2.1.2.1.2.2.2.1 x.2.1.2.1.2.2.2.2.1 x.2.1.2.1.2.2.2.2.2.1 x.2.1.2.1.2.2.2.2.2.2.1 x.2.1.2.1.2.2.2.2.2.2.2.1 x.2.1.2.2.1.1 x.2.1.2.2.1.2.1 x.2.1.2.2.1.2.2.1 x.2.1.2.2.1.2.2.2.1 x.2.1.2.2.1.2.2.2.2.1 x.2.1.2.2.1.2.2.2.2.2.1 x.2.1.2.2.1.2.2.2.2.2.2.1 x.2.1.2.2.1.2.2.2.2.2.2.2.1
def yu5 (x:(yeF).X):(ybl).X:=(((x.1.1.1,()),((),()),((),()),((),()),(false,()),(0,()),()),((x.2.1.1.1,x.2.1.1.2.1,x.2.1.1.2.2.1,x.2.1.1.2.2.2.1,()),(x.2.1.2.1.1,x.2.1.2.1.2.1,x.2.1.2.1.2.2.1,x.2.1.2.1.2.2.2.1,x.2.1.2.1.2.2.2.2.1,x.2.1.2.1.2.2.2.2.2.1,x.2.1.2.1.2.2.2.2.2.2.1,x.2.1.2.1.2.2.2.2.2.2.2.1,()),(x.2.1.2.2.1.1,x.2.1.2.2.1.2.1,x.2.1.2.2.1.2.2.1,x.2.1.2.2.1.2.2.2.1,x.2.1.2.2.1.2.2.2.2.1,x.2.1.2.2.1.2.2.2.2.2.1,x.2.1.2.2.1.2.2.2.2.2.2.1,x.2.1.2.2.1.2.2.2.2.2.2.2.1,()),()),())
def yv8:Code:=(zd7 yk9 64 116).getD .skip
theorem yKa:zd7 yk9 64 29=some (.block 0 (.loop yv8)):=by kernel_rfl
theorem yKP (x:(ybl).X):zhu ⟨yrK,60,yyL⟩ 0 yv8 116 ybl yez yhN x=ybA x:=by kernel_rfl
def yve (x:(yeF).X):Nat:=18446744073709551616
def ymn (x:(yeF).X):Option ((yez).X ⊕ (yhN).X):=zF ybA (yve x) (yu5 x)
def yvW:Seg:=⟨yeF,yez,yhN,ymn⟩
def yKV:Nat→Option Seg:=fun q=>bif Nat.beq q 29 then some yvW else yyL q
theorem yKk:FrOk prog ⟨yrK,60,yKV⟩ yk9:=(yKj).loop (sg:=yvW) ybl yu5 (by decide) yKa ybA yve (by decide) (fun _=>rfl) (fun x r _ h=>h) yKP
abbrev yle:List Par:= [.rd tM,.rd tI]
abbrev yrX:List OT:= [⟨false,tS,oH⟩,⟨false,tB,.fz⟩]
def yoA (a0:dM) (a1:Int):Option (zaY yrX×zak yle) :=zkt (ymn (((a1,()),((),()),((),()),((),()),((),()),((),()),()),((a0.1,a0.2.1,a0.2.2.1,a0.2.2.2,()),(0,0,0,0,0,0,0,0,()),(0,0,0,0,0,0,0,0,()),()),())) (fun y4 =>some (((y4.2.1.2.1.1,y4.2.1.2.1.2.1,y4.2.1.2.1.2.2.1,y4.2.1.2.1.2.2.2.1,y4.2.1.2.1.2.2.2.2.1,y4.2.1.2.1.2.2.2.2.2.1,y4.2.1.2.1.2.2.2.2.2.2.1,y4.2.1.2.1.2.2.2.2.2.2.2.1),y4.1.2.2.1.1,()),())) (fun y4 =>none)
theorem yMy:ConOk prog 148 ⟨yle,yrX,fun x=>yoA x.1 x.2.1⟩:=zkI (yKk) func148 ntmps148.symm fun x=>by kernel_rfl
def yhw (a0:dM) (a1:Int):dS×Bool:=yav a0 a1
theorem yOO (a0:dM) (a1:Int) (hk:zjx yle (a0,a1,())):yoA a0 a1=(fun n=>some ((n.1,n.2,()),())) (yhw a0 a1):=by
 have h1:=zkD (step:=ybA) 2 (fun i s=>ylx a1 s.2 i a0 yeX s.1) (fun(s:dS×Bool) (i:Nat)=>ylW s (yqT a0 a1 i) (yHC a0 i)) (fun _ _=>True) (fun s=> .inl (yJg s.2 yeX s.1)) (fun i s hi _=>⟨by
  simp only[ybA,ylx,ylL,zky (show(i:Int)<2 by omega),cond_true,wq ((i:Int)+1) (by omega) (by omega),Int.natCast_add,Int.natCast_one,Int.toNat_natCast,zkX,ybY,yji];unfold yqT ylW yHC
  cases(yW a0 i).2<;>cases(yeV (yW a0 i).1).2<;>cases((yeV (yW a0 i).1).1.1==a1)<;>cases((yeV (yW a0 i).1).1.2.1.tmod 2==(i:Int))<;>cases hf:s.2<;>cases ltb s.1.2.1 (yeV (yW a0 i).1).1.2.1<;>simp only[Bool.not_true,Bool.not_false,cond_true,cond_false,Bool.and_true,Bool.true_and,Bool.false_and,Bool.and_false,Bool.or_true,Bool.true_or,Bool.false_or,Bool.or_false,hf],trivial⟩) (fun s _=>by simp only[ybA,ylx,ylL]; rfl) (yeX,false) trivial 18446744073709551616 (by omega)
 unfold yoA yhw;rw[show ymn (yJl a1 a0 yeX yeX)=_ from h1]; rfl
def yy3:Con:=⟨yle,yrX,fun x=>(fun n=>some ((n.1,n.2,()),())) (yhw x.1 x.2.1)⟩
theorem yPk:ConOk prog 148 yy3:=(yMy).mono (fun x r hk h=>(yOO x.1 x.2.1 hk).trans h)
def yTq:Code:=(f73.body).getD .skip
def yTR:Env:=zkw TT [(127,yeS),(148,yy3)] []
theorem yLD:FrOk prog ⟨yTR,35,fun _=>none⟩ yTq:=zkA mixed yf ⟨yh9,yPk,trivial⟩
abbrev ym5:List Par:= [.rd tM,.rd tI,.rd tI]
abbrev yut:List OT:= [⟨false,tS,oH⟩,⟨false,tB,.fz⟩]
def yqy (a0:dM) (a1 a2:Int):Option (zaY yut×zak ym5) :=let r1:=yhw a0 a2;let r2:=yaA a0;bif(!(!r2))then bif(!a0.2.2.1)then bif(!(!r1.2))then bif(r1.1.2.2.1 !=a1)then some (((0,0,0,0,0,0,0,0),false,()),()) else some ((r1.1,true,()),()) else some (((0,0,0,0,0,0,0,0),false,()),()) else some (((0,0,0,0,0,0,0,0),false,()),()) else some (((0,0,0,0,0,0,0,0),false,()),())
theorem yO5:ConOk prog 73 ⟨ym5,yut,fun x=>yqy x.1 x.2.1 x.2.2.1⟩:=zkI (yLD) func73 ntmps73.symm fun x=>by kernel_rfl
def ydZ (a0:dM) (a1 a2:Int):dS×Bool:=bif yhU a0 a1 a2 then((yav a0 a2).1,true)else(yeX,false)
theorem yR6 (a0:dM) (a1 a2:Int) (hk:zjx ym5 (a0,a1,a2,())):yqy a0 a1 a2=(fun n=>some ((n.1,n.2,()),())) (ydZ a0 a1 a2):=by
 unfold yqy ydZ yhU;simp only[yhw,yaA,bne];cases hb:(yav a0 a2).2
 ·cases yx a0<;>cases a0.2.2.1<;>rfl
 ·rw[y5y hb]
  cases a0.2.2.1<;>cases((yav a0 a2).1.2.2.1==a1)<;>rfl
def yBU:Con:=⟨ym5,yut,fun x=>(fun n=>some ((n.1,n.2,()),())) (ydZ x.1 x.2.1 x.2.2.1)⟩
theorem ySP:ConOk prog 73 yBU:=(yO5).mono (fun x r hk h=>(yR6 x.1 x.2.1 x.2.2.1 hk).trans h)
def yeM:Code:=(f133.body).getD .skip
def yj4:Env:=zkw TT [(158,ybh)] []
theorem yN0:FrOk prog ⟨yj4,49,fun _=>none⟩ yeM:=zkA mixed yf ⟨yda,trivial⟩
def yC9:Nat→Option Seg:=fun _=>none
def ycf:Shape:=⟨[(1,false,[.ptr 0 0]),(2,false,[.ptr 64 0]),(3,false,[.ptr 4480 0]),(15,false,[.br tL]),(16,false,[ii]),(17,false,[ii])],[(0,oL),(64,oO),(4480,oT)],[(800000001,tL,oG),(800000000,tI,.fz)]⟩
def ygo:Shape:=⟨[(1,false,[.ptr 0 0]),(2,false,[.ptr 64 0]),(3,false,[.ptr 4480 0]),(15,false,[.br tL]),(16,false,[ii]),(17,false,[.ci .i64 0])],[(0,oL),(64,oO),(4480,oT)],[(800000001,tL,oG),(800000000,tI,.fz)]⟩
def ygc:Shape:=⟨[(1,false,[.ptr 0 0]),(2,false,[.ptr 64 0]),(3,false,[.ptr 4480 0])],[(0,oL),(64,oO),(4480,[.at 800000000,.nil,.bool,.at 800000001])],[(800000000,tL,oG),(800000001,tI,.fz)]⟩
def yjO:Shape:=⟨[],[],[]⟩
abbrev yoj (v0:List (List Int)) (v1 v2:Int) (v3 v4 v5:dM):(ycf).X:=((((),()),((),()),((),()),(v0,()),(v1,()),(v2,()),()),((v3.1,v3.2.1,v3.2.2.1,v3.2.2.2,()),((),(),v4.2.2.1,(),()),((),(),v5.2.2.1,(),()),()),(v5.1,v5.2.2.2,()))
abbrev yMf (v0:List (List Int)) (v1:Int) (v2 v3 v4:dM):(ygo).X:=((((),()),((),()),((),()),(v0,()),(v1,()),((),()),()),((v2.1,v2.2.1,v2.2.2.1,v2.2.2.2,()),((),(),v3.2.2.1,(),()),((),(),v4.2.2.1,(),()),()),(v4.1,v4.2.2.2,()))
abbrev yzD (v0 v1 v2:dM):(ygc).X:=((((),()),((),()),((),()),()),((v0.1,v0.2.1,v0.2.2.1,v0.2.2.2,()),((),(),v1.2.2.1,(),()),((),(),v2.2.2.1,(),()),()),(v2.1,v2.2.2.2,()))
def yoL (v0:List (List Int)) (v1 v2:Int) (v3:List (List Int)) (v4:List dW) (v5:Bool) (v6:List Int) (v7 v8:Bool) (v9:List (List Int)) (v10:List Int):Option ((ycf).X ⊕ ((ygc).X ⊕ (yjO).X)) :=bif(ltb v2 v1)then bif(inb v2 v0.length)then let r4:=yE (nth v0 v2 []);bif(zkl v9.length ([r4]:List (List Int)).length 24)then some (.inl ((((),()),((),()),((),()),(v0,()),(v1,()),((i64.wrap (v2+1)),()),()),((v3,v4,v5,v6,()),((),(),v7,(),()),((),(),v8,(),()),()),((v9++([r4]:List (List Int))),v10,()))) else none else none else some (.inr (.inl ((((),()),((),()),((),()),()),((v3,v4,v5,v6,()),((),(),v7,(),()),((),(),v8,(),()),()),(v9,v10,()))))
def ycz (x:(ycf).X):=yoL x.1.2.2.2.1.1 x.1.2.2.2.2.1.1 x.1.2.2.2.2.2.1.1 x.2.1.1.1 x.2.1.1.2.1 x.2.1.1.2.2.1 x.2.1.1.2.2.2.1 x.2.1.2.1.2.2.1 x.2.1.2.2.1.2.2.1 x.2.2.1 x.2.2.2.1
def yzb (x:(ygo).X):(ycf).X:=((((),()),((),()),((),()),(x.1.2.2.2.1.1,()),(x.1.2.2.2.2.1.1,()),(0,()),()),((x.2.1.1.1,x.2.1.1.2.1,x.2.1.1.2.2.1,x.2.1.1.2.2.2.1,()),((),(),x.2.1.2.1.2.2.1,(),()),((),(),x.2.1.2.2.1.2.2.1,(),()),()),(x.2.2.1,x.2.2.2.1,()))
def yBD:Code:=(zd7 yeM 64 116).getD .skip
theorem yNF:zd7 yeM 64 29=some (.block 0 (.loop yBD)):=by kernel_rfl
theorem yPs (x:(ycf).X):zhu ⟨yj4,49,yC9⟩ 0 yBD 116 ycf ygc yjO x=ycz x:=by kernel_rfl
def yzq (x:(ygo).X):Nat:=18446744073709551616
def ypS (x:(ygo).X):Option ((ygc).X ⊕ (yjO).X):=zF ycz (yzq x) (yzb x)
def yzQ:Seg:=⟨ygo,ygc,yjO,ypS⟩
def yrJ:Nat→Option Seg:=fun q=>bif Nat.beq q 29 then some yzQ else yC9 q
theorem yN1:FrOk prog ⟨yj4,49,yrJ⟩ yeM:=(yN0).loop (sg:=yzQ) ycf yzb (by decide) yNF ycz yzq (by decide) (fun _=>rfl) (fun x r _ h=>h) yPs
def ycg:Shape:=⟨[(2,false,[.ptr 64 0]),(3,false,[.ptr 4480 0]),(30,false,[.br tW]),(31,false,[ii]),(32,false,[ii])],[(64,oO),(4480,oS)],[(800000000,tL,oG),(800000002,tW,oE),(800000001,tI,.fz)]⟩
def ygp:Shape:=⟨[(2,false,[.ptr 64 0]),(3,false,[.ptr 4480 0]),(30,false,[.br tW]),(31,false,[ii]),(32,false,[.ci .i64 0])],[(64,oO),(4480,oS)],[(800000000,tL,oG),(800000002,tW,oE),(800000001,tI,.fz)]⟩
def ygd:Shape:=⟨[(2,false,[.ptr 64 0]),(3,false,[.ptr 4480 0])],[(64,oO),(4480,oN)],[(800000000,tL,oG),(800000001,tW,oE),(800000002,tI,.fz)]⟩
def yjP:Shape:=⟨[],[],[]⟩
abbrev yok (v0:List dW) (v1 v2:Int) (v3 v4:dM):(ycg).X:=((((),()),((),()),(v0,()),(v1,()),(v2,()),()),(((),(),v3.2.2.1,(),()),((),(),v4.2.2.1,(),()),()),(v4.1,v4.2.1,v4.2.2.2,()))
abbrev yMg (v0:List dW) (v1:Int) (v2 v3:dM):(ygp).X:=((((),()),((),()),(v0,()),(v1,()),((),()),()),(((),(),v2.2.2.1,(),()),((),(),v3.2.2.1,(),()),()),(v3.1,v3.2.1,v3.2.2.2,()))
abbrev yzE (v0 v1:dM):(ygd).X:=((((),()),((),()),()),(((),(),v0.2.2.1,(),()),((),(),v1.2.2.1,(),()),()),(v1.1,v1.2.1,v1.2.2.2,()))
def yoM (v0:List dW) (v1 v2:Int) (v3 v4:Bool) (v5:List (List Int)) (v6:List dW) (v7:List Int):Option ((ycg).X ⊕ ((ygd).X ⊕ (yjP).X)) :=bif(ltb v2 v1)then bif(inb v2 v0.length)then let r8:=yE ((nth v0 v2 (0,[])).2);bif(zkl v6.length ([((nth v0 v2 (0,[])).1,r8)]:List dW).length 32)then some (.inl ((((),()),((),()),(v0,()),(v1,()),((i64.wrap (v2+1)),()),()),(((),(),v3,(),()),((),(),v4,(),()),()),(v5,(v6++([((nth v0 v2 (0,[])).1,r8)]:List dW)),v7,()))) else none else none else some (.inr (.inl ((((),()),((),()),()),(((),(),v3,(),()),((),(),v4,(),()),()),(v5,v6,v7,()))))
def ycA (x:(ycg).X):=yoM x.1.2.2.1.1 x.1.2.2.2.1.1 x.1.2.2.2.2.1.1 x.2.1.1.2.2.1 x.2.1.2.1.2.2.1 x.2.2.1 x.2.2.2.1 x.2.2.2.2.1
def yzc (x:(ygp).X):(ycg).X:=((((),()),((),()),(x.1.2.2.1.1,()),(x.1.2.2.2.1.1,()),(0,()),()),(((),(),x.2.1.1.2.2.1,(),()),((),(),x.2.1.2.1.2.2.1,(),()),()),(x.2.2.1,x.2.2.2.1,x.2.2.2.2.1,()))
def yBE:Code:=(zd7 yeM 64 244).getD .skip
theorem yNG:zd7 yeM 64 61=some (.block 2 (.loop yBE)):=by kernel_rfl
theorem yPt (x:(ycg).X):zhu ⟨yj4,49,yrJ⟩ 2 yBE 244 ycg ygd yjP x=ycA x:=by kernel_rfl
def yzr (x:(ygp).X):Nat:=18446744073709551616
def ypT (x:(ygp).X):Option ((ygd).X ⊕ (yjP).X):=zF ycA (yzr x) (yzc x)
def yzR:Seg:=⟨ygp,ygd,yjP,ypT⟩
def yPZ:Nat→Option Seg:=fun q=>bif Nat.beq q 61 then some yzR else yrJ q
theorem yN2:FrOk prog ⟨yj4,49,yPZ⟩ yeM:=(yN1).loop (sg:=yzR) ycg yzc (by decide) yNG ycA yzr (by decide) (fun _=>rfl) (fun x r _ h=>h) yPt
abbrev ypc:List Par:= [.rd tM]
abbrev yxv:List OT:= [⟨false,tM,oA⟩]
def ysz (a0:dM):Option (zaY yxv×zak ypc) :=let r1:=yE a0.2.2.2;zkt (ypS ((((),()),((),()),((),()),(a0.1,()),((a0.1.length:Int),()),((),()),()),((a0.1,a0.2.1,a0.2.2.1,a0.2.2.2,()),((),(),false,(),()),((),(),a0.2.2.1,(),()),()),([],r1,()))) (fun y4 =>zkt (ypT ((((),()),((),()),(y4.2.1.1.2.1,()),((y4.2.1.1.2.1.length:Int),()),((),()),()),(((),(),y4.2.1.2.1.2.2.1,(),()),((),(),y4.2.1.2.2.1.2.2.1,(),()),()),(y4.2.2.1,[],y4.2.2.2.1,()))) (fun y8 =>some (((y8.2.2.1,y8.2.2.2.1,y8.2.1.2.1.2.2.1,y8.2.2.2.2.1),()),())) (fun y8 =>none)) (fun y4 =>none)
theorem ySo:ConOk prog 133 ⟨ypc,yxv,fun x=>ysz x.1⟩:=zkI (yN2) func133 ntmps133.symm fun x=>by kernel_rfl
def yaW (a0:dM):dM:=a0
theorem yVr (a0:dM) (hk:zjx ypc (a0,())):ysz a0=(fun n=>some ((n,()),())) (yaW a0):=by
 have hb1:a0.1.length*24≤2^47:=hk.1.1.1;have hb2:a0.2.1.length*32≤2^47:=hk.1.2.1.1
 have h1:ypS (yMf a0.1 a0.1.length a0 yc ([],[],a0.2.2.1,a0.2.2.2))=some (.inl (yzD a0 yc (a0.1,[],a0.2.2.1,a0.2.2.2))):=by
  have:=zkx (step:=ycz) a0.1 [] (fun i s=>yoj a0.1 a0.1.length i a0 yc (s,[],a0.2.2.1,a0.2.2.2)) (fun s x=>s++ [x]) (fun i s=>s.length=i) (fun s=> .inl (yzD a0 yc (s,[],a0.2.2.1,a0.2.2.2))) (fun i s hi hs2=>⟨by
   simp only[ycz,yoj,yoL,zky (show(i:Int)<a0.1.length by omega),cond_true,wq ((i:Int)+1) (by omega) (by omega),Int.natCast_add,Int.natCast_one,Int.toNat_natCast,zkR hi,zkS,yE]
   rw[zkF.2 (show(s.length+ [a0.1.getD i []].length)*24≤140737488355328 by simp only[List.length_cons,List.length_nil]; omega)]; rfl,by simp[hs2]⟩) (fun s _=>by simp only[ycz,yoj,yoL,zk3 (Int.le_refl _),cond_false]) [] rfl 18446744073709551616 (by omega)
  rw[yxW]at this;exact this
 have h2:ypT (yMg a0.2.1 a0.2.1.length yc (a0.1,[],a0.2.2.1,a0.2.2.2))=some (.inl (yzE yc a0)):=by
  have:=zkx (step:=ycA) a0.2.1 (0,[]) (fun i s=>yok a0.2.1 a0.2.1.length i yc (a0.1,s,a0.2.2.1,a0.2.2.2)) (fun s x=>s++ [x]) (fun i s=>s.length=i) (fun s=> .inl (yzE yc (a0.1,s,a0.2.2.1,a0.2.2.2))) (fun i s hi hs2=>⟨by
   simp only[ycA,yok,yoM,zky (show(i:Int)<a0.2.1.length by omega),cond_true,wq ((i:Int)+1) (by omega) (by omega),Int.natCast_add,Int.natCast_one,Int.toNat_natCast,zkR hi,zkS,yE,zkX]
   rw[zkF.2 (show(s.length+ [a0.2.1.getD i (0,[])].length)*32≤140737488355328 by simp only[List.length_cons,List.length_nil]; omega)]; rfl,by simp[hs2]⟩) (fun s _=>by simp only[ycA,yok,yoM,zk3 (Int.le_refl _),cond_false]) [] rfl 18446744073709551616 (by omega)
  rw[yxW]at this;exact this
 unfold ysz yaW;simp only[yE,h1,zkN,h2]
def yhs:Con:=⟨ypc,yxv,fun x=>(fun n=>some ((n,()),())) (yaW x.1)⟩
theorem ynB:ConOk prog 133 yhs:=(ySo).mono (fun x r hk h=>(yVr x.1 hk).trans h)
def ymP:Code:=(f74.body).getD .skip
def ytD:Env:=zkw TT [(133,yhs)] []
theorem yLA:FrOk prog ⟨ytD,20,fun _=>none⟩ ymP:=zkA mixed yf ⟨ynB,trivial⟩
def yBs:Nat→Option Seg:=fun _=>none
def ybK:Shape:=⟨[(3,false,[.at 800000000]),(7,false,[.br tM]),(8,false,[ii]),(9,false,[ii])],[],[(800000000,tM,oA)]⟩
def yfq:Shape:=⟨[(3,false,[.at 800000000]),(7,false,[.br tM]),(8,false,[ii]),(9,false,[.ci .i64 0])],[],[(800000000,tM,oA)]⟩
def yfg:Shape:=⟨[(3,false,[.at 800000000])],[],[(800000000,tM,oA)]⟩
def yi1:Shape:=⟨[],[],[]⟩
abbrev ymw (v0:List dM) (v1 v2:Int) (v3:List dM):(ybK).X:=((((),()),(v0,()),(v1,()),(v2,()),()),(),(v3,()))
abbrev yKx (v0:List dM) (v1:Int) (v2:List dM):(yfq).X:=((((),()),(v0,()),(v1,()),((),()),()),(),(v2,()))
abbrev yKp (v0:List dM):(yfg).X:=((((),()),()),(),(v0,()))
def ymI (v0:List dM) (v1 v2:Int) (v3:List dM):Option ((ybK).X ⊕ ((yfg).X ⊕ (yi1).X)) :=bif(ltb v2 v1)then bif(inb v2 v0.length)then let r2:=yaW ((nth v0 v2 ([],[],false,[])).1,((nth v0 v2 ([],[],false,[])).2).1,(((nth v0 v2 ([],[],false,[])).2).2));bif(zkl v3.length ([r2]:List dM).length 80)then some (.inl ((((),()),(v0,()),(v1,()),((i64.wrap (v2+1)),()),()),(),((v3++([r2]:List dM)),()))) else none else none else some (.inr (.inl ((((),()),()),(),(v3,()))))
def yb4 (x:(ybK).X):=ymI x.1.2.1.1 x.1.2.2.1.1 x.1.2.2.2.1.1 x.2.2.1
def ywl (x:(yfq).X):(ybK).X:=((((),()),(x.1.2.1.1,()),(x.1.2.2.1.1,()),(0,()),()),(),(x.2.2.1,()))
def yyW:Code:=(zd7 ymP 64 116).getD .skip
theorem yK5:zd7 ymP 64 29=some (.block 0 (.loop yyW)):=by kernel_rfl
theorem yMQ (x:(ybK).X):zhu ⟨ytD,20,yBs⟩ 0 yyW 116 ybK yfg yi1 x=yb4 x:=by kernel_rfl
def yww (x:(yfq).X):Nat:=18446744073709551616
def ynM (x:(yfq).X):Option ((yfg).X ⊕ (yi1).X):=zF yb4 (yww x) (ywl x)
def ywQ:Seg:=⟨yfq,yfg,yi1,ynM⟩
def yNr:Nat→Option Seg:=fun q=>bif Nat.beq q 29 then some ywQ else yBs q
theorem yLB:FrOk prog ⟨ytD,20,yNr⟩ ymP:=(yLA).loop (sg:=ywQ) ybK ywl (by decide) yK5 yb4 yww (by decide) (fun _=>rfl) (fun x r _ h=>h) yMQ
abbrev ym4:List Par:= [.rd tMs]
abbrev yur:List OT:= [⟨false,tMs,(.ow oA)⟩]
def yqx (a0:List dM):Option (zaY yur×zak ym4) :=zkt (ynM ((((),()),(a0,()),((a0.length:Int),()),((),()),()),(),(([]:List dM),()))) (fun y2 =>some ((y2.2.2.1,()),())) (fun y2 =>none)
theorem yO3:ConOk prog 74 ⟨ym4,yur,fun x=>yqx x.1⟩:=zkI (yLB) func74 ntmps74.symm fun x=>by kernel_rfl
def yfO (a0:List dM):List dM:=a0
theorem yR4 (a0:List dM) (hk:zjx ym4 (a0,())):yqx a0=(fun n=>some ((n,()),())) (yfO a0):=by
 have hb:a0.length*80≤2^47:=hk.1.1
 have h1:=zkx (step:=yb4) a0 yc (fun i s=>ymw a0 a0.length i s) (fun s x=>s++ [x]) (fun i s=>s.length=i) (fun s=> .inl (yKp s)) (fun i s hi hs=>⟨by
   simp only[yb4,ymw,ymI,zky (show(i:Int)<a0.length by omega),cond_true,wq ((i:Int)+1) (by omega) (by omega),Int.natCast_add,Int.natCast_one,Int.toNat_natCast,zkR hi,zkS,yaW,zkX]
   rw[zkF.2 (show(s.length+ [a0.getD i ([],[],false,[])].length)*80≤140737488355328 by simp only[List.length_cons,List.length_nil]; omega)]; rfl,by simp[hs]⟩) (fun s hs=>by simp only[yb4,ymw,ymI,zk3 (Int.le_refl _),cond_false]) [] rfl 18446744073709551616 (by omega)
 rw[yxW]at h1;unfold yqx yfO;rw[show ynM (yKx a0 a0.length [])=_ from h1]; rfl
def yp8:Con:=⟨ym4,yur,fun x=>(fun n=>some ((n,()),())) (yfO x.1)⟩
theorem yFd:ConOk prog 74 yp8:=(yO3).mono (fun x r hk h=>(yR4 x.1 hk).trans h)
end
end Go.Tf
