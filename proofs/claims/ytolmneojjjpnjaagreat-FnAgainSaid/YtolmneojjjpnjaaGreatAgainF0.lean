/- Functions of the program, and what they come to. -/
import Derived.Test.YtolmneojjjpnjaaGreatAgainTt
namespace Go.Tf
noncomputable section
open Go.Proofs Go.Proofs.Tryz
set_option synthInstance.maxHeartbeats 400000
set_option synthInstance.maxSize 10000
set_option linter.unusedVariables false
set_option linter.unusedSimpArgs false
set_option maxRecDepth 100000
section
def yTt:Code:=(f14.body).getD .skip
def yTW:Env:=zj0 TT [] []
theorem y08:FrOk prog ⟨yTW,6,fun _=>none⟩ yTt:=zj4 yc yd trivial
def y1W:Nat→Option Seg:=fun _=>none
abbrev yvK:List Par:= [.rd tYs]
abbrev yBT:List OT:= [⟨false,tB,.fz⟩]
def yD3 (a0:List Int):Option (ResD yBT×MutD yvK) :=
 some (((ltb 1048576 (a0.length:Int)),()),())
theorem y3Z (x:InD yvK):zju ⟨yTW,6,y1W⟩ f14.results.toList yTt yvK yBT x=yD3 x.1:=by kernel_rfl
theorem y2Q:ConOk prog 14 ⟨yvK,yBT,fun x=>yD3 x.1⟩:=zjZ (y08) func14 (by kernel_rfl) (by kernel_rfl) ntmps14.symm (by decide) (fun x r h=>(y3Z x).trans h)
def ywK (a0:List Int):Bool :=
 (ltb 1048576 (a0.length:Int))
def yLr:Con:=⟨yvK,yBT,fun x=>(fun n=>some ((n,()),())) (ywK x.1)⟩
theorem y3l (a0:List Int):yD3 a0=(fun n=>some ((n,()),())) (ywK a0):=zkn (p:=fun(n:Bool)=>((n,()),())) rfl
theorem y3m:ConOk prog 14 yLr:=(y2Q).mono (fun x r _ h=>(y3l x.1).trans h)
def yL {α:Type} (p:α→Bool) (l:List α):Int:=bif l.any p then((l.takeWhile (fun x=> !p x)).length:Int)else -1
theorem y0a {α:Type} (p:α→Bool):yL p []= -1:=rfl
theorem yB0 {α:Type} (p:α→Bool) (x:α) (l:List α):yL p (x::l)=bif p x then 0 else bif leb 0 (yL p l)then yL p l+1 else -1:=by
 unfold yL;rw[List.any_cons,List.takeWhile_cons]
 cases p x
 ·cases l.any p
  ·rfl
  ·simp only[Bool.false_or,Bool.not_false,if_true,cond_true,cond_false,List.length_cons]
   rw[zku (show(0:Int)≤((l.takeWhile (fun x=> !p x)).length:Int)by omega),cond_true]; omega
 ·simp
theorem yqj {α:Type} {p:α→Bool} {d:α}: ∀{l:List α},leb 0 (yL p l)=true→inb (yL p l) l.length=true∧p (nth l (yL p l) d)=true
 | [],h=>by rw[y0a]at h; cases h
 | x::l,h=>by
  rw[yB0]at h ⊢
  cases hx:p x
  ·rw[hx]at h
   cases hl:leb 0 (yL p l)
   ·rw[hl]at h; cases h
   ·obtain⟨h1,h2⟩:=yqj (d:=d) hl
    have h3:=zjA.1 h1;have h4:=zjB.1 hl;simp only[cond_false,cond_true,List.length_cons];refine⟨zjA.2 (by omega),?_⟩;unfold nth at h2 ⊢;rw[show(yL p l+1).toNat=(yL p l).toNat+1 by omega,List.getD_cons_succ];exact h2
  ·simp only[cond_true,List.length_cons]
   refine⟨zjA.2 (by omega),?_⟩;exact hx
theorem yMc {A B α:Type} {step:A→Option (A ⊕ B)} (l:List α) (d:α) (f:Nat→A) (p:α→Bool) (b:Int→B) (c:B)
  (h: ∀i,i<l.length→step (f i)=some (bif p (l.getD i d)then .inr (b i)else .inl (f (i+1)))) (e:step (f l.length)=some (.inr c)) (fuel:Nat) (hf:l.length<fuel) :
  zz step fuel (f 0)=some (bif leb 0 (yL p l)then b (yL p l)else c):=by
 have: ∀(t q:List α) (fuel:Nat),q++t=l→t.length<fuel→zz step fuel (f q.length)=some (bif leb 0 (yL p t)then b (q.length+yL p t)else c):=by
  intro t
  induction t with
  | nil =>
   intro q fuel hq hf;obtain⟨fuel,rfl⟩: ∃m,fuel=m+1:=⟨fuel-1,by omega⟩;rw[List.append_nil]at hq;subst hq;simp only[zz,e]; rfl
  | cons x t ih =>
   intro q fuel hq hf;obtain⟨fuel,rfl⟩: ∃m,fuel=m+1:=⟨fuel-1,by omega⟩
   have hx:l.getD q.length d=x:=by
    subst hq;rw[zkb (by simp)]; simp
   have hs:=h q.length (by rw[← hq]; simp);rw[hx]at hs;rw[yB0]
   cases hp:p x
   ·rw[hp]at hs
    have:=ih (q++ [x]) fuel (by rw[← hq]; simp) (by simp at hf; omega);simp only[List.length_append,List.length_cons,List.length_nil]at this;simp only[zz,hs,cond_false];rw[show q.length+1=q.length+(0+1)by omega,this]
    cases hl:leb 0 (yL p t)
    ·rfl
    ·have:=zjB.1 hl
     rw[cond_true,cond_true,zku (show 0≤yL p t+1 by omega),cond_true]
     congr 2; omega
   ·rw[hp]at hs
    simp only[zz,hs,cond_true];rw[zku (Int.le_refl 0),cond_true,Int.add_zero]
 have:=this l [] fuel rfl hf;simpa using this
theorem yrv {α β:Type} (f:α→β): ∀(l:List α) (s:List β),l.foldl (fun s i=>s++ [f i]) s=s++l.map f
 | [],s=>by simp
 | x::l,s=>by rw[List.foldl_cons,yrv f l]; simp
theorem yyb {α:Type} (l:List α):l.foldl (fun s i=>s++ [i]) []=l:=by
 have:=yrv id l [];simpa using this
theorem y4M {α:Type} (l:List α) (d:α) {i:Nat} (h:i<l.length):l.take i++ [nth l i d]=l.take (i+1):=by rw[zkk,zkb h,List.take_append_getElem h]
def ycd (e:dW) (s:Bool×List dW) (x:dW):Bool×List dW:=(s.1||leb e.1 x.1,(bif !s.1&&leb e.1 x.1 then s.2++ [e]else s.2)++(bif x.1 !=e.1 then[x]else[]))
def yMS (l:List dW) (e:dW):List dW:=bif(l.foldl (ycd e) (false,[])).1 then(l.foldl (ycd e) (false,[])).2 else(l.foldl (ycd e) (false,[])).2++ [e]
def yyA (a:dA) (l:List dW):dA:=(a.1,a.2.1,a.2.2.1,a.2.2.2.1,a.2.2.2.2.1,a.2.2.2.2.2.1,a.2.2.2.2.2.2.1,a.2.2.2.2.2.2.2.1,l,a.2.2.2.2.2.2.2.2.2)
def y6M (a:dA):dA:=(a.1,a.2.1,a.2.2.1,a.2.2.2.1,a.2.2.2.2.1,a.2.2.2.2.2.1,a.2.2.2.2.2.2.1,a.2.2.2.2.2.2.2.1,a.2.2.2.2.2.2.2.2.1,-1,true,a.2.2.2.2.2.2.2.2.2.2.2)
abbrev noMem:dM:=([],[],false,[])
def isW (x:Int):Bool:=leb 0 x&&leb x 65535
def yaa (s:List Int):Bool:=leb (s.length:Int) 12&&s.all isW
theorem yu7 {x:Int}:isW x=true↔0≤x∧x≤65535:=by simp[isW,zjB]
theorem yzQ {s:List Int}:yaa s=true↔s.length≤12∧ ∀x∈s,0≤x∧x≤65535:=by
 simp only[yaa,Bool.and_eq_true,zjB,List.all_eq_true,yu7];constructor
 ·rintro⟨h1,h2⟩; exact⟨by omega,h2⟩
 ·rintro⟨h1,h2⟩; exact⟨by omega,h2⟩
theorem y3t: ∀{l:List Int},l.Pairwise (· < ·)↔ ∀i,i+1<l.length→l.getD i 0<l.getD (i+1) 0
 | []=>by simp
 | [x]=>by simp
 | x::y::l=>by
  have ih:=y3t (l:=y::l);constructor
  ·intro h i hi
   cases h with
   | cons h1 h2 =>
    cases i with
    | zero=>exact h1 y List.mem_cons_self
    | succ i=>exact ih.1 h2 i (by simpa using hi)
  ·intro h
   have h2:(y::l).Pairwise (· < ·):=ih.2 fun i hi=>h (i+1) (by simpa using hi)
   refine .cons (fun z hz=> ?_) h2;have h3:x<y:=h 0 (by simp);rcases List.mem_cons.1 hz with rfl | hz
   ·exact h3
   ·cases h2 with
    | cons h4 _=>exact Int.lt_trans h3 (h4 z hz)
def yrs (n:Nat) (l:List Int):Bool:=l.all (fun x=>inb x n)&&decide (l.Pairwise (· < ·))
def yuT (n:Nat) (w:dW):Bool:=inb w.1 n&&yaa w.2
def memOk (m:dM):Bool:=m.1.all yaa&&m.2.1.all (yuT m.1.length)&&yrs m.1.length m.2.2.2&&leb 1 (m.1.length:Int)&&leb (m.1.length:Int) 20&&leb (m.2.1.length:Int) 60
def yFk (n:Nat) (l:List Int) (i:Nat):Bool:= !(inb (l.getD i 0) n)||(decide (0<i)&&leb (l.getD i 0) (l.getD (i-1) 0))
theorem yZT (n:Nat) (l:List Int):(List.range l.length).any (yFk n l)= !(yrs n l):=by
 rw[Bool.eq_iff_iff,List.any_eq_true,Bool.not_eq_true',yrs,Bool.and_eq_false_iff,decide_eq_false_iff_not,y3t,List.all_eq_false];simp only[List.mem_range,yFk,Bool.or_eq_true,Bool.not_eq_true',Bool.and_eq_true,decide_eq_true_eq,zjB];constructor
 ·rintro⟨i,hi,h | ⟨h1,h2⟩⟩
  ·exact .inl ⟨l[i],List.getElem_mem hi,by rw[zkb hi]at h; simp[h]⟩
  ·refine .inr fun h3=> ?_
   have:=h3 (i-1) (by omega);rw[show i-1+1=i by omega]at this;omega
 ·rintro(⟨x,hx,h⟩ | h)
  ·obtain⟨i,hi,rfl⟩:=List.getElem_of_mem hx
   exact⟨i,hi,.inl (by rw[zkb hi]; simpa using h)⟩
  ·refine Classical.byContradiction fun hc=>h fun i hi=> ?_
   refine Classical.byContradiction fun h4=>hc ⟨i+1,hi,.inr ⟨by omega,?_⟩⟩
   rw[Nat.add_sub_cancel]; omega
def yhH (n:Int) (c:List dW) (s:List Int):List Int:=c.foldl (fun s w=>bif w.1==n then w.2 else s) s
def yu0 (m:dM) (n:Int):Bool:=memOk m&&(!m.2.2.1&&(inb n m.1.length&& !(m.2.2.2.any (· ==n))))
def yy (m:dM) (n:Int):List Int×Bool:=bif yu0 m n then(yhH n m.2.1 (nth m.1 n []),true)else([],false)
theorem yID {P:List Int→Prop} {n:Int}: ∀{c:List dW} {s:List Int},P s→(∀w∈c,P w.2)→P (yhH n c s)
 | [],_,h,_=>h
 | w::c,s,h,hc=>yID (c:=c) (zki (hc w List.mem_cons_self) h) (fun x hx=>hc x (List.mem_cons_of_mem _ hx))
theorem yHY {α:Type} {P:α→Prop} {l:List α} {i:Int} {d:α} (h:inb i l.length=true) (hl: ∀x∈l,P x):P (nth l i d):=by
 obtain⟨h1,h2⟩:=zjA.1 h;unfold nth;rw[zkb (show i.toNat<l.length by omega)];exact hl _ (List.getElem_mem _)
theorem yYk {α:Type} {p:α→Bool} {l:List α} (h:leb 0 (yL p l)=false):yL p l= -1:=by
 unfold yL at h ⊢
 cases ha:l.any p
 ·rfl
 ·rw[ha,cond_true,zku (show(0:Int)≤((l.takeWhile (fun x=> !p x)).length:Int)by omega)]at h; cases h
theorem y0b {α:Type} {p:α→Bool}: ∀{l:List α},leb 0 (yL p l)=true→(l.take ((yL p l).toNat+1)).filter (fun x=> !p x)=l.take (yL p l).toNat
 | [],h=>by rw[y0a]at h; cases h
 | x::l,h=>by
  rw[yB0]at h ⊢
  cases hx:p x
  ·rw[hx]at h
   cases hl:leb 0 (yL p l)
   ·rw[hl]at h; cases h
   ·have h4:=zjB.1 hl
    simp only[cond_false,cond_true];rw[show(yL p l+1).toNat=(yL p l).toNat+1 by omega,List.take_succ_cons,List.take_succ_cons,List.filter_cons,hx,y0b hl]; rfl
  ·simp only[cond_true]
   show List.filter (fun x=> !p x) [x]= [];rw[List.filter_cons,hx]; rfl
theorem y5d {α:Type} {p:α→Bool} {l:List α} (h:leb 0 (yL p l)=false):l.filter (fun x=> !p x)=l:=by
 rw[List.filter_eq_self];intro x hx;unfold yL at h
 cases ha:l.any p
 ·have:=List.any_eq_false.1 ha x hx
  simpa using this
 ·rw[ha,cond_true,zku (show(0:Int)≤((l.takeWhile (fun x=> !p x)).length:Int)by omega)]at h; cases h
def yu (a:dA):dA:=(a.1,a.2.1,a.2.2.1,a.2.2.2.1,a.2.2.2.2.1,IntKind.i64.wrap (a.2.2.2.2.2.1+1),a.2.2.2.2.2.2)
def dataAt (s:Int):Int:=bif leb 0 s&&leb s 1099511627776 then s+6 else -1
def yb9 (a:dA) (m s:Int):Bool:=inb m a.2.2.1.length&&(!(nth a.2.2.1 m noMem).2.2.1&&(m !=a.2.2.2.1||ltb s a.2.2.2.2.1))
def ycY (a:dA) (m s:Int):List Int×Bool:=yy (nth a.2.2.1 m noMem) (dataAt s)
def yn (a:dA) (m s:Int):Bool:=yb9 a m s&&((ycY a m s).2&&((ycY a m s).1.length:Int)==1)
def yjV (a:dA) (m s:Int):Int:=bif yn a m s then nth (ycY a m s).1 0 0 else 0
def xw (a b:Int):Int:=IntKind.i64.wrap ((BitVec.ofInt IntKind.i64.bits a ^^^ BitVec.ofInt IntKind.i64.bits b).toNat:Int)
def xorOf (l:List Int):Int:=l.foldl xw 0
def yCL (a:dA) (s:Int):Bool:=(List.range a.2.2.1.length).all (fun(i:Nat)=>yn a i s)
def ytZ (a:dA) (s:Int):Int×Bool:=bif yCL a s then(xorOf ((List.range a.2.2.1.length).map (fun(i:Nat)=>yjV a i s)),true)else(0,false)
def y1T (a:dA):Bool:=(List.range (min a.2.1.2.toNat 20)).all (fun(s:Nat)=> !((ytZ a s).2&&(ytZ a s).1 !=0))
def bv (x:Int):BitVec 64:=BitVec.ofInt 64 x
theorem y1V (a b:Int):xw a b=(bv a ^^^ bv b).toInt:=by
 show IntKind.i64.wrap ((bv a ^^^ bv b).toNat:Int)=_;rw[IntKind.wrap_i64,BitVec.toInt_eq_toNat_cond];have:=(bv a ^^^ bv b).isLt
 split<;>omega
theorem yx5 (v:BitVec 64):bv v.toInt=v:=by unfold bv; simp
theorem y5x {x:Int} (h: -9223372036854775808≤x) (h2:x≤9223372036854775807):(bv x).toInt=x:=by
 unfold bv;rw[BitVec.toInt_ofInt,Int.bmod_def];simp only[Nat.reducePow]at *;omega
def yfj (l:List Int):BitVec 64:=l.foldl (fun v x=>v ^^^ bv x) 0#64
theorem yqV (l:List Int):xorOf l=(yfj l).toInt:=by
 have: ∀(l:List Int) (v:BitVec 64),l.foldl xw v.toInt=(l.foldl (fun v x=>v ^^^ bv x) v).toInt:=by
  intro l
  induction l with
  | nil=>intro _; rfl
  | cons x l ih =>
   intro v;rw[List.foldl_cons,List.foldl_cons,y1V,yx5,ih]
 have h:=this l 0#64
 rwa[show(0#64:BitVec 64).toInt=0 from by decide]at h
theorem y40 (l:List Int) (x:Int):yfj (l++ [x])=yfj l ^^^ bv x:=by unfold yfj; rw[List.foldl_append]; rfl
theorem y5J {i:Int} {n:Nat} (h: ¬(0≤i∧i<(n:Int))):inb i n=false:=by
 cases e:inb i n
 ·rfl
 ·exact absurd (zjA.1 e) h
def yqm (l:List Int) (k:Int):Int:=bif inb k l.length then xw (xorOf l) (nth l k 0)else xorOf l
theorem y0s (u v:BitVec 64):u ^^^ v ^^^ v=u:=by rw[BitVec.xor_assoc,BitVec.xor_self,BitVec.xor_zero]
theorem y4E (l:List Int) (k:Int):(List.range l.length).foldl (fun n (i:Nat)=>bif(i:Int) !=k then xw n (nth l i 0)else n) 0=yqm l k:=by
 have: ∀n,n≤l.length→(List.range n).foldl (fun n (i:Nat)=>bif(i:Int) !=k then xw n (nth l i 0)else n) 0=(bif inb k n then yfj (l.take n) ^^^ bv (nth l k 0)else yfj (l.take n)).toInt:=by
  intro n
  induction n with
  | zero =>
   intro _;rw[y5J (show ¬(0≤k∧k<((0:Nat):Int))by omega)];rfl
  | succ n ih =>
   intro hn;rw[List.range_succ,List.foldl_append,List.foldl_cons,List.foldl_nil,ih (by omega),← y4M l 0 (show n<l.length by omega),y40]
   by_cases hk:(n:Int)=k
   ·subst hk
    rw[show((n:Int) !=n)=false by simp,cond_false,y5J (show ¬(0≤(n:Int)∧(n:Int)<(n:Int))by omega),show inb (n:Int) (n+1)=true from zkj (Nat.lt_succ_self n),cond_false,cond_true,y0s]
   ·rw[show((n:Int) !=k)=true from bne_iff_ne.2 hk,cond_true,show inb k (n+1)=inb k n by rw[Bool.eq_iff_iff,zjA,zjA]; omega,y1V,yx5]
    cases inb k n
    ·rfl
    ·rw[cond_true,cond_true,BitVec.xor_assoc,BitVec.xor_comm (bv (nth l k 0)),← BitVec.xor_assoc]
 rw[this l.length (Nat.le_refl _),List.take_length];unfold yqm;rw[y1V,yqV,yx5]
 cases inb k l.length<;>rfl
theorem y4D {l:List Int} {k:Int} (h:inb k l.length=true) (h0:nth l k 0=0):yqm l k=xorOf l:=by
 unfold yqm;rw[h,h0,cond_true,y1V,yqV,yx5,show bv 0=0#64 by decide,BitVec.xor_zero]
theorem yZ7 {α β:Type} (f:α→List β): ∀(l:List α) (s:List β),l.foldl (fun s i=>s++f i) s=s++l.flatMap f
 | [],s=>by simp
 | x::l,s=>by rw[List.foldl_cons,yZ7 f l]; simp
abbrev yae:dA:=(0,(0,0),[],0,0,0,0,0,[],0,false,false)
def yNc (k:Int) (i:Nat):Bool:=IntKind.i64.wrap ((BitVec.ofInt IntKind.i64.bits (k.fdiv (2^(min (i:Int).toNat IntKind.i64.bits))) &&& BitVec.ofInt IntKind.i64.bits 1).toNat:Int)==1
def yVo (k:Int):Int:=bif leb 0 k&&leb k 1048575 then k else 0
def yfa (b:Nat→Bool) (c:List dW) (l:List (List Int)) (i:Nat):List (List Int):=bif b i then l.set (nth c i (0,[])).1.toNat (nth c i (0,[])).2 else l
def ygS (b:Nat→Bool) (c:List dW) (l:List (List Int)):List (List Int):=(List.range c.length).foldl (yfa b c) l
def ydA (m:dM) (k:Int):dM:=bif memOk m then(ygS (fun i=>decide (i<20)&&yNc (yVo k) i) m.2.1 m.1,[],m.2.2.1,m.2.2.2)else m
def yMb (ks:List Int) (i:Nat):Int:=bif decide (i<ks.length)then nth ks i 0 else 0
def yJ (l:List dM) (ks:List Int):List dM:=(List.range l.length).map (fun(i:Nat)=>ydA (nth l i noMem) (yMb ks i))
theorem yca {m:dM} (h:memOk m=true):m.1.all yaa=true∧m.2.1.all (yuT m.1.length)=true∧yrs m.1.length m.2.2.2=true∧1≤m.1.length∧m.1.length≤20∧m.2.1.length≤60:=by
 simp only[memOk,Bool.and_eq_true,zjB]at h;exact⟨h.1.1.1.1.1,h.1.1.1.1.2,h.1.1.1.2,by omega,by omega,by omega⟩
theorem yRy {m:dM} (h:memOk m=true) {i:Nat} (hi:i<m.2.1.length):inb (nth m.2.1 i (0,[])).1 m.1.length=true∧yaa (nth m.2.1 i (0,[])).2=true:=by
 have h1:=List.all_eq_true.1 (yca h).2.1 m.2.1[i] (List.getElem_mem hi);rw[zkk,zkb hi];exact Bool.and_eq_true_iff.1 h1
theorem ywC {b:Nat→Bool} {c:List dW} {l:List (List Int)} {i:Nat}:(yfa b c l i).length=l.length:=by
 unfold yfa; cases b i
 ·rfl
 ·exact List.length_set
theorem yUH {α β:Type} (P:β→Prop) (f:β→α→β) (h: ∀s x,P s→P (f s x)): ∀(l:List α) (s:β),P s→P (l.foldl f s)
 | [],_,hs=>hs
 | x::l,s,hs=>yUH P f h l (f s x) (h s x hs)
theorem ysZ {b:Nat→Bool} {c:List dW} {l:List (List Int)}:(ygS b c l).length=l.length :=
 yUH (fun x=>x.length=l.length) _ (fun s x hs=>by rw[ywC]; exact hs) _ l rfl
theorem y3k {P:List Int→Prop} {b:Nat→Bool} {c:List dW} {l:List (List Int)} (hl: ∀x∈l,P x) (hc: ∀w∈c,P w.2): ∀x∈ygS b c l,P x:=by
 have: ∀(n:Nat),n≤c.length→ ∀x∈(List.range n).foldl (yfa b c) l,P x:=by
  intro n
  induction n with
  | zero=>intro _; exact hl
  | succ n ih =>
   intro hn x hx;rw[List.range_succ,List.foldl_append,List.foldl_cons,List.foldl_nil,yfa]at hx
   cases hb:b n
   ·rw[hb]at hx; exact ih (by omega) x hx
   ·rw[hb,cond_true]at hx
    rcases List.mem_or_eq_of_mem_set hx with h | h
    ·exact ih (by omega) x h
    ·rw[h,zkk,zkb (show n<c.length by omega)]
     exact hc _ (List.getElem_mem _)
 exact this _ (Nat.le_refl _)
def yaR (m:dM) (n:Int) (s:List Int):Bool:=memOk m&&(!m.2.2.1&&(inb n m.1.length&&(yaa s&&ltb (m.2.1.length:Int) 60)))
def yIL (l:List Int) (n:Int):List Int:=l.filter (· !=n)
def yE (m:dM) (n:Int) (s:List Int):dM×Bool:=bif yaR m n s then((m.1,m.2.1++ [(n,s)],m.2.2.1,yIL m.2.2.2 n),true)else(m,false)
def ym (m:dM):dM:=bif memOk m&& !m.2.2.1 then(ygS (fun _=>true) m.2.1 m.1,[],m.2.2.1,m.2.2.2)else m
def yfE (m:dM):dM:=(m.1,[],true,m.2.2.2)
end
section
def yI6:Code:=(f81.body).getD .skip
def yJE:Env:=zj0 TT [] []
theorem yQV:FrOk prog ⟨yJE,15,fun _=>none⟩ yI6:=zj4 yc yd trivial
def yTF:Nat→Option Seg:=fun _=>none
abbrev ynj:List Par:= [.rd tI,.rd tI,.rd tI]
abbrev ytr:List OT:= [⟨false,tB,.fz⟩]
def ywZ (a0 a1 a2:Int):Option (ResD ytr×MutD ynj) :=
 bif(leb a1 a0)then
 some (((leb a0 a2),()),())
 else
 some ((false,()),())
theorem y0I (x:InD ynj):zju ⟨yJE,15,yTF⟩ f81.results.toList yI6 ynj ytr x=ywZ x.1 x.2.1 x.2.2.1:=by kernel_rfl
theorem yWf:ConOk prog 81 ⟨ynj,ytr,fun x=>ywZ x.1 x.2.1 x.2.2.1⟩:=zjZ (yQV) func81 (by kernel_rfl) (by kernel_rfl) ntmps81.symm (by decide) (fun x r h=>(y0I x).trans h)
def ye (a0 a1 a2:Int):Bool :=
 bif(leb a1 a0)then
 (leb a0 a2)
 else
 false
def yz:Con:=⟨ynj,ytr,fun x=>(fun n=>some ((n,()),())) (ye x.1 x.2.1 x.2.2.1)⟩
theorem yYA (a0 a1 a2:Int):ywZ a0 a1 a2=(fun n=>some ((n,()),())) (ye a0 a1 a2):=zkn (p:=fun(n:Bool)=>((n,()),())) (zj9 (p:=fun(n:Bool)=>((n,()),())) rfl rfl)
theorem yI:ConOk prog 81 yz:=(yWf).mono (fun x r _ h=>(yYA x.1 x.2.1 x.2.2.1).trans h)
end
section
def yPL:Code:=(f82.body).getD .skip
def yPN:Env:=zj0 TT [] []
theorem yYg:FrOk prog ⟨yPN,15,fun _=>none⟩ yPL:=zj4 yc yd trivial
def y0t:Nat→Option Seg:=fun _=>none
abbrev ysP:List Par:= [.rd tI,.rd tI,.rd tI]
abbrev yyI:List OT:= [⟨false,tB,.fz⟩]
def yAk (a0 a1 a2:Int):Option (ResD yyI×MutD ysP) :=
 bif(leb a1 a0)then
 some (((leb a0 a2),()),())
 else
 some ((false,()),())
theorem y3b (x:InD ysP):zju ⟨yPN,15,y0t⟩ f82.results.toList yPL ysP yyI x=yAk x.1 x.2.1 x.2.2.1:=by kernel_rfl
theorem y1z:ConOk prog 82 ⟨ysP,yyI,fun x=>yAk x.1 x.2.1 x.2.2.1⟩:=zjZ (yYg) func82 (by kernel_rfl) (by kernel_rfl) ntmps82.symm (by decide) (fun x r h=>(y3b x).trans h)
def ya (a0 a1 a2:Int):Bool :=
 bif(leb a1 a0)then
 (leb a0 a2)
 else
 false
def yw:Con:=⟨ysP,yyI,fun x=>(fun n=>some ((n,()),())) (ya x.1 x.2.1 x.2.2.1)⟩
theorem y2N (a0 a1 a2:Int):yAk a0 a1 a2=(fun n=>some ((n,()),())) (ya a0 a1 a2):=zkn (p:=fun(n:Bool)=>((n,()),())) (zj9 (p:=fun(n:Bool)=>((n,()),())) rfl rfl)
theorem yD:ConOk prog 82 yw:=(y1z).mono (fun x r _ h=>(y2N x.1 x.2.1 x.2.2.1).trans h)
theorem ywz {a b c:Int}:ya a b c=true↔b≤a∧a≤c:=by
 unfold ya
 cases h:leb b a
 ·have:=mt zku (by rw[h]; simp: ¬leb b a=true)
  simp[this]
 ·simp[zjB,zjB.1 h]
theorem y6L {a b c:Int} (h:b≤a) (h2:a≤c):ya a b c=true:=ywz.2 ⟨h,h2⟩
theorem y9 (a b c:Int):ye a b c=ya a b c:=by kernel_rfl
theorem ycf (x a b:Int):ya x a b=(leb a x&&leb x b):=by
 unfold ya; cases leb a x<;>rfl
theorem yqk {x:Int} {n:Nat} (h:n≤1152921504606846976):ya x 0 (IntKind.i64.wrap ((n:Int)-1))=inb x n:=by
 rw[wr (by omega) (by omega),Bool.eq_iff_iff,ywz,zjA]; omega
end
section
def yKQ:Code:=(f123.body).getD .skip
def yK5:Env:=zj0 TT [(81,yz)] []
theorem yUL:FrOk prog ⟨yK5,11,fun _=>none⟩ yKQ:=zj4 yc yd ⟨yI,trivial⟩
def yXp:Nat→Option Seg:=fun _=>none
abbrev yp2:List Par:= [.rd tG]
abbrev yvN:List OT:= [⟨false,tB,.fz⟩]
def yys (a0:dG):Option (ResD yvN×MutD yp2) :=
 let r1:=ye a0.1 3 5
 bif r1 then
 let r2:=ye a0.2 1 8
 some ((r2,()),())
 else
 some ((false,()),())
theorem y19 (x:InD yp2):zju ⟨yK5,11,yXp⟩ f123.results.toList yKQ yp2 yvN x=yys x.1:=by kernel_rfl
theorem yYY:ConOk prog 123 ⟨yp2,yvN,fun x=>yys x.1⟩:=zjZ (yUL) func123 (by kernel_rfl) (by kernel_rfl) ntmps123.symm (by decide) (fun x r h=>(y19 x).trans h)
def ydq (a0:dG):Bool :=
 let r1:=ye a0.1 3 5
 bif r1 then
 let r2:=ye a0.2 1 8
 r2
 else
 false
def ylv:Con:=⟨yp2,yvN,fun x=>(fun n=>some ((n,()),())) (ydq x.1)⟩
theorem y1d (a0:dG):yys a0=(fun n=>some ((n,()),())) (ydq a0):=zkn (p:=fun(n:Bool)=>((n,()),())) (zj9 (p:=fun(n:Bool)=>((n,()),())) rfl rfl)
theorem ytS:ConOk prog 123 ylv:=(yYY).mono (fun x r _ h=>(y1d x.1).trans h)
end
section
def yI5:Code:=(f125.body).getD .skip
def yJD:Env:=zj0 TT [(81,yz)] []
theorem yQU:FrOk prog ⟨yJD,26,fun _=>none⟩ yI5:=zj4 yc yd ⟨yI,trivial⟩
def yTE:Nat→Option Seg:=fun _=>none
abbrev yni:List Par:= [.rd tG,.rd tI,.rd tI]
abbrev ytq:List OT:= [⟨false,tB,.fz⟩]
def ywY (a0:dG) (a1 a2:Int):Option (ResD ytq×MutD yni) :=
 let r1:=ye a1 (-1) (IntKind.i64.wrap (a0.1-1))
 bif r1 then
 let r2:=ye a2 0 a0.2
 bif r2 then
 bif(!(a2==0))then
 some (((a1 !=(-1)),()),())
 else
 some ((true,()),())
 else
 some ((false,()),())
 else
 some ((false,()),())
theorem y0H (x:InD yni):zju ⟨yJD,26,yTE⟩ f125.results.toList yI5 yni ytq x=ywY x.1 x.2.1 x.2.2.1:=by kernel_rfl
theorem yWe:ConOk prog 125 ⟨yni,ytq,fun x=>ywY x.1 x.2.1 x.2.2.1⟩:=zjZ (yQU) func125 (by kernel_rfl) (by kernel_rfl) ntmps125.symm (by decide) (fun x r h=>(y0H x).trans h)
def yfU (a0:dG) (a1 a2:Int):Bool :=
 let r1:=ye a1 (-1) (IntKind.i64.wrap (a0.1-1))
 bif r1 then
 let r2:=ye a2 0 a0.2
 bif r2 then
 bif(!(a2==0))then
 (a1 !=(-1))
 else
 true
 else
 false
 else
 false
def ywe:Con:=⟨yni,ytq,fun x=>(fun n=>some ((n,()),())) (yfU x.1 x.2.1 x.2.2.1)⟩
theorem yYz (a0:dG) (a1 a2:Int):ywY a0 a1 a2=(fun n=>some ((n,()),())) (yfU a0 a1 a2):=zkn (p:=fun(n:Bool)=>((n,()),())) (zj9 (p:=fun(n:Bool)=>((n,()),())) (zj9 (p:=fun(n:Bool)=>((n,()),())) (zj9 (p:=fun(n:Bool)=>((n,()),())) rfl rfl) rfl) rfl)
theorem yH4:ConOk prog 125 ywe:=(yWe).mono (fun x r _ h=>(yYz x.1 x.2.1 x.2.2.1).trans h)
end
section
def yCc:Code:=(f109.body).getD .skip
def yCF:Env:=zj0 TT [(81,yz),(123,ylv)] []
theorem yKm:FrOk prog ⟨yCF,14,fun _=>none⟩ yCc:=zj4 yc yd ⟨yI,ytS,trivial⟩
def yK3:Nat→Option Seg:=fun _=>none
abbrev yg1:List Par:= [.rd tG,.rd tI]
abbrev yme:List OT:= [⟨false,tB,.fz⟩]
def yqF (a0:dG) (a1:Int):Option (ResD yme×MutD yg1) :=
 let r1:=ydq a0
 bif r1 then
 let r2:=ye a1 0 (IntKind.i64.wrap (a0.2-1))
 some ((r2,()),())
 else
 some ((false,()),())
theorem yQC (x:InD yg1):zju ⟨yCF,14,yK3⟩ f109.results.toList yCc yg1 yme x=yqF x.1 x.2.1:=by kernel_rfl
theorem yMK:ConOk prog 109 ⟨yg1,yme,fun x=>yqF x.1 x.2.1⟩:=zjZ (yKm) func109 (by kernel_rfl) (by kernel_rfl) ntmps109.symm (by decide) (fun x r h=>(yQC x).trans h)
def yaz (a0:dG) (a1:Int):Bool :=
 let r1:=ydq a0
 bif r1 then
 let r2:=ye a1 0 (IntKind.i64.wrap (a0.2-1))
 r2
 else
 false
def ye9:Con:=⟨yg1,yme,fun x=>(fun n=>some ((n,()),())) (yaz x.1 x.2.1)⟩
theorem yO0 (a0:dG) (a1:Int):yqF a0 a1=(fun n=>some ((n,()),())) (yaz a0 a1):=zkn (p:=fun(n:Bool)=>((n,()),())) (zj9 (p:=fun(n:Bool)=>((n,()),())) rfl rfl)
theorem yki:ConOk prog 109 ye9:=(yMK).mono (fun x r _ h=>(yO0 x.1 x.2.1).trans h)
end
section
def yI4:Code:=(f135.body).getD .skip
def yJC:Env:=zj0 TT [(81,yz)] []
theorem yQT:FrOk prog ⟨yJC,5,fun _=>none⟩ yI4:=zj4 yc yd ⟨yI,trivial⟩
def yTD:Nat→Option Seg:=fun _=>none
abbrev ynh:List Par:= [.rd tI]
abbrev ytp:List OT:= [⟨false,tB,.fz⟩]
def ywX (a0:Int):Option (ResD ytp×MutD ynh) :=
 let r1:=ye a0 0 65535
 some ((r1,()),())
theorem y0G (x:InD ynh):zju ⟨yJC,5,yTD⟩ f135.results.toList yI4 ynh ytp x=ywX x.1:=by kernel_rfl
theorem yWd:ConOk prog 135 ⟨ynh,ytp,fun x=>ywX x.1⟩:=zjZ (yQT) func135 (by kernel_rfl) (by kernel_rfl) ntmps135.symm (by decide) (fun x r h=>(y0G x).trans h)
def yah (a0:Int):Bool :=
 let r1:=ye a0 0 65535
 r1
def yFH:Con:=⟨ynh,ytp,fun x=>(fun n=>some ((n,()),())) (yah x.1)⟩
theorem yYy (a0:Int):ywX a0=(fun n=>some ((n,()),())) (yah a0):=zkn (p:=fun(n:Bool)=>((n,()),())) rfl
theorem yZp:ConOk prog 135 yFH:=(yWd).mono (fun x r _ h=>(yYy x.1).trans h)
end
section
def ykJ:Code:=(f187.body).getD .skip
def yq2:Env:=zj0 TT [(135,yFH)] []
theorem yOh:FrOk prog ⟨yq2,15,fun _=>none⟩ ykJ:=zj4 yc yd ⟨yZp,trivial⟩
def yCr:Nat→Option Seg:=fun _=>none
def ydy:Shape:=⟨[(5,false,[.br tI]),(6,false,[.int .i64]),(7,false,[.int .i64])],[],[]⟩
def yjZ:Shape:=⟨[(5,false,[.br tI]),(6,false,[.int .i64]),(7,false,[.ci .i64 0])],[],[]⟩
def yjX:Shape:=⟨[],[],[]⟩
def yj9:Shape:=⟨[(2,false,[.bool])],[],[]⟩
def yqP (v0:List Int) (v1 v2:Int):Option ((ydy).X ⊕ ((yjX).X ⊕ (yj9).X)) :=
 bif(ltb v2 v1)then
 bif(inb v2 v0.length)then
 let r2:=yah (nth v0 v2 0)
 bif(!r2)then
 some (.inr (.inr (((false,()),()),(),())))
 else
 some (.inl (((v0,()),(v1,()),((IntKind.i64.wrap (v2+1)),()),()),(),()))
 else none
 else
 some (.inr (.inl ((),(),())))
def yb0 (x:(ydy).X):=yqP x.1.1.1 x.1.2.1.1 x.1.2.2.1.1
def yzl (x:(yjZ).X):(ydy).X:=(((x.1.1.1,()),(x.1.2.1.1,()),(0,()),()),(),())
def yAT:Code:=(zef ykJ 64 52).getD .skip
theorem yNO:zef ykJ 64 13=some (.block 0 (.loop yAT)):=by kernel_rfl
theorem yPF (x:(ydy).X):zg0 ⟨yq2,15,yCr⟩ 0 yAT 52 ydy yjX yj9 x=yb0 x:=by kernel_rfl
def yzA (x:(yjZ).X):Nat:=18446744073709551616
def yr9 (x:(yjZ).X):Option ((yjX).X ⊕ (yj9).X):=zz yb0 (yzA x) (yzl x)
def yzZ:Seg:=⟨yjZ,yjX,yj9,yr9⟩
def yCs:Nat→Option Seg:=fun q=>bif Nat.beq q 13 then some yzZ else yCr q
theorem yOi:FrOk prog ⟨yq2,15,yCs⟩ ykJ:=(yOh).loop (sg:=yzZ) ydy yzl (by decide) yNO yb0 yzA (by decide) (fun _=>rfl) (fun x r _ h=>h) yPF
abbrev ygL:List Par:= [.rd tL]
abbrev yrh:List OT:= [⟨false,tB,.fz⟩]
def ymI (a0:List Int):Option (ResD yrh×MutD ygL) :=
 zjW (yr9 (((a0,()),((a0.length:Int),()),((),()),()),(),())) (fun y2 =>
 some ((true,()),())) (fun y2 =>
 some ((y2.1.1.1,()),()))
theorem yXV (x:InD ygL):zju ⟨yq2,15,yCs⟩ f187.results.toList ykJ ygL yrh x=ymI x.1:=by kernel_rfl
theorem ySB:ConOk prog 187 ⟨ygL,yrh,fun x=>ymI x.1⟩:=zjZ (yOi) func187 (by kernel_rfl) (by kernel_rfl) ntmps187.symm (by decide) (fun x r h=>(yXV x).trans h)
def yad (a0:List Int):Bool:=a0.all yah
theorem yVO (a0:List Int) (hk:zi0 ygL (a0,())):ymI a0=(fun n=>some ((n,()),())) (yad a0):=by
 have hb:a0.length*8≤2^47:=hk.1.1
 have hl:yr9 (((a0,()),((a0.length:Int),()),((),()),()),(),())=some (bif a0.all yah then .inl ((),(),())else .inr (((false,()),()),(),())) :=
  zjD (step:=yb0) a0 0 (fun i=>(((a0,()),((a0.length:Int),()),((i:Int),()),()),(),())) yah _ _ (fun i hi=>by
   simp only[yb0,yqP,zkj hi,zkk,zj2 (show(i:Int)<a0.length by omega),cond_true,wr (show -9223372036854775808≤(i:Int)+1 by omega) (by omega),Int.natCast_add,Int.natCast_one]
   cases yah (a0.getD i 0)<;>rfl) (by simp only[yb0,yqP,zkv (Int.le_refl _),cond_false]) _ (by show _<18446744073709551616; omega)
 unfold ymI yad;rw[hl]
 cases a0.all yah<;>rfl
def ymo:Con:=⟨ygL,yrh,fun x=>(fun n=>some ((n,()),())) (yad x.1)⟩
theorem ywQ:ConOk prog 187 ymo:=(ySB).mono (fun x r hk h=>(yVO x.1 hk).trans h)
end
section
def yI2:Code:=(f129.body).getD .skip
def yJA:Env:=zj0 TT [(187,ymo)] []
theorem yQR:FrOk prog ⟨yJA,15,fun _=>none⟩ yI2:=zj4 yc yd ⟨ywQ,trivial⟩
def yTB:Nat→Option Seg:=fun _=>none
abbrev ynf:List Par:= [.rd tG,.rd tL]
abbrev ytn:List OT:= [⟨false,tB,.fz⟩]
def ywV (a0:dG) (a1:List Int):Option (ResD ytn×MutD ynf) :=
 bif((a1.length:Int)==(IntKind.i64.wrap (a0.1-1)))then
 let r1:=yad a1
 some ((r1,()),())
 else
 some ((false,()),())
theorem y0E (x:InD ynf):zju ⟨yJA,15,yTB⟩ f129.results.toList yI2 ynf ytn x=ywV x.1 x.2.1:=by kernel_rfl
theorem yWb:ConOk prog 129 ⟨ynf,ytn,fun x=>ywV x.1 x.2.1⟩:=zjZ (yQR) func129 (by kernel_rfl) (by kernel_rfl) ntmps129.symm (by decide) (fun x r h=>(y0E x).trans h)
def ynK (a0:dG) (a1:List Int):Bool :=
 bif((a1.length:Int)==(IntKind.i64.wrap (a0.1-1)))then
 let r1:=yad a1
 r1
 else
 false
def yFG:Con:=⟨ynf,ytn,fun x=>(fun n=>some ((n,()),())) (ynK x.1 x.2.1)⟩
theorem yYw (a0:dG) (a1:List Int):ywV a0 a1=(fun n=>some ((n,()),())) (ynK a0 a1):=zkn (p:=fun(n:Bool)=>((n,()),())) (zj9 (p:=fun(n:Bool)=>((n,()),())) rfl rfl)
theorem yZo:ConOk prog 129 yFG:=(yWb).mono (fun x r _ h=>(yYw x.1 x.2.1).trans h)
end
section
def yKU:Code:=(f150.body).getD .skip
def yK9:Env:=zj0 TT [(82,yw)] []
theorem yUZ:FrOk prog ⟨yK9,11,fun _=>none⟩ yKU:=zj4 yc yd ⟨yD,trivial⟩
def yXt:Nat→Option Seg:=fun _=>none
abbrev yp5:List Par:= [.rd tG]
abbrev yvV:List OT:= [⟨false,tB,.fz⟩]
def yyv (a0:dG):Option (ResD yvV×MutD yp5) :=
 let r1:=ya a0.1 3 5
 bif r1 then
 let r2:=ya a0.2 1 8
 some ((r2,()),())
 else
 some ((false,()),())
theorem y2h (x:InD yp5):zju ⟨yK9,11,yXt⟩ f150.results.toList yKU yp5 yvV x=yyv x.1:=by kernel_rfl
theorem yY6:ConOk prog 150 ⟨yp5,yvV,fun x=>yyv x.1⟩:=zjZ (yUZ) func150 (by kernel_rfl) (by kernel_rfl) ntmps150.symm (by decide) (fun x r h=>(y2h x).trans h)
def n_spec_GeoOk (a0:dG):Bool :=
 let r1:=ya a0.1 3 5
 bif r1 then
 let r2:=ya a0.2 1 8
 r2
 else
 false
def ygQ:Con:=⟨yp5,yvV,fun x=>(fun n=>some ((n,()),())) (n_spec_GeoOk x.1)⟩
theorem y1l (a0:dG):yyv a0=(fun n=>some ((n,()),())) (n_spec_GeoOk a0):=zkn (p:=fun(n:Bool)=>((n,()),())) (zj9 (p:=fun(n:Bool)=>((n,()),())) rfl rfl)
theorem ynR:ConOk prog 150 ygQ:=(yY6).mono (fun x r _ h=>(y1l x.1).trans h)
theorem yg {a:Int×Int}:n_spec_GeoOk a=true↔(3≤a.1∧a.1≤5)∧1≤a.2∧a.2≤8:=by
 unfold n_spec_GeoOk
 cases h:ya a.1 3 5
 ·have: ¬(3≤a.1∧a.1≤5):=fun e=>by rw[ywz.2 e]at h; simp at h
  simp[this]
 ·simp only[cond_true,ywz]
  exact⟨fun e=>⟨ywz.1 h,e⟩,fun e=>e.2⟩
def yhB (a:dA) (i:Nat):Bool:= !(memOk (nth a.2.2.1 i noMem))||((((nth a.2.2.1 i noMem).1.length:Int) !=6+a.2.1.2)||((nth a.2.2.1 i noMem).2.2.1&&(((i:Int) !=a.2.2.2.1)&& !a.2.2.2.2.2.2.2.2.2.2.2)))
def ynD (a:dA):Bool:= !((List.range a.2.2.1.length).any (yhB a))&&(a.2.2.1.length:Int)==a.2.1.1
def yic (g:dG) (l:List dW) (i:Nat):Bool:= !(leb 0 (nth l i (0,[])).1&&leb (nth l i (0,[])).1 (g.2-1))||(((nth l i (0,[])).2.length:Int) !=g.1-1||(!((nth l i (0,[])).2.all isW)||(decide (0<i)&&leb (nth l i (0,[])).1 (nth l ((i-1:Nat):Int) (0,[])).1)))
def yat (g:dG) (l:List dW):Bool:= !((List.range l.length).any (yic g l))
def yR (a:dA):Bool :=
 n_spec_GeoOk a.2.1&&((leb 1 a.1&&leb a.1 60000)&&(ynD a&&(yat a.2.1 a.2.2.2.2.2.2.2.2.1&&((leb (-1) a.2.2.2.1&&leb a.2.2.2.1 (a.2.1.1-1))&&((leb 0 a.2.2.2.2.1&&leb a.2.2.2.2.1 a.2.1.2)&&(!(a.2.2.2.1== -1&&a.2.2.2.2.1 !=0) &&
 ((leb 0 a.2.2.2.2.2.2.1&&leb a.2.2.2.2.2.2.1 60000)&&((leb a.2.2.2.2.2.2.1 a.2.2.2.2.2.1&&leb a.2.2.2.2.2.1 60000)&&(leb a.2.2.2.2.2.1 (a.2.2.2.2.2.2.1+4)&&((leb 0 a.2.2.2.2.2.2.2.1&&leb a.2.2.2.2.2.2.2.1 60000)&&(leb (-1) a.2.2.2.2.2.2.2.2.2.1&&leb a.2.2.2.2.2.2.2.2.2.1 1000)))))))))))
theorem yuW {a:dA} (h:yR a=true):n_spec_GeoOk a.2.1=true:=(Bool.and_eq_true_iff.1 h).1
theorem y3R {a:dA} (h:yR a=true):ynD a=true:=by simp only[yR,Bool.and_eq_true]at h; exact h.2.2.1
theorem yLp {a:dA} (h:yR a=true):(a.2.2.1.length:Int)=a.2.1.1:=by have:=y3R h; simp only[ynD,Bool.and_eq_true,beq_iff_eq]at this; exact this.2
theorem y4C {a:dA} (h:ynD a=true) {i:Nat} (hi:i<a.2.2.1.length):memOk (nth a.2.2.1 i noMem)=true∧((nth a.2.2.1 i noMem).1.length:Int)=6+a.2.1.2∧((nth a.2.2.1 i noMem).2.2.1=true→(i:Int)=a.2.2.2.1∨a.2.2.2.2.2.2.2.2.2.2.2=true):=by
 simp only[ynD,Bool.and_eq_true,Bool.not_eq_true',List.any_eq_false,List.mem_range]at h;have:=h.1 i hi;simp only[yhB,Bool.not_eq_true,Bool.or_eq_false_iff,Bool.not_eq_false',bne_eq_false_iff_eq,Bool.and_eq_false_iff]at this;refine⟨this.1,this.2.1,fun hf=> ?_⟩;rcases this.2.2 with h1 | h1 | h1
 ·rw[hf]at h1; cases h1
 ·exact .inl h1
 ·exact .inr h1
theorem yL9 (a:Int×Int):ydq a=n_spec_GeoOk a:=by kernel_rfl
theorem yXE: ∀{l:List Int} {lo n:Int},l.Pairwise (· < ·)→(∀x∈l,lo≤x∧x<n)→lo≤n→(l.length:Int)≤n-lo
 | [],lo,n,_,_,h=>by simp; omega
 | x::l,lo,n,hp,hx,h=>by
  cases hp with
  | cons h1 h2 =>
   have h3:=hx x List.mem_cons_self;have:=yXE (l:=l) (lo:=x+1) (n:=n) h2 (fun y hy=>⟨h1 y hy,(hx y (List.mem_cons_of_mem _ hy)).2⟩) (by omega);rw[List.length_cons]; omega
theorem yuX {n:Nat} {l:List Int}:yrs n l=true↔(∀x∈l,0≤x∧x<n)∧l.Pairwise (· < ·):=by
 simp only[yrs,Bool.and_eq_true,List.all_eq_true,zjA,decide_eq_true_eq]
theorem yui {m:dM} (h1:m.1.all yaa=true) (h2:m.2.1.all (yuT m.1.length)=true) (h3:yrs m.1.length m.2.2.2=true) (h4:1≤m.1.length) (h5:m.1.length≤20) (h6:m.2.1.length≤60):memOk m=true:=by
 simp only[memOk,h1,h2,h3,Bool.true_and,Bool.and_eq_true,zjB];omega
theorem yVq {m:dM} (b:Nat→Bool) (h:memOk m=true):(ygS b m.2.1 m.1).all yaa=true:=by
 obtain⟨h1,h2,_⟩:=yca h;rw[List.all_eq_true];exact y3k (P:=fun x=>yaa x=true) (fun x hx=>List.all_eq_true.1 h1 x hx) (fun w hw=>(Bool.and_eq_true_iff.1 (List.all_eq_true.1 h2 w hw)).2)
theorem y26 {m:dM} (n:Int) (s:List Int) (h:memOk m=true):memOk (yE m n s).1=true:=by
 unfold yE
 cases hc:yaR m n s
 ·exact h
 ·simp only[yaR,Bool.and_eq_true,Bool.not_eq_true',zjE]at hc
  obtain⟨h1,h2,h3,h4,h5,h6⟩:=yca h;refine yui h1 ?_ ?_ h4 h5 (by show(m.2.1++ [(n,s)]).length≤60; rw[List.length_append]; simp only[List.length_cons,List.length_nil]; omega)
  ·show(m.2.1++ [(n,s)]).all (yuT m.1.length)=true
   rw[List.all_append,h2];simp[yuT,hc.2.2.1,hc.2.2.2.1]
  ·show yrs m.1.length (yIL m.2.2.2 n)=true
   obtain⟨b1,b2⟩:=yuX.1 h3;exact yuX.2 ⟨fun x hx=>b1 x (List.mem_filter.1 hx).1,b2.filter _⟩
theorem yz5 (m:dM) (n:Int) (s:List Int):(yE m n s).1.1=m.1∧(yE m n s).1.2.2.1=m.2.2.1:=by
 unfold yE
 cases yaR m n s<;>exact⟨rfl,rfl⟩
theorem y5c {m:dM} (h:memOk m=true):memOk (ym m)=true:=by
 unfold ym
 cases hc:(memOk m&& !m.2.2.1)
 ·exact h
 ·obtain⟨h1,h2,h3,h4,h5,h6⟩:=yca h
  refine yui (yVq _ h) rfl ?_ ?_ ?_ (Nat.zero_le _)
  ·show yrs (ygS _ m.2.1 m.1).length m.2.2.2=true; rw[ysZ]; exact h3
  ·show 1≤(ygS _ m.2.1 m.1).length; rw[ysZ]; exact h4
  ·show(ygS _ m.2.1 m.1).length≤20; rw[ysZ]; exact h5
theorem yu4 (m:dM):(ym m).1.length=m.1.length∧(ym m).2.2.1=m.2.2.1:=by
 unfold ym
 cases(memOk m&& !m.2.2.1)
 ·exact⟨rfl,rfl⟩
 ·exact⟨ysZ,rfl⟩
theorem yYb {m:dM} (h:memOk m=true):memOk (yfE m)=true:=by
 obtain⟨h1,h2,h3,h4,h5,h6⟩:=yca h;exact yui h1 rfl h3 h4 h5 (Nat.zero_le _)
def y4x (g:dG):Bool:=decide ((-1000≤g.1∧g.1≤1000)∧ -1000≤g.2∧g.2≤1000)
theorem y4z {g:dG} (h:(n_spec_GeoOk g||y4x g)=true):(-1000≤g.1∧g.1≤1000)∧ -1000≤g.2∧g.2≤1000:=by
 rcases Bool.or_eq_true_iff.1 h with h | h
 ·have:=yg.1 h; omega
 ·exact of_decide_eq_true h
def ypg (p:Nat→Bool) (n:Nat):Nat:=((List.range n).filter (fun i=> !p i)).length
theorem ywB (p:Nat→Bool) (n:Nat):ypg p (n+1)=bif p n then ypg p n else ypg p n+1:=by
 unfold ypg;rw[List.range_succ,List.filter_append,List.length_append,List.filter_cons]
 cases p n<;>simp
theorem y3G {α:Type} (A:List α) (y:α) (t:List α) (d:α):(A++y::t).getD A.length d=y:=by
 rw[List.getD_eq_getElem?_getD,List.getElem?_append_right (Nat.le_refl _),Nat.sub_self]; rfl
theorem y3M {α:Type} (A:List α) (y z:α) (t:List α):(A++y::t).set A.length z=A++z::t:=by
 rw[List.set_append_right _ _ (Nat.le_refl _),Nat.sub_self]; rfl
def ywA (l:List Int) (n:Int):List Int:=l.filter (fun x=>ltb x n)++n::l.filter (fun x=>ltb n x)
def spoil (m:dM) (n:Int):dM:=bif memOk m&&(inb n m.1.length&& !(m.2.2.2.any (· ==n)))then(m.1,m.2.1,m.2.2.1,ywA m.2.2.2 n)else m
theorem y2Y {l:List Int} {n:Int} (h:l.Pairwise (· < ·)) (hn:n∉l):l=l.filter (fun x=>ltb x n)++l.filter (fun x=>ltb n x):=by
 induction l with
 | nil=>rfl
 | cons x t ih =>
  obtain⟨hx,ht⟩:=List.pairwise_cons.1 h;simp only[List.mem_cons,not_or]at hn;rw[List.filter_cons,List.filter_cons]
  by_cases hlt:x<n
  ·rw[zj2 hlt,zkv (show x≤n by omega)]
   simp only[if_true,Bool.false_eq_true,if_false,List.cons_append];rw[← ih ht hn.2]
  ·have h3:t.filter (fun x=>ltb x n)= []:=List.filter_eq_nil_iff.2 (fun y hy=>by rw[zkv (by have:=hx y hy; omega)]; simp)
   have h4:t.filter (fun x=>ltb n x)=t:=List.filter_eq_self.2 (fun y hy=>zj2 (by have:=hx y hy; omega));rw[zkv (show n≤x by omega),zj2 (show n<x by omega),h3,h4]; rfl
theorem yTp {m:dM} (n:Int) (h:memOk m=true):memOk (spoil m n)=true:=by
 unfold spoil
 cases hc:(memOk m&&(inb n m.1.length&& !(m.2.2.2.any (· ==n))))
 ·exact h
 ·simp only[Bool.and_eq_true]at hc
  have hi:=zjA.1 hc.2.1;obtain⟨h1,h2,h3,h4,h5,h6⟩:=yca h;rw[yuX]at h3;refine yui h1 h2 ?_ h4 h5 h6;show yrs m.1.length (ywA m.2.2.2 n)=true;rw[yuX];unfold ywA;refine⟨fun x hx=> ?_,?_⟩
  ·rcases List.mem_append.1 hx with g | g
   ·exact h3.1 x (List.mem_filter.1 g).1
   ·rcases List.mem_cons.1 g with rfl | g
    ·exact hi
    ·exact h3.1 x (List.mem_filter.1 g).1
  ·rw[List.pairwise_append,List.pairwise_cons]
   refine⟨h3.2.filter _,⟨fun y hy=>zjE.1 (List.mem_filter.1 hy).2,h3.2.filter _⟩,fun x hx y hy=> ?_⟩;have g1:=zjE.1 (List.mem_filter.1 hx).2;rcases List.mem_cons.1 hy with rfl | hy
   ·exact g1
   ·exact Int.lt_trans g1 (zjE.1 (List.mem_filter.1 hy).2)
theorem yqG (m:dM) (n:Int):(spoil m n).1=m.1∧(spoil m n).2.2.1=m.2.2.1:=by
 unfold spoil
 cases(memOk m&&(inb n m.1.length&& !(m.2.2.2.any (· ==n))))<;>exact⟨rfl,rfl⟩
def strOk (g:dG) (s:Int):Bool:=n_spec_GeoOk g&&(leb 0 s&&leb s (g.2-1))
def parityOf (g:dG) (s:Int):Int:=bif strOk g s then g.1-1-s.tmod g.1 else -1
def ybi (g:dG) (s i:Int):Int:=bif strOk g s&&(leb 0 i&&leb i (g.1-2))then(parityOf g s+1+i).tmod g.1 else -1
theorem yG {g:dG} {s:Int}:strOk g s=true↔n_spec_GeoOk g=true∧0≤s∧s≤g.2-1:=by simp[strOk,zjB]
theorem yl5 {g:dG} {s:Int} (h:strOk g s=true):0≤parityOf g s∧parityOf g s≤g.1-1:=by
 have h1:=yG.1 h;have h2:=yg.1 h1.1;unfold parityOf;rw[h,cond_true,Int.tmod_eq_emod_of_nonneg h1.2.1];have:=Int.emod_nonneg s (show g.1≠0 by omega);have:=Int.emod_lt_of_pos s (show 0<g.1 by omega);omega
theorem yXJ {g:dG} {s i:Int} (h:strOk g s=true) (h1:0≤i) (h2:i≤g.1-2):0≤ybi g s i∧ybi g s i≤g.1-1:=by
 have h3:=yg.1 (yG.1 h).1;have h4:=yl5 h;unfold ybi;rw[h,zku h1,zku h2,Bool.and_self,Bool.and_self,cond_true,Int.tmod_eq_emod_of_nonneg (by omega)];have:=Int.emod_nonneg (parityOf g s+1+i) (show g.1≠0 by omega);have:=Int.emod_lt_of_pos (parityOf g s+1+i) (show 0<g.1 by omega);omega
def yq (p:Nat→Bool):Nat→Int
 | 0=> -1
 | n+1=>bif p n then yq p n else n
def yeL (p:Nat→Bool) (n:Nat):Bool:=(List.range n).any (fun i=> !p i&&leb 0 (yq p i))
theorem yMe (p:Nat→Bool): ∀n,yq p n= -1∨(0≤yq p n∧yq p n<n∧p (yq p n).toNat=false)
 | 0=> .inl rfl
 | n+1=>by
  unfold yq
  cases h:p n
  ·exact .inr ⟨by show(0:Int)≤n; omega,by show(n:Int)<_; omega,h⟩
  ·rcases yMe p n with h1 | h1
   ·exact .inl h1
   ·exact .inr ⟨h1.1,by show yq p n<_; omega,h1.2.2⟩
def yK (a:dA) (s:Int) (n:Nat):List Int:=(List.range n).map (fun(i:Nat)=>yjV a i s)
theorem yfi (a:dA) (s:Int) (n:Nat):(yK a s n).length=n:=by unfold yK; rw[List.length_map,List.length_range]
theorem yJ5 (a:dA) (s:Int) (n:Nat):yK a s n++ [yjV a n s]=yK a s (n+1):=by unfold yK; rw[List.range_succ,List.map_append]; rfl
theorem y3q (a:dA) (s:Int) {i n:Nat} (h:i<n):nth (yK a s n) i 0=yjV a i s:=by
 unfold yK;rw[zkk,zkb (by rw[List.length_map,List.length_range]; exact h)]; simp
def yA (a:dA) (s:Int):List Int×Bool :=
 bif yeL (fun(i:Nat)=>yn a i s) a.2.1.1.toNat then([],false)
 else bif leb 0 (yq (fun(i:Nat)=>yn a i s) a.2.1.1.toNat)then((yK a s a.2.1.1.toNat).set (yq (fun(i:Nat)=>yn a i s) a.2.1.1.toNat).toNat (xorOf (yK a s a.2.1.1.toNat)),true)
 else(yK a s a.2.1.1.toNat,true)
theorem yNb {a:dA} {s:Int} (h:(yA a s).2=true):(yA a s).1.length=a.2.1.1.toNat:=by
 unfold yA at h ⊢
 cases h1:yeL (fun(i:Nat)=>yn a i s) a.2.1.1.toNat
 ·cases leb 0 (yq (fun(i:Nat)=>yn a i s) a.2.1.1.toNat)
  ·exact yfi _ _ _
  ·simp only[cond_false,cond_true,List.length_set]; exact yfi _ _ _
 ·rw[h1]at h; cases h
theorem y0j (a:dA) (s:Int) (n:Nat) (h:leb 0 (yq (fun(i:Nat)=>yn a i s) n)=true):inb (yq (fun(i:Nat)=>yn a i s) n) (yK a s n).length=true∧yqm (yK a s n) (yq (fun(i:Nat)=>yn a i s) n)=xorOf (yK a s n):=by
 rcases yMe (fun(i:Nat)=>yn a i s) n with h1 | h1
 ·rw[h1]at h; cases h
 ·have h2:inb (yq (fun(i:Nat)=>yn a i s) n) (yK a s n).length=true:=by rw[yfi,zjA]; exact⟨h1.1,h1.2.1⟩
  refine⟨h2,y4D h2 ?_⟩;have h3:=y3q a s (show(yq (fun(i:Nat)=>yn a i s) n).toNat<n by omega);rw[show(((yq (fun(i:Nat)=>yn a i s) n).toNat:Nat):Int)=yq (fun(i:Nat)=>yn a i s) n by omega]at h3;rw[h3];unfold yjV
  have h4:yn a (yq (fun(i:Nat)=>yn a i s) n) s=false:=by
   have:=h1.2.2;have this:yn a ((yq (fun(i:Nat)=>yn a i s) n).toNat:Nat) s=false:=h1.2.2
   rwa[show(((yq (fun(i:Nat)=>yn a i s) n).toNat:Nat):Int)=yq (fun(i:Nat)=>yn a i s) n by omega]at this
  rw[h4]; rfl
def ytM (a:dA) (s:Int):List Int×Bool:=bif(yA a s).2 then((List.range (a.2.1.1-1).toNat).map (fun(i:Nat)=>nth (yA a s).1 (ybi a.2.1 s i) 0),true)else([],false)
def ydp (a:dA) (s:Int):List Int×Bool:=bif yR a&&(!a.2.2.2.2.2.2.2.2.2.2.2&&strOk a.2.1 s)then ytM a s else([],false)
theorem y4r (a:dA) (s:Int):(ytM a s).1.length≤(a.2.1.1-1).toNat:=by
 unfold ytM
 cases(yA a s).2
 ·exact Nat.zero_le _
 ·simp
def yB7 (a:dA):List Int:=bif yR a&&(List.range a.2.1.2.toNat).all (fun(s:Nat)=>(ydp a s).2)then(List.range a.2.1.2.toNat).flatMap (fun(s:Nat)=>(ydp a s).1)else[]
theorem yGs (g:dG) (s:Int):yaz g s=strOk g s:=by
 unfold yaz strOk;rw[yL9]
 cases hg:n_spec_GeoOk g
 ·rfl
 have:=yg.1 hg;rw[y9,ycf,wr (by omega) (by omega)]; rfl
theorem y3U {a:dA} (s:Int) (hg:n_spec_GeoOk a.2.1=true):(ydp a s).1.length≤4:=by
 have:=yg.1 hg;unfold ydp
 cases(yR a&&(!a.2.2.2.2.2.2.2.2.2.2.2&&strOk a.2.1 s))
 ·exact Nat.zero_le _
 ·have:=y4r a s
  show(ytM a s).1.length≤4;omega
theorem yVr (p:Nat→Bool): ∀n,leb 0 (yq p n)=decide (1≤ypg p n)∧yeL p n=decide (2≤ypg p n)
 | 0=>⟨rfl,rfl⟩
 | n+1=>by
  obtain⟨h1,h2⟩:=yVr p n
  have e:yeL p (n+1)=(yeL p n||(!p n&&leb 0 (yq p n))):=by
   unfold yeL;rw[List.range_succ,List.any_append]; simp
  have e2:yq p (n+1)=bif p n then yq p n else n:=rfl;rw[e,e2,ywB,h2,h1]
  cases hp:p n
  ·simp only[cond_false,Bool.not_false,Bool.true_and]
   refine⟨by rw[zku (show(0:Int)≤n by omega)]; simp,?_⟩;rw[Bool.eq_iff_iff,Bool.or_eq_true,decide_eq_true_eq,decide_eq_true_eq,decide_eq_true_eq]; omega
  ·simp[h1]
def curS (m:dM) (n:Int):List Int:=yhH n m.2.1 (nth m.1 n [])
def yaC (m:dM) (n:Int):Bool:=m.2.2.2.any (· ==n)
def yqa (m:dM) (n:Int) (v:List Int):Prop:=v=nth m.1 n []∨ ∃w∈m.2.1,w.1=n∧w.2=v
theorem yVC (n:Int): ∀(c:List dW) (s:List Int),yhH n c s=s∨ ∃w∈c,w.1=n∧w.2=yhH n c s
 | [],s=> .inl rfl
 | w::c,s=>by
  show yhH n c (bif w.1==n then w.2 else s)=s∨ ∃x∈w::c,x.1=n∧x.2=yhH n c (bif w.1==n then w.2 else s);rcases yVC n c (bif w.1==n then w.2 else s)with h | ⟨x,hx,h1,h2⟩
  ·rw[h]
   cases hw:(w.1==n)
   ·exact .inl rfl
   ·exact .inr ⟨w,List.mem_cons_self,beq_iff_eq.1 hw,rfl⟩
  ·exact .inr ⟨x,List.mem_cons_of_mem _ hx,h1,h2⟩
theorem yya (m:dM) (n:Int):yqa m n (curS m n):=yVC n m.2.1 _
theorem yPZ (n:Int) (c:List dW) (w:dW) (s:List Int):yhH n (c++ [w]) s=bif w.1==n then w.2 else yhH n c s:=by
 unfold yhH; rw[List.foldl_append]; rfl
theorem yTo {m:dM} {n:Int} (h:memOk m=true) (h1:m.2.2.1=false) (h2:inb n m.1.length=true):yy m n=bif yaC m n then([],false)else(curS m n,true):=by
 unfold yy yu0;rw[h,h1,h2];show(bif !(yaC m n)then(curS m n,true)else([],false))=_
 cases yaC m n<;>rfl
theorem ysR {m:dM} {n:Int} {s:List Int} (h:memOk m=true) (h1:m.2.2.1=false) (h2:inb n m.1.length=true) (h3:yaa s=true) (h4:m.2.1.length<60):yaR m n s=true:=by
 unfold yaR;rw[h,h1,h2,h3,zj2 (by omega)]; rfl
theorem yIU {m:dM} {n:Int} {s:List Int} (h:yaR m n s=true):(yE m n s).1=(m.1,m.2.1++ [(n,s)],m.2.2.1,yIL m.2.2.2 n):=by unfold yE; rw[h]; rfl
theorem yqh {m:dM} {n:Int} {s:List Int} (h:yaR m n s=true) (k:Int):curS (yE m n s).1 k=bif n==k then s else curS m k:=by
 rw[yIU h]; exact yPZ _ _ _ _
theorem y41 (l:List Int) (n k:Int):(yIL l n).any (· ==k)=(l.any (· ==k)&&k !=n):=by
 rw[Bool.eq_iff_iff];simp only[yIL,List.any_eq_true,List.mem_filter,Bool.and_eq_true,beq_iff_eq,bne_iff_ne];constructor
 ·rintro⟨x,⟨h1,h2⟩,rfl⟩; exact⟨⟨x,h1,rfl⟩,h2⟩
 ·rintro⟨⟨x,h1,rfl⟩,h2⟩; exact⟨x,⟨h1,h2⟩,rfl⟩
theorem yyW {m:dM} {n:Int} {s:List Int} (h:yaR m n s=true) (k:Int):yaC (yE m n s).1 k=(yaC m k&&k !=n):=by
 rw[yIU h]; exact y41 _ _ _
theorem y4d {m:dM} {n:Int} {s:List Int} {k:Int} {v:List Int} (h:yqa (yE m n s).1 k v):yqa m k v∨(k=n∧v=s):=by
 cases hc:yaR m n s
 ·unfold yE at h; rw[hc]at h; exact .inl h
 ·rw[yIU hc]at h
  rcases h with h | ⟨w,hw,h1,h2⟩
  ·exact .inl (.inl h)
  ·rcases List.mem_append.1 hw with hw | hw
   ·exact .inl (.inr ⟨w,hw,h1,h2⟩)
   ·rw[List.mem_singleton.1 hw]at h1 h2; exact .inr ⟨h1.symm,h2.symm⟩
theorem yDS {α:Type} {l:List α} {i k:Int} {x d:α} (hi:inb i l.length=true) (hk:0≤k):nth (l.set i.toNat x) k d=bif i==k then x else nth l k d:=by
 have h1:=zjA.1 hi;unfold nth;rw[List.getD_eq_getElem?_getD,List.getD_eq_getElem?_getD,List.getElem?_set]
 by_cases h:i=k
 ·subst h; simp[show i.toNat<l.length by omega]
 ·rw[if_neg (by omega),show(i==k)=false from beq_eq_false_iff_ne.2 h]; rfl
theorem y3B (b:Nat→Bool) {c:List dW} {l:List (List Int)} {k:Int} (hk:0≤k) (hc: ∀w∈c,inb w.1 l.length=true) :
  ∀n,n≤c.length→((List.range n).foldl (yfa b c) l).length=l.length∧(nth ((List.range n).foldl (yfa b c) l) k []=nth l k []∨ ∃w∈c,w.1=k∧w.2=nth ((List.range n).foldl (yfa b c) l) k []) ∧
   ((∀i,b i=true)→nth ((List.range n).foldl (yfa b c) l) k []=yhH k (c.take n) (nth l k [])):=by
 intro n
 induction n with
 | zero=>intro _; exact⟨rfl,.inl rfl,fun _=>rfl⟩
 | succ n ih =>
  intro hn;obtain⟨h1,h2,h3⟩:=ih (by omega);rw[List.range_succ,List.foldl_append,List.foldl_cons,List.foldl_nil];have hnc:n<c.length:=by omega
  generalize (List.range n).foldl (yfa b c) l=L at h1 h2 h3 ⊢;refine⟨ywC.trans h1,?_⟩;unfold yfa;rw[zkk,zkb hnc];have hw:inb c[n].1 L.length=true:=by rw[h1]; exact hc _ (List.getElem_mem hnc)
  cases hb:b n
  ·refine⟨h2,fun h=> ?_⟩
   rw[h n]at hb; cases hb
  ·simp only[cond_true,yDS hw hk]
   constructor
   ·cases he:(c[n].1==k)
    ·exact h2
    ·exact .inr ⟨c[n],List.getElem_mem hnc,beq_iff_eq.1 he,rfl⟩
   ·intro h
    rw[h3 h,List.take_add_one,List.getElem?_eq_getElem hnc];exact(yPZ k _ _ _).symm
theorem y2J {m:dM} (h:memOk m=true): ∀w∈m.2.1,inb w.1 m.1.length=true:=fun w hw=>by
 have:=List.all_eq_true.1 (yca h).2.1 w hw;simp only[yuT,Bool.and_eq_true]at this; exact this.1
theorem y4w {m:dM} {k:Int} (h:memOk m=true) (h1:m.2.2.1=false) (hk:0≤k):nth (ym m).1 k []=curS m k:=by
 have:=(y3B (fun _=>true) hk (y2J h) m.2.1.length (Nat.le_refl _)).2.2 (fun _=>rfl);rw[List.take_length]at this;unfold ym;rw[h,h1]; exact this
theorem yBW {m:dM} (h:memOk m=true) (h1:m.2.2.1=false):(ym m).2.1= []∧(ym m).2.2=m.2.2:=by
 unfold ym;rw[h,h1];refine⟨rfl,?_⟩;show(false,m.2.2.2)=m.2.2;rw[← h1]
theorem ywr {m:dM} {k:Int} {v:List Int} (h:memOk m=true) (h1:m.2.2.1=false) (hk:0≤k) (hv:yqa (ym m) k v):v=curS m k:=by
 rcases hv with hv | ⟨w,hw,_⟩
 ·rw[hv,y4w h h1 hk]
 ·rw[(yBW h h1).1]at hw; cases hw
theorem y4v {m:dM} {k:Int} (h:memOk m=true) (h1:m.2.2.1=false) (hk:0≤k):curS (ym m) k=curS m k:=ywr h h1 hk (yya _ _)
theorem yLy (m:dM) (k:Int):yaC (ym m) k=yaC m k:=by
 unfold ym
 cases(memOk m&& !m.2.2.1)<;>rfl
theorem y5b {m:dM} (h:memOk m=true) (ks:Int) {k:Int} (hk:0≤k):yqa m k (nth (ydA m ks).1 k []):=by
 have:=(y3B (fun i=>decide (i<20)&&yNc (yVo ks) i) hk (y2J h) m.2.1.length (Nat.le_refl _)).2.1;unfold ydA;rw[h];rcases this with h1 | ⟨w,hw,h1,h2⟩
 ·exact .inl h1
 ·exact .inr ⟨w,hw,h1,h2⟩
theorem yZ6 {m:dM} (h:memOk m=true) (ks:Int):(ydA m ks).2.1= []∧(ydA m ks).2.2=m.2.2∧(ydA m ks).1.length=m.1.length:=by
 unfold ydA;rw[h];exact⟨rfl,rfl,ysZ⟩
theorem y5T {m:dM} (h:memOk m=true) (ks:Int):memOk (ydA m ks)=true:=by
 obtain⟨h1,h2,h3,h4,h5,h6⟩:=yca h;obtain⟨e1,e2,e3⟩:=yZ6 h ks;refine yui ?_ (by rw[e1]; rfl) (by rw[e2,e3]; exact h3) (by omega) (by omega) (by rw[e1]; exact Nat.zero_le _);have:=yVq (fun i=>decide (i<20)&&yNc (yVo ks) i) h;unfold ydA;rw[h]; exact this
theorem y6b {x:Int} (h:isW x=true):(bv x).toNat<2^16:=by
 have:=yu7.1 h;unfold bv;rw[BitVec.toNat_ofInt];omega
theorem y6f {v:BitVec 64} (h:v.toNat<2^16):isW v.toInt=true:=by
 rw[BitVec.toInt_eq_toNat_of_lt (by omega)];exact yu7.2 (by omega)
theorem y59: ∀(l:List Int),l.all isW=true→(yfj l).toNat<2^16:=by
 intro l h
 have: ∀(l:List Int) (v:BitVec 64),v.toNat<2^16→l.all isW=true→(l.foldl (fun v x=>v ^^^ bv x) v).toNat<2^16:=by
  intro l
  induction l with
  | nil=>intro v hv _; exact hv
  | cons x t ih =>
   intro v hv h;simp only[List.all_cons,Bool.and_eq_true]at h;refine ih _ ?_ h.2;rw[BitVec.toNat_xor];exact Nat.xor_lt_two_pow hv (y6b h.1)
 exact this l 0#64 (by decide) h
theorem y0r {l:List Int} (h:l.all isW=true):isW (xorOf l)=true:=by
 rw[yqV]; exact y6f (y59 l h)
theorem yHu {l:List Int}:l.all isW=true↔ ∀x∈l,isW x=true:=by simp
theorem yYV {l:List Int} {i:Int} (h:l.all isW=true):isW (nth l i 0)=true:=by
 unfold nth;rw[List.getD_eq_getElem?_getD]
 cases e:l[i.toNat]? with
 | none=>rfl
 | some x=>exact yHu.1 h x (List.mem_of_getElem? e)
theorem yZO {l:List Int} {i:Nat} {x:Int} (h:l.all isW=true) (hx:isW x=true):(l.set i x).all isW=true:=by
 rw[yHu]at h ⊢;intro y hy;rcases List.mem_or_eq_of_mem_set hy with h1 | rfl
 ·exact h y h1
 ·exact hx
theorem y4e {m:dM} {n:Int} (h:(yy m n).2=true):yaa (yy m n).1=true:=by
 unfold yy at h ⊢
 cases hc:yu0 m n
 ·rw[hc]at h; cases h
 ·simp only[yu0,Bool.and_eq_true]at hc
  obtain⟨h1,h2,h3,_,_,_⟩:=yca hc.1;refine yID (P:=fun s=>yaa s=true) ?_ fun w hw=> ?_
  ·exact yHY (P:=fun s=>yaa s=true) hc.2.2.1 (fun x hx=>List.all_eq_true.1 h1 x hx)
  ·have:=List.all_eq_true.1 h2 w hw
   simp only[yuT,Bool.and_eq_true]at this;exact this.2
theorem y5G (a:dA) (m s:Int):isW (yjV a m s)=true:=by
 unfold yjV
 cases h:yn a m s
 ·rfl
 ·simp only[yn,Bool.and_eq_true]at h
  have:=y4e (m:=nth a.2.2.1 m noMem) (n:=dataAt s) h.2.1;simp only[yaa,Bool.and_eq_true]at this;exact yYV this.2
theorem yEl (a:dA) (s:Int) (n:Nat):(yK a s n).all isW=true:=by
 rw[yHu];unfold yK;intro x hx;obtain⟨i,_,rfl⟩:=List.mem_map.1 hx;exact y5G a i s
theorem y4W (a:dA) (s:Int):(yA a s).1.all isW=true:=by
 unfold yA
 cases yeL (fun(i:Nat)=>yn a i s) a.2.1.1.toNat
 ·cases leb 0 (yq (fun(i:Nat)=>yn a i s) a.2.1.1.toNat)
  ·exact yEl _ _ _
  ·exact yZO (yEl _ _ _) (y0r (yEl _ _ _))
 ·rfl
theorem yZ1 (a:dA) (s:Int):(ytM a s).1.all isW=true:=by
 unfold ytM
 cases(yA a s).2
 ·rfl
 ·rw[yHu]
  intro x hx;obtain⟨i,_,rfl⟩:=List.mem_map.1 hx;exact yYV (y4W a s)
end
section
def ykI:Code:=(f126.body).getD .skip
def yq1:Env:=zj0 TT [(109,ye9),(129,yFG)] []
theorem yOd:FrOk prog ⟨yq1,44,fun _=>none⟩ ykI:=zj4 yc yd ⟨yki,yZo,trivial⟩
def yCp:Nat→Option Seg:=fun _=>none
def ybH:Shape:=⟨[(1,false,[.ptr 0 0]),(6,false,[.br tW]),(7,false,[.int .i64]),(8,false,[.int .i64])],[(0,[.int .i64,.int .i64,.int .i64,.br tM,.int .i64,.int .i64,.int .i64,.int .i64,.int .i64,.br tW,.int .i64,.bool,.bool])],[]⟩
def ygj:Shape:=⟨[(1,false,[.ptr 0 0]),(6,false,[.br tW]),(7,false,[.int .i64]),(8,false,[.ci .i64 0])],[(0,[.int .i64,.int .i64,.int .i64,.br tM,.int .i64,.int .i64,.int .i64,.int .i64,.int .i64,.br tW,.int .i64,.bool,.bool])],[]⟩
def yf7:Shape:=⟨[],[],[]⟩
def ygr:Shape:=⟨[(2,false,[.bool])],[],[]⟩
abbrev yqu (v0:List dW) (v1 v2:Int) (v3:dA):(ybH).X:=((((),()),(v0,()),(v1,()),(v2,()),()),((v3.1,v3.2.1.1,v3.2.1.2,v3.2.2.1,v3.2.2.2.1,v3.2.2.2.2.1,v3.2.2.2.2.2.1,v3.2.2.2.2.2.2.1,v3.2.2.2.2.2.2.2.1,v3.2.2.2.2.2.2.2.2.1,v3.2.2.2.2.2.2.2.2.2.1,v3.2.2.2.2.2.2.2.2.2.2.1,v3.2.2.2.2.2.2.2.2.2.2.2,()),()),())
abbrev yMs (v0:List dW) (v1:Int) (v2:dA):(ygj).X:=((((),()),(v0,()),(v1,()),((),()),()),((v2.1,v2.2.1.1,v2.2.1.2,v2.2.2.1,v2.2.2.2.1,v2.2.2.2.2.1,v2.2.2.2.2.2.1,v2.2.2.2.2.2.2.1,v2.2.2.2.2.2.2.2.1,v2.2.2.2.2.2.2.2.2.1,v2.2.2.2.2.2.2.2.2.2.1,v2.2.2.2.2.2.2.2.2.2.2.1,v2.2.2.2.2.2.2.2.2.2.2.2,()),()),())
abbrev yMh  :(yf7).X:=((),(),())
abbrev yMz (v0:Bool):(ygr).X:=(((v0,()),()),(),())
def yqO (v0:List dW) (v1 v2 v3 v4 v5:Int) (v6:List dM) (v7 v8 v9 v10 v11:Int) (v12:List dW) (v13:Int) (v14 v15:Bool):Option ((ybH).X ⊕ ((yf7).X ⊕ (ygr).X)) :=
 bif(ltb v2 v1)then
 bif(inb v2 v0.length)then
 let r4:=yaz (v4,v5) ((nth v0 v2 (0,[])).1)
 bif(!(!r4))then
 bif(ltb 0 v2)then
 bif(inb (IntKind.i64.wrap (v2-1)) v12.length)then
 bif(!(leb ((nth v0 v2 (0,[])).1) ((nth v12 (IntKind.i64.wrap (v2-1)) (0,[])).1)))then
 let r5:=ynK (v4,v5) ((nth v0 v2 (0,[])).2)
 bif(!r5)then
 some (.inr (.inr (((false,()),()),(),())))
 else
 some (.inl ((((),()),(v0,()),(v1,()),((IntKind.i64.wrap (v2+1)),()),()),((v3,v4,v5,v6,v7,v8,v9,v10,v11,v12,v13,v14,v15,()),()),()))
 else
 some (.inr (.inr (((false,()),()),(),())))
 else none
 else
 let r6:=ynK (v4,v5) ((nth v0 v2 (0,[])).2)
 bif(!r6)then
 some (.inr (.inr (((false,()),()),(),())))
 else
 some (.inl ((((),()),(v0,()),(v1,()),((IntKind.i64.wrap (v2+1)),()),()),((v3,v4,v5,v6,v7,v8,v9,v10,v11,v12,v13,v14,v15,()),()),()))
 else
 some (.inr (.inr (((false,()),()),(),())))
 else none
 else
 some (.inr (.inl ((),(),())))
def ybZ (x:(ybH).X):=yqO x.1.2.1.1 x.1.2.2.1.1 x.1.2.2.2.1.1 x.2.1.1.1 x.2.1.1.2.1 x.2.1.1.2.2.1 x.2.1.1.2.2.2.1 x.2.1.1.2.2.2.2.1 x.2.1.1.2.2.2.2.2.1 x.2.1.1.2.2.2.2.2.2.1 x.2.1.1.2.2.2.2.2.2.2.1 x.2.1.1.2.2.2.2.2.2.2.2.1 x.2.1.1.2.2.2.2.2.2.2.2.2.1 x.2.1.1.2.2.2.2.2.2.2.2.2.2.1 x.2.1.1.2.2.2.2.2.2.2.2.2.2.2.1 x.2.1.1.2.2.2.2.2.2.2.2.2.2.2.2.1
def yzk (x:(ygj).X):(ybH).X:=((((),()),(x.1.2.1.1,()),(x.1.2.2.1.1,()),(0,()),()),((x.2.1.1.1,x.2.1.1.2.1,x.2.1.1.2.2.1,x.2.1.1.2.2.2.1,x.2.1.1.2.2.2.2.1,x.2.1.1.2.2.2.2.2.1,x.2.1.1.2.2.2.2.2.2.1,x.2.1.1.2.2.2.2.2.2.2.1,x.2.1.1.2.2.2.2.2.2.2.2.1,x.2.1.1.2.2.2.2.2.2.2.2.2.1,x.2.1.1.2.2.2.2.2.2.2.2.2.2.1,x.2.1.1.2.2.2.2.2.2.2.2.2.2.2.1,x.2.1.1.2.2.2.2.2.2.2.2.2.2.2.2.1,()),()),())
def yAS:Code:=(zef ykI 64 52).getD .skip
theorem yNN:zef ykI 64 13=some (.block 0 (.loop yAS)):=by kernel_rfl
theorem yPE (x:(ybH).X):zg0 ⟨yq1,44,yCp⟩ 0 yAS 52 ybH yf7 ygr x=ybZ x:=by kernel_rfl
def yzz (x:(ygj).X):Nat:=18446744073709551616
def yr8 (x:(ygj).X):Option ((yf7).X ⊕ (ygr).X):=zz ybZ (yzz x) (yzk x)
def yzY:Seg:=⟨ygj,yf7,ygr,yr8⟩
def yCq:Nat→Option Seg:=fun q=>bif Nat.beq q 13 then some yzY else yCp q
theorem yOe:FrOk prog ⟨yq1,44,yCq⟩ ykI:=(yOd).loop (sg:=yzY) ybH yzk (by decide) yNN ybZ yzz (by decide) (fun _=>rfl) (fun x r _ h=>h) yPE
abbrev yel:List Par:= [.rd tA]
abbrev ylj:List OT:= [⟨false,tB,.fz⟩]
def ymH (a0:dA):Option (ResD ylj×MutD yel) :=
 zjW (yr8 ((((),()),(a0.2.2.2.2.2.2.2.2.1,()),((a0.2.2.2.2.2.2.2.2.1.length:Int),()),((),()),()),((a0.1,a0.2.1.1,a0.2.1.2,a0.2.2.1,a0.2.2.2.1,a0.2.2.2.2.1,a0.2.2.2.2.2.1,a0.2.2.2.2.2.2.1,a0.2.2.2.2.2.2.2.1,a0.2.2.2.2.2.2.2.2.1,a0.2.2.2.2.2.2.2.2.2.1,a0.2.2.2.2.2.2.2.2.2.2.1,a0.2.2.2.2.2.2.2.2.2.2.2,()),()),())) (fun y6 =>
 some ((true,()),())) (fun y6 =>
 some ((y6.1.1.1,()),()))
theorem yXS (x:InD yel):zju ⟨yq1,44,yCq⟩ f126.results.toList ykI yel ylj x=ymH x.1:=by kernel_rfl
theorem ySy:ConOk prog 126 ⟨yel,ylj,fun x=>ymH x.1⟩:=zjZ (yOe) func126 (by kernel_rfl) (by kernel_rfl) ntmps126.symm (by decide) (fun x r h=>(yXS x).trans h)
def ylG (a0:dA):Bool:=yat a0.2.1 a0.2.2.2.2.2.2.2.2.1
def yym (a0:dA):Bool:=n_spec_GeoOk a0.2.1
theorem yF6 (l:List Int):yad l=l.all isW:=by
 unfold yad;rw[show yah=isW from funext fun x=>by unfold yah; rw[y9,ycf]; rfl]
theorem yVL (a0:dA) (hk:zi0 yel (a0,())) (hq:yym a0=true):ymH a0=(fun n=>some ((n,()),())) (ylG a0):=by
 have hb:a0.2.2.2.2.2.2.2.2.1.length*32≤2^47:=hk.1.2.2.2.2.2.2.2.2.1.1;have hg:=yg.1 hq;have hq':n_spec_GeoOk a0.2.1=true:=hq
 have h1:yr8 (yMs a0.2.2.2.2.2.2.2.2.1 a0.2.2.2.2.2.2.2.2.1.length a0)=some (bif(List.range a0.2.2.2.2.2.2.2.2.1.length).any (yic a0.2.1 a0.2.2.2.2.2.2.2.2.1)then .inr (yMz false)else .inl yMh) :=
  ziM (step:=ybZ) (fun i=>yqu a0.2.2.2.2.2.2.2.2.1 a0.2.2.2.2.2.2.2.2.1.length i a0) a0.2.2.2.2.2.2.2.2.1.length (yic a0.2.1 a0.2.2.2.2.2.2.2.2.1) _ _ (fun i hi=>by
   simp only[ybZ,yqu,yqO,zj2 (show(i:Int)<a0.2.2.2.2.2.2.2.2.1.length by omega),cond_true,wr (show -9223372036854775808≤(i:Int)+1 by omega) (by omega),Int.natCast_add,Int.natCast_one,Int.toNat_natCast,zkj hi,zkp,yaz,ynK,yL9,hq',y9,ycf,yF6,wr (show -9223372036854775808≤a0.2.1.2-1 by omega) (by omega),wr (show -9223372036854775808≤a0.2.1.1-1 by omega) (by omega),yic,bne];rcases Nat.eq_zero_or_pos i with rfl | h0
   ·cases(leb 0 (nth a0.2.2.2.2.2.2.2.2.1 ((0:Nat):Int) (0,[])).1&&leb (nth a0.2.2.2.2.2.2.2.2.1 ((0:Nat):Int) (0,[])).1 (a0.2.1.2-1))<;>cases(((nth a0.2.2.2.2.2.2.2.2.1 ((0:Nat):Int) (0,[])).2.length:Int)==a0.2.1.1-1)<;>cases((nth a0.2.2.2.2.2.2.2.2.1 ((0:Nat):Int) (0,[])).2.all isW)<;>rfl
   ·rw[show IntKind.i64.wrap ((i:Int)-1)=((i-1:Nat):Int)by rw[wr (by omega) (by omega)]; omega,zkj (show i-1<a0.2.2.2.2.2.2.2.2.1.length by omega),zj2 (show(0:Int)<i by omega),decide_eq_true h0]
    cases(leb 0 (nth a0.2.2.2.2.2.2.2.2.1 (i:Int) (0,[])).1&&leb (nth a0.2.2.2.2.2.2.2.2.1 (i:Int) (0,[])).1 (a0.2.1.2-1))<;>cases(((nth a0.2.2.2.2.2.2.2.2.1 (i:Int) (0,[])).2.length:Int)==a0.2.1.1-1)<;>cases((nth a0.2.2.2.2.2.2.2.2.1 (i:Int) (0,[])).2.all isW)<;>cases leb (nth a0.2.2.2.2.2.2.2.2.1 (i:Int) (0,[])).1 (nth a0.2.2.2.2.2.2.2.2.1 ((i-1:Nat):Int) (0,[])).1<;>rfl) (by simp only[ybZ,yqu,yqO,zkv (Int.le_refl _),cond_false]) _ (by show _<18446744073709551616; omega)
 unfold ymH ylG yat;rw[h1]
 cases(List.range a0.2.2.2.2.2.2.2.2.1.length).any (yic a0.2.1 a0.2.2.2.2.2.2.2.2.1)<;>rfl
def yrF (a0:dA):Option (ResD ylj×MutD yel):=bif yym a0 then(fun n=>some ((n,()),())) (ylG a0)else none
theorem yWX (a0:dA) (h:yym a0=true):yrF a0=(fun n=>some ((n,()),())) (ylG a0):=by unfold yrF; rw[h]; rfl
def yC2:Con:=⟨yel,ylj,fun x=>yrF x.1⟩
theorem yWJ:ConOk prog 126 yC2:=(ySy).mono (fun x r hk h=>zkq h (fun hq=>yVL x.1 hk hq))
end
section
def yI3:Code:=(f156.body).getD .skip
def yJB:Env:=zj0 TT [(81,yz)] []
theorem yQS:FrOk prog ⟨yJB,11,fun _=>none⟩ yI3:=zj4 yc yd ⟨yI,trivial⟩
def yTC:Nat→Option Seg:=fun _=>none
abbrev yng:List Par:= [.rd tM,.rd tI]
abbrev yto:List OT:= [⟨false,tB,.fz⟩]
def ywW (a0:dM) (a1:Int):Option (ResD yto×MutD yng) :=
 let r1:=ye a1 0 (IntKind.i64.wrap ((a0.1.length:Int)-1))
 some ((r1,()),())
theorem y0F (x:InD yng):zju ⟨yJB,11,yTC⟩ f156.results.toList yI3 yng yto x=ywW x.1 x.2.1:=by kernel_rfl
theorem yWc:ConOk prog 156 ⟨yng,yto,fun x=>ywW x.1 x.2.1⟩:=zjZ (yQS) func156 (by kernel_rfl) (by kernel_rfl) ntmps156.symm (by decide) (fun x r h=>(y0F x).trans h)
def ybk (a0:dM) (a1:Int):Bool :=
 let r1:=ye a1 0 (IntKind.i64.wrap ((a0.1.length:Int)-1))
 r1
def ypa:Con:=⟨yng,yto,fun x=>(fun n=>some ((n,()),())) (ybk x.1 x.2.1)⟩
theorem yYx (a0:dM) (a1:Int):ywW a0 a1=(fun n=>some ((n,()),())) (ybk a0 a1):=zkn (p:=fun(n:Bool)=>((n,()),())) rfl
theorem yyh:ConOk prog 156 ypa:=(yWc).mono (fun x r _ h=>(yYx x.1 x.2.1).trans h)
end
section
def yKS:Code:=(f186.body).getD .skip
def yK7:Env:=zj0 TT [(187,ymo)] []
theorem yUR:FrOk prog ⟨yK7,10,fun _=>none⟩ yKS:=zj4 yc yd ⟨ywQ,trivial⟩
def yXr:Nat→Option Seg:=fun _=>none
abbrev yp4:List Par:= [.rd tL]
abbrev yvQ:List OT:= [⟨false,tB,.fz⟩]
def yyu (a0:List Int):Option (ResD yvQ×MutD yp4) :=
 bif(leb (a0.length:Int) 12)then
 let r1:=yad a0
 some ((r1,()),())
 else
 some ((false,()),())
theorem y2c (x:InD yp4):zju ⟨yK7,10,yXr⟩ f186.results.toList yKS yp4 yvQ x=yyu x.1:=by kernel_rfl
theorem yY1:ConOk prog 186 ⟨yp4,yvQ,fun x=>yyu x.1⟩:=zjZ (yUR) func186 (by kernel_rfl) (by kernel_rfl) ntmps186.symm (by decide) (fun x r h=>(y2c x).trans h)
def yhD (a0:List Int):Bool :=
 bif(leb (a0.length:Int) 12)then
 let r1:=yad a0
 r1
 else
 false
def yx7:Con:=⟨yp4,yvQ,fun x=>(fun n=>some ((n,()),())) (yhD x.1)⟩
theorem y1g (a0:List Int):yyu a0=(fun n=>some ((n,()),())) (yhD a0):=zkn (p:=fun(n:Bool)=>((n,()),())) (zj9 (p:=fun(n:Bool)=>((n,()),())) rfl rfl)
theorem yJ0:ConOk prog 186 yx7:=(yY1).mono (fun x r _ h=>(y1g x.1).trans h)
theorem yGr:yhD=yaa:=funext fun s=>by
 unfold yhD yaa yad;rw[show yah=isW from funext fun x=>by unfold yah; rw[y9,ycf]; rfl]
 cases leb (s.length:Int) 12<;>rfl
end
section
def ya8:Code:=(f127.body).getD .skip
def yeP:Env:=zj0 TT [(81,yz),(156,ypa),(186,yx7)] []
theorem yUM:FrOk prog ⟨yeP,76,fun _=>none⟩ ya8:=zj4 yc yd ⟨yI,yyh,yJ0,trivial⟩
def yGR:Nat→Option Seg:=fun _=>none
def yc5:Shape:=⟨[(1,false,[.ptr 0 0]),(10,false,[.br tL]),(11,false,[.int .i64]),(12,false,[.int .i64])],[(0,[.br tL,.br tW,.bool,.br tI])],[]⟩
def yiP:Shape:=⟨[(1,false,[.ptr 0 0]),(10,false,[.br tL]),(11,false,[.int .i64]),(12,false,[.ci .i64 0])],[(0,[.br tL,.br tW,.bool,.br tI])],[]⟩
def yiA:Shape:=⟨[(1,false,[.ptr 0 0])],[(0,[.br tL,.br tW,.bool,.br tI])],[]⟩
def yje:Shape:=⟨[(2,false,[.bool])],[],[]⟩
abbrev yuk (v0:List (List Int)) (v1 v2:Int) (v3:dM):(yc5).X:=((((),()),(v0,()),(v1,()),(v2,()),()),((v3.1,v3.2.1,v3.2.2.1,v3.2.2.2,()),()),())
abbrev yRI (v0:List (List Int)) (v1:Int) (v2:dM):(yiP).X:=((((),()),(v0,()),(v1,()),((),()),()),((v2.1,v2.2.1,v2.2.2.1,v2.2.2.2,()),()),())
abbrev yRA (v0:dM):(yiA).X:=((((),()),()),((v0.1,v0.2.1,v0.2.2.1,v0.2.2.2,()),()),())
abbrev yRW (v0:Bool):(yje).X:=(((v0,()),()),(),())
def yuG (v0:List (List Int)) (v1 v2:Int) (v3:List (List Int)) (v4:List dW) (v5:Bool) (v6:List Int):Option ((yc5).X ⊕ ((yiA).X ⊕ (yje).X)) :=
 bif(ltb v2 v1)then
 bif(inb v2 v0.length)then
 let r2:=yhD (nth v0 v2 [])
 bif(!r2)then
 some (.inr (.inr (((false,()),()),(),())))
 else
 some (.inl ((((),()),(v0,()),(v1,()),((IntKind.i64.wrap (v2+1)),()),()),((v3,v4,v5,v6,()),()),()))
 else none
 else
 some (.inr (.inl ((((),()),()),((v3,v4,v5,v6,()),()),())))
def ydF (x:(yc5).X):=yuG x.1.2.1.1 x.1.2.2.1.1 x.1.2.2.2.1.1 x.2.1.1.1 x.2.1.1.2.1 x.2.1.1.2.2.1 x.2.1.1.2.2.2.1
def yDg (x:(yiP).X):(yc5).X:=((((),()),(x.1.2.1.1,()),(x.1.2.2.1.1,()),(0,()),()),((x.2.1.1.1,x.2.1.1.2.1,x.2.1.1.2.2.1,x.2.1.1.2.2.2.1,()),()),())
def yFn:Code:=(zef ya8 64 52).getD .skip
theorem yTY:zef ya8 64 13=some (.block 0 (.loop yFn)):=by kernel_rfl
theorem yW3 (x:(yc5).X):zg0 ⟨yeP,76,yGR⟩ 0 yFn 52 yc5 yiA yje x=ydF x:=by kernel_rfl
def yDw (x:(yiP).X):Nat:=18446744073709551616
def yvw (x:(yiP).X):Option ((yiA).X ⊕ (yje).X):=zz ydF (yDw x) (yDg x)
def yD5:Seg:=⟨yiP,yiA,yje,yvw⟩
def yxX:Nat→Option Seg:=fun q=>bif Nat.beq q 13 then some yD5 else yGR q
theorem yUN:FrOk prog ⟨yeP,76,yxX⟩ ya8:=(yUM).loop (sg:=yD5) yc5 yDg (by decide) yTY ydF yDw (by decide) (fun _=>rfl) (fun x r _ h=>h) yW3
def yc6:Shape:=⟨[(1,false,[.ptr 0 0]),(21,false,[.br tW]),(22,false,[.int .i64]),(23,false,[.int .i64])],[(0,[.br tL,.br tW,.bool,.br tI])],[]⟩
def yiQ:Shape:=⟨[(1,false,[.ptr 0 0]),(21,false,[.br tW]),(22,false,[.int .i64]),(23,false,[.ci .i64 0])],[(0,[.br tL,.br tW,.bool,.br tI])],[]⟩
def yiB:Shape:=⟨[(1,false,[.ptr 0 0])],[(0,[.br tL,.br tW,.bool,.br tI])],[]⟩
def yjf:Shape:=⟨[(2,false,[.bool])],[],[]⟩
abbrev yul (v0:List dW) (v1 v2:Int) (v3:dM):(yc6).X:=((((),()),(v0,()),(v1,()),(v2,()),()),((v3.1,v3.2.1,v3.2.2.1,v3.2.2.2,()),()),())
abbrev yRJ (v0:List dW) (v1:Int) (v2:dM):(yiQ).X:=((((),()),(v0,()),(v1,()),((),()),()),((v2.1,v2.2.1,v2.2.2.1,v2.2.2.2,()),()),())
abbrev yRB (v0:dM):(yiB).X:=((((),()),()),((v0.1,v0.2.1,v0.2.2.1,v0.2.2.2,()),()),())
abbrev yRX (v0:Bool):(yjf).X:=(((v0,()),()),(),())
def yuH (v0:List dW) (v1 v2:Int) (v3:List (List Int)) (v4:List dW) (v5:Bool) (v6:List Int):Option ((yc6).X ⊕ ((yiB).X ⊕ (yjf).X)) :=
 bif(ltb v2 v1)then
 bif(inb v2 v0.length)then
 let r6:=ybk (v3,v4,v5,v6) ((nth v0 v2 (0,[])).1)
 bif(!(!r6))then
 let r7:=yhD ((nth v0 v2 (0,[])).2)
 bif(!r7)then
 some (.inr (.inr (((false,()),()),(),())))
 else
 some (.inl ((((),()),(v0,()),(v1,()),((IntKind.i64.wrap (v2+1)),()),()),((v3,v4,v5,v6,()),()),()))
 else
 some (.inr (.inr (((false,()),()),(),())))
 else none
 else
 some (.inr (.inl ((((),()),()),((v3,v4,v5,v6,()),()),())))
def ydG (x:(yc6).X):=yuH x.1.2.1.1 x.1.2.2.1.1 x.1.2.2.2.1.1 x.2.1.1.1 x.2.1.1.2.1 x.2.1.1.2.2.1 x.2.1.1.2.2.2.1
def yDh (x:(yiQ).X):(yc6).X:=((((),()),(x.1.2.1.1,()),(x.1.2.2.1.1,()),(0,()),()),((x.2.1.1.1,x.2.1.1.2.1,x.2.1.1.2.2.1,x.2.1.1.2.2.2.1,()),()),())
def yFo:Code:=(zef ya8 64 116).getD .skip
theorem yTZ:zef ya8 64 29=some (.block 2 (.loop yFo)):=by kernel_rfl
theorem yW4 (x:(yc6).X):zg0 ⟨yeP,76,yxX⟩ 2 yFo 116 yc6 yiB yjf x=ydG x:=by kernel_rfl
def yDx (x:(yiQ).X):Nat:=18446744073709551616
def yvx (x:(yiQ).X):Option ((yiB).X ⊕ (yjf).X):=zz ydG (yDx x) (yDh x)
def yD6:Seg:=⟨yiQ,yiB,yjf,yvx⟩
def yxY:Nat→Option Seg:=fun q=>bif Nat.beq q 29 then some yD6 else yxX q
theorem yUO:FrOk prog ⟨yeP,76,yxY⟩ ya8:=(yUN).loop (sg:=yD6) yc6 yDh (by decide) yTZ ydG yDx (by decide) (fun _=>rfl) (fun x r _ h=>h) yW4
def yc7:Shape:=⟨[(1,false,[.ptr 0 0]),(40,false,[.br tI]),(41,false,[.int .i64]),(42,false,[.int .i64])],[(0,[.br tL,.br tW,.bool,.br tI])],[]⟩
def yiR:Shape:=⟨[(1,false,[.ptr 0 0]),(40,false,[.br tI]),(41,false,[.int .i64]),(42,false,[.ci .i64 0])],[(0,[.br tL,.br tW,.bool,.br tI])],[]⟩
def yiC:Shape:=⟨[(1,false,[.ptr 0 0])],[(0,[.br tL,.br tW,.bool,.br tI])],[]⟩
def yjg:Shape:=⟨[(2,false,[.bool])],[],[]⟩
abbrev yum (v0:List Int) (v1 v2:Int) (v3:dM):(yc7).X:=((((),()),(v0,()),(v1,()),(v2,()),()),((v3.1,v3.2.1,v3.2.2.1,v3.2.2.2,()),()),())
abbrev yRK (v0:List Int) (v1:Int) (v2:dM):(yiR).X:=((((),()),(v0,()),(v1,()),((),()),()),((v2.1,v2.2.1,v2.2.2.1,v2.2.2.2,()),()),())
abbrev yRC (v0:dM):(yiC).X:=((((),()),()),((v0.1,v0.2.1,v0.2.2.1,v0.2.2.2,()),()),())
abbrev yRY (v0:Bool):(yjg).X:=(((v0,()),()),(),())
def yuI (v0:List Int) (v1 v2:Int) (v3:List (List Int)) (v4:List dW) (v5:Bool) (v6:List Int):Option ((yc7).X ⊕ ((yiC).X ⊕ (yjg).X)) :=
 bif(ltb v2 v1)then
 bif(inb v2 v0.length)then
 let r10:=ybk (v3,v4,v5,v6) (nth v0 v2 0)
 bif(!(!r10))then
 bif(ltb 0 v2)then
 bif(inb (IntKind.i64.wrap (v2-1)) v6.length)then
 bif(leb (nth v0 v2 0) (nth v6 (IntKind.i64.wrap (v2-1)) 0))then
 some (.inr (.inr (((false,()),()),(),())))
 else
 some (.inl ((((),()),(v0,()),(v1,()),((IntKind.i64.wrap (v2+1)),()),()),((v3,v4,v5,v6,()),()),()))
 else none
 else
 some (.inl ((((),()),(v0,()),(v1,()),((IntKind.i64.wrap (v2+1)),()),()),((v3,v4,v5,v6,()),()),()))
 else
 some (.inr (.inr (((false,()),()),(),())))
 else none
 else
 some (.inr (.inl ((((),()),()),((v3,v4,v5,v6,()),()),())))
def ydH (x:(yc7).X):=yuI x.1.2.1.1 x.1.2.2.1.1 x.1.2.2.2.1.1 x.2.1.1.1 x.2.1.1.2.1 x.2.1.1.2.2.1 x.2.1.1.2.2.2.1
def yDi (x:(yiR).X):(yc7).X:=((((),()),(x.1.2.1.1,()),(x.1.2.2.1.1,()),(0,()),()),((x.2.1.1.1,x.2.1.1.2.1,x.2.1.1.2.2.1,x.2.1.1.2.2.2.1,()),()),())
def yFp:Code:=(zef ya8 64 244).getD .skip
theorem yT0:zef ya8 64 61=some (.block 4 (.loop yFp)):=by kernel_rfl
theorem yW5 (x:(yc7).X):zg0 ⟨yeP,76,yxY⟩ 4 yFp 244 yc7 yiC yjg x=ydH x:=by kernel_rfl
def yDy (x:(yiR).X):Nat:=18446744073709551616
def yvy (x:(yiR).X):Option ((yiC).X ⊕ (yjg).X):=zz ydH (yDy x) (yDi x)
def yD7:Seg:=⟨yiR,yiC,yjg,yvy⟩
def yGS:Nat→Option Seg:=fun q=>bif Nat.beq q 61 then some yD7 else yxY q
theorem yUP:FrOk prog ⟨yeP,76,yGS⟩ ya8:=(yUO).loop (sg:=yD7) yc7 yDi (by decide) yT0 ydH yDy (by decide) (fun _=>rfl) (fun x r _ h=>h) yW5
abbrev ykS:List Par:= [.rd tM]
abbrev yvO:List OT:= [⟨false,tB,.fz⟩]
def yrM (a0:dM):Option (ResD yvO×MutD ykS) :=
 zjW (yvw ((((),()),(a0.1,()),((a0.1.length:Int),()),((),()),()),((a0.1,a0.2.1,a0.2.2.1,a0.2.2.2,()),()),())) (fun y2 =>
 zjW (yvx ((((),()),(y2.2.1.1.2.1,()),((y2.2.1.1.2.1.length:Int),()),((),()),()),((y2.2.1.1.1,y2.2.1.1.2.1,y2.2.1.1.2.2.1,y2.2.1.1.2.2.2.1,()),()),())) (fun y7 =>
 zjW (yvy ((((),()),(y7.2.1.1.2.2.2.1,()),((y7.2.1.1.2.2.2.1.length:Int),()),((),()),()),((y7.2.1.1.1,y7.2.1.1.2.1,y7.2.1.1.2.2.1,y7.2.1.1.2.2.2.1,()),()),())) (fun y10 =>
 let r12:=ye (y10.2.1.1.1.length:Int) 1 20
 bif r12 then
 some (((leb (y10.2.1.1.2.1.length:Int) 60),()),())
 else
 some ((false,()),())) (fun y10 =>
 some ((y10.1.1.1,()),()))) (fun y7 =>
 some ((y7.1.1.1,()),()))) (fun y2 =>
 some ((y2.1.1.1,()),()))
theorem y2a (x:InD ykS):zju ⟨yeP,76,yGS⟩ f127.results.toList ya8 ykS yvO x=yrM x.1:=by kernel_rfl
theorem yYZ:ConOk prog 127 ⟨ykS,yvO,fun x=>yrM x.1⟩:=zjZ (yUP) func127 (by kernel_rfl) (by kernel_rfl) ntmps127.symm (by decide) (fun x r h=>(y2a x).trans h)
def yZ (a0:dM):Bool:=memOk a0
theorem y1e (a0:dM) (hk:zi0 ykS (a0,())):yrM a0=(fun n=>some ((n,()),())) (yZ a0):=by
 have hb1:a0.1.length*24≤2^47:=hk.1.1.1;have hb2:a0.2.1.length*32≤2^47:=hk.1.2.1.1;have hb3:a0.2.2.2.length*8≤2^47:=hk.1.2.2.2.1
 have h1:yvw (yRI a0.1 a0.1.length a0)=some (bif a0.1.all yaa then .inl (yRA a0)else .inr (yRW false)) :=
  zjD (step:=ydF) a0.1 [] (fun i=>yuk a0.1 a0.1.length i a0) yaa _ _ (fun i hi=>by
   simp only[ydF,yuk,yuG,zj2 (show(i:Int)<a0.1.length by omega),cond_true,wr (show -9223372036854775808≤(i:Int)+1 by omega) (by omega),Int.natCast_add,Int.natCast_one,Int.toNat_natCast,zkj hi,zkk,yGr]
   cases yaa (a0.1.getD i [])<;>rfl) (by simp only[ydF,yuk,yuG,zkv (Int.le_refl _),cond_false]) _ (by show _<18446744073709551616; omega)
 have h2:yvx (yRJ a0.2.1 a0.2.1.length a0)=some (bif a0.2.1.all (yuT a0.1.length)then .inl (yRB a0)else .inr (yRX false)) :=
  zjD (step:=ydG) a0.2.1 (0,[]) (fun i=>yul a0.2.1 a0.2.1.length i a0) (yuT a0.1.length) _ _ (fun i hi=>by
   simp only[ydG,yul,yuH,zj2 (show(i:Int)<a0.2.1.length by omega),cond_true,wr (show -9223372036854775808≤(i:Int)+1 by omega) (by omega),Int.natCast_add,Int.natCast_one,Int.toNat_natCast,zkj hi,zkk,yGr,ybk,y9,yqk (show a0.1.length≤1152921504606846976 by omega),yuT]
   cases inb (a0.2.1.getD i (0,[])).1 a0.1.length<;>cases yaa (a0.2.1.getD i (0,[])).2<;>rfl) (by simp only[ydG,yul,yuH,zkv (Int.le_refl _),cond_false]) _ (by show _<18446744073709551616; omega)
 have h3:yvy (yRK a0.2.2.2 a0.2.2.2.length a0)=some (bif(List.range a0.2.2.2.length).any (yFk a0.1.length a0.2.2.2)then .inr (yRY false)else .inl (yRC a0)) :=
  ziM (step:=ydH) (fun i=>yum a0.2.2.2 a0.2.2.2.length i a0) a0.2.2.2.length (yFk a0.1.length a0.2.2.2) _ _ (fun i hi=>by
   simp only[ydH,yum,yuI,zj2 (show(i:Int)<a0.2.2.2.length by omega),cond_true,wr (show -9223372036854775808≤(i:Int)+1 by omega) (by omega),Int.natCast_add,Int.natCast_one,Int.toNat_natCast,zkj hi,zkk,ybk,y9,yqk (show a0.1.length≤1152921504606846976 by omega),yFk];rcases Nat.eq_zero_or_pos i with rfl | h0
   ·cases inb (a0.2.2.2.getD 0 0) a0.1.length<;>rfl
   ·rw[show IntKind.i64.wrap ((i:Int)-1)=((i-1:Nat):Int)by rw[wr (by omega) (by omega)]; omega,zkj (show i-1<a0.2.2.2.length by omega),zkk,zj2 (show(0:Int)<i by omega),decide_eq_true h0]
    cases inb (a0.2.2.2.getD i 0) a0.1.length<;>cases leb (a0.2.2.2.getD i 0) (a0.2.2.2.getD (i-1) 0)<;>rfl) (by simp only[ydH,yum,yuI,zkv (Int.le_refl _),cond_false]) _ (by show _<18446744073709551616; omega)
 unfold yrM yZ memOk;rw[h1]
 cases a0.1.all yaa
 ·rfl
 simp only[cond_true,zkf,h2]
 cases a0.2.1.all (yuT a0.1.length)
 ·rfl
 simp only[cond_true,zkf,h3,yZT,y9,ycf]
 cases yrs a0.1.length a0.2.2.2
 ·rfl
 simp only[Bool.not_true,cond_false,zkf]
 cases leb 1 (a0.1.length:Int)<;>cases leb (a0.1.length:Int) 20<;>rfl
def yex:Con:=⟨ykS,yvO,fun x=>(fun n=>some ((n,()),())) (yZ x.1)⟩
theorem yih:ConOk prog 127 yex:=(yYZ).mono (fun x r hk h=>(y1e x.1 hk).trans h)
end
section
def yGD:Code:=(f128.body).getD .skip
def yHf:Env:=zj0 TT [] []
theorem yOf:FrOk prog ⟨yHf,6,fun _=>none⟩ yGD:=zj4 yc yd trivial
def yP6:Nat→Option Seg:=fun _=>none
abbrev ykX:List Par:= [.rd tG]
abbrev yrf:List OT:= [⟨false,tI,.fz⟩]
def yuA (a0:dG):Option (ResD yrf×MutD ykX) :=
 some (((IntKind.i64.wrap (6+a0.2)),()),())
theorem yXT (x:InD ykX):zju ⟨yHf,6,yP6⟩ f128.results.toList yGD ykX yrf x=yuA x.1:=by kernel_rfl
theorem ySz:ConOk prog 128 ⟨ykX,yrf,fun x=>yuA x.1⟩:=zjZ (yOf) func128 (by kernel_rfl) (by kernel_rfl) ntmps128.symm (by decide) (fun x r h=>(yXT x).trans h)
def yrx (a0:dG):Int :=
 (IntKind.i64.wrap (6+a0.2))
def yC3:Con:=⟨ykX,yrf,fun x=>(fun n=>some ((n,()),())) (yrx x.1)⟩
theorem yVM (a0:dG):yuA a0=(fun n=>some ((n,()),())) (yrx a0):=zkn (p:=fun(n:Int)=>((n,()),())) rfl
theorem yWK:ConOk prog 128 yC3:=(ySz).mono (fun x r _ h=>(yVM x.1).trans h)
end
section
def ypG:Code:=(f55.body).getD .skip
def yvl:Env:=zj0 TT [(81,yz),(123,ylv),(125,ywe),(126,yC2),(127,yex),(128,yC3)] []
theorem yUI:FrOk prog ⟨yvl,103,fun _=>none⟩ ypG:=zj4 yc yd ⟨yI,ytS,yH4,yWJ,yih,yWK,trivial⟩
def yGP:Nat→Option Seg:=fun _=>none
def yc4:Shape:=⟨[(1,false,[.ptr 0 0]),(41,false,[.br tM]),(42,false,[.int .i64]),(43,false,[.int .i64])],[(0,[.int .i64,.int .i64,.int .i64,.br tM,.int .i64,.int .i64,.int .i64,.int .i64,.int .i64,.br tW,.int .i64,.bool,.bool])],[]⟩
def yiO:Shape:=⟨[(1,false,[.ptr 0 0]),(41,false,[.br tM]),(42,false,[.int .i64]),(43,false,[.ci .i64 0])],[(0,[.int .i64,.int .i64,.int .i64,.br tM,.int .i64,.int .i64,.int .i64,.int .i64,.int .i64,.br tW,.int .i64,.bool,.bool])],[]⟩
def yiz:Shape:=⟨[(1,false,[.ptr 0 0])],[(0,[.int .i64,.int .i64,.int .i64,.br tM,.int .i64,.int .i64,.int .i64,.int .i64,.int .i64,.br tW,.int .i64,.bool,.bool])],[]⟩
def yja:Shape:=⟨[(2,false,[.bool])],[],[]⟩
abbrev yuj (v0:List dM) (v1 v2:Int) (v3:dA):(yc4).X:=((((),()),(v0,()),(v1,()),(v2,()),()),((v3.1,v3.2.1.1,v3.2.1.2,v3.2.2.1,v3.2.2.2.1,v3.2.2.2.2.1,v3.2.2.2.2.2.1,v3.2.2.2.2.2.2.1,v3.2.2.2.2.2.2.2.1,v3.2.2.2.2.2.2.2.2.1,v3.2.2.2.2.2.2.2.2.2.1,v3.2.2.2.2.2.2.2.2.2.2.1,v3.2.2.2.2.2.2.2.2.2.2.2,()),()),())
abbrev yRH (v0:List dM) (v1:Int) (v2:dA):(yiO).X:=((((),()),(v0,()),(v1,()),((),()),()),((v2.1,v2.2.1.1,v2.2.1.2,v2.2.2.1,v2.2.2.2.1,v2.2.2.2.2.1,v2.2.2.2.2.2.1,v2.2.2.2.2.2.2.1,v2.2.2.2.2.2.2.2.1,v2.2.2.2.2.2.2.2.2.1,v2.2.2.2.2.2.2.2.2.2.1,v2.2.2.2.2.2.2.2.2.2.2.1,v2.2.2.2.2.2.2.2.2.2.2.2,()),()),())
abbrev yRz (v0:dA):(yiz).X:=((((),()),()),((v0.1,v0.2.1.1,v0.2.1.2,v0.2.2.1,v0.2.2.2.1,v0.2.2.2.2.1,v0.2.2.2.2.2.1,v0.2.2.2.2.2.2.1,v0.2.2.2.2.2.2.2.1,v0.2.2.2.2.2.2.2.2.1,v0.2.2.2.2.2.2.2.2.2.1,v0.2.2.2.2.2.2.2.2.2.2.1,v0.2.2.2.2.2.2.2.2.2.2.2,()),()),())
abbrev yRV (v0:Bool):(yja).X:=(((v0,()),()),(),())
def yuF (v0:List dM) (v1 v2 v3 v4 v5:Int) (v6:List dM) (v7 v8 v9 v10 v11:Int) (v12:List dW) (v13:Int) (v14 v15:Bool):Option ((yc4).X ⊕ ((yiz).X ⊕ (yja).X)) :=
 bif(ltb v2 v1)then
 bif(inb v2 v0.length)then
 let r7:=yZ ((nth v0 v2 ([],[],false,[])).1,((nth v0 v2 ([],[],false,[])).2).1,(((nth v0 v2 ([],[],false,[])).2).2))
 bif(!(!r7))then
 let r8:=yrx (v4,v5)
 bif(!((((nth v0 v2 ([],[],false,[])).1).length:Int) !=r8))then
 bif(((nth v0 v2 ([],[],false,[])).2).2).1 then
 bif(v7 !=v2)then
 bif(!v15)then
 some (.inr (.inr (((false,()),()),(),())))
 else
 some (.inl ((((),()),(v0,()),(v1,()),((IntKind.i64.wrap (v2+1)),()),()),((v3,v4,v5,v6,v7,v8,v9,v10,v11,v12,v13,v14,v15,()),()),()))
 else
 some (.inl ((((),()),(v0,()),(v1,()),((IntKind.i64.wrap (v2+1)),()),()),((v3,v4,v5,v6,v7,v8,v9,v10,v11,v12,v13,v14,v15,()),()),()))
 else
 some (.inl ((((),()),(v0,()),(v1,()),((IntKind.i64.wrap (v2+1)),()),()),((v3,v4,v5,v6,v7,v8,v9,v10,v11,v12,v13,v14,v15,()),()),()))
 else
 some (.inr (.inr (((false,()),()),(),())))
 else
 some (.inr (.inr (((false,()),()),(),())))
 else none
 else
 some (.inr (.inl ((((),()),()),((v3,v4,v5,v6,v7,v8,v9,v10,v11,v12,v13,v14,v15,()),()),())))
def ydE (x:(yc4).X):=yuF x.1.2.1.1 x.1.2.2.1.1 x.1.2.2.2.1.1 x.2.1.1.1 x.2.1.1.2.1 x.2.1.1.2.2.1 x.2.1.1.2.2.2.1 x.2.1.1.2.2.2.2.1 x.2.1.1.2.2.2.2.2.1 x.2.1.1.2.2.2.2.2.2.1 x.2.1.1.2.2.2.2.2.2.2.1 x.2.1.1.2.2.2.2.2.2.2.2.1 x.2.1.1.2.2.2.2.2.2.2.2.2.1 x.2.1.1.2.2.2.2.2.2.2.2.2.2.1 x.2.1.1.2.2.2.2.2.2.2.2.2.2.2.1 x.2.1.1.2.2.2.2.2.2.2.2.2.2.2.2.1
def yDf (x:(yiO).X):(yc4).X:=((((),()),(x.1.2.1.1,()),(x.1.2.2.1.1,()),(0,()),()),((x.2.1.1.1,x.2.1.1.2.1,x.2.1.1.2.2.1,x.2.1.1.2.2.2.1,x.2.1.1.2.2.2.2.1,x.2.1.1.2.2.2.2.2.1,x.2.1.1.2.2.2.2.2.2.1,x.2.1.1.2.2.2.2.2.2.2.1,x.2.1.1.2.2.2.2.2.2.2.2.1,x.2.1.1.2.2.2.2.2.2.2.2.2.1,x.2.1.1.2.2.2.2.2.2.2.2.2.2.1,x.2.1.1.2.2.2.2.2.2.2.2.2.2.2.1,x.2.1.1.2.2.2.2.2.2.2.2.2.2.2.2.1,()),()),())
def yFm:Code:=(zef ypG 64 116).getD .skip
theorem yTX:zef ypG 64 29=some (.block 0 (.loop yFm)):=by kernel_rfl
theorem yW2 (x:(yc4).X):zg0 ⟨yvl,103,yGP⟩ 0 yFm 116 yc4 yiz yja x=ydE x:=by kernel_rfl
def yDv (x:(yiO).X):Nat:=18446744073709551616
def yvv (x:(yiO).X):Option ((yiz).X ⊕ (yja).X):=zz ydE (yDv x) (yDf x)
def yD4:Seg:=⟨yiO,yiz,yja,yvv⟩
def yGQ:Nat→Option Seg:=fun q=>bif Nat.beq q 29 then some yD4 else yGP q
theorem yUJ:FrOk prog ⟨yvl,103,yGQ⟩ ypG:=(yUI).loop (sg:=yD4) yc4 yDf (by decide) yTX ydE yDv (by decide) (fun _=>rfl) (fun x r _ h=>h) yW2
abbrev ykR:List Par:= [.rd tA]
abbrev yvL:List OT:= [⟨false,tB,.fz⟩]
def yrL (a0:dA):Option (ResD yvL×MutD ykR) :=
 let r1:=ydq a0.2.1
 bif(!(!r1))then
 bif(!((a0.2.2.1.length:Int) !=a0.2.1.1))then
 let r2:=ye a0.1 1 60000
 bif(!(!r2))then
 let r3:=yfU a0.2.1 a0.2.2.2.1 a0.2.2.2.2.1
 bif(!(!r3))then
 bnd (yrF a0) fun r4 =>
 bif(!r4.1.1)then
 some ((false,()),())
 else
 zjW (yvv ((((),()),(a0.2.2.1,()),((a0.2.2.1.length:Int),()),((),()),()),((a0.1,a0.2.1.1,a0.2.1.2,a0.2.2.1,a0.2.2.2.1,a0.2.2.2.2.1,a0.2.2.2.2.2.1,a0.2.2.2.2.2.2.1,a0.2.2.2.2.2.2.2.1,a0.2.2.2.2.2.2.2.2.1,a0.2.2.2.2.2.2.2.2.2.1,a0.2.2.2.2.2.2.2.2.2.2.1,a0.2.2.2.2.2.2.2.2.2.2.2,()),()),())) (fun y8 =>
 let r10:=ye y8.2.1.1.2.2.2.2.2.2.1 0 60000
 bif r10 then
 let r11:=ye y8.2.1.1.2.2.2.2.2.2.2.1 0 60000
 bif r11 then
 let r12:=ye y8.2.1.1.2.2.2.2.2.2.2.2.1 0 60000
 bif r12 then
 let r13:=ye (IntKind.i64.wrap (y8.2.1.1.2.2.2.2.2.2.1-y8.2.1.1.2.2.2.2.2.2.2.1)) 0 4
 bif r13 then
 let r14:=ye y8.2.1.1.2.2.2.2.2.2.2.2.2.2.1 (-1) 1000
 some ((r14,()),())
 else
 some ((false,()),())
 else
 some ((false,()),())
 else
 some ((false,()),())
 else
 some ((false,()),())) (fun y8 =>
 some ((y8.1.1.1,()),()))
 else
 some ((false,()),())
 else
 some ((false,()),())
 else
 some ((false,()),())
 else
 some ((false,()),())
theorem y14 (x:InD ykR):zju ⟨yvl,103,yGQ⟩ f55.results.toList ypG ykR yvL x=yrL x.1:=by kernel_rfl
theorem yYW:ConOk prog 55 ⟨ykR,yvL,fun x=>yrL x.1⟩:=zjZ (yUJ) func55 (by kernel_rfl) (by kernel_rfl) ntmps55.symm (by decide) (fun x r h=>(y14 x).trans h)
theorem y53 {S T G F z TS le:Bool} (h1:T=true→TS=true→S=true) (h2:S=true→T=true→z=(TS&&le)) :
  (bif S then bif T then bif G then bif z then some ((F,()),())else some ((false,()),())else some ((false,()),())else some ((false,()),())else some ((false,()),()))=some (((T&&(TS&&(le&&(G&&F)))),()),()):=by
 cases S
 ·cases T
  ·rfl
  ·cases TS
   ·rfl
   ·exact absurd (h1 rfl rfl) Bool.false_ne_true
 ·cases T
  ·cases G<;>rfl
  ·rw[h2 rfl rfl]
   cases TS<;>cases le<;>cases G<;>rfl
def yam (a0:dA):Bool:=yR a0
theorem y1b (a0:dA) (hk:zi0 ykR (a0,())):yrL a0=(fun n=>some ((n,()),())) (yam a0):=by
 have hb:a0.2.2.1.length*80≤2^47:=hk.1.2.2.1.1;unfold yrL yam yR;simp only[yL9,y9,ycf]
 cases hg:n_spec_GeoOk a0.2.1
 ·rfl
 have hg2:=yg.1 hg
 have h1:yvv (yRH a0.2.2.1 a0.2.2.1.length a0)=some (bif(List.range a0.2.2.1.length).any (yhB a0)then .inr (yRV false)else .inl (yRz a0)) :=
  ziM (step:=ydE) (fun i=>yuj a0.2.2.1 a0.2.2.1.length i a0) a0.2.2.1.length (yhB a0) _ _ (fun i hi=>by
   simp only[ydE,yuj,yuF,zj2 (show(i:Int)<a0.2.2.1.length by omega),cond_true,wr (show -9223372036854775808≤(i:Int)+1 by omega) (by omega),Int.natCast_add,Int.natCast_one,Int.toNat_natCast,zkj hi,zkp,yZ,yhB,yrx,wr (show -9223372036854775808≤6+a0.2.1.2 by omega) (by omega),noMem];rw[show(a0.2.2.2.1 !=(i:Int))=((i:Int) !=a0.2.2.2.1)from bne_comm]
   cases memOk (nth a0.2.2.1 i ([],[],false,[]))<;>cases(((nth a0.2.2.1 i ([],[],false,[])).1.length:Int) !=6+a0.2.1.2)<;>cases(nth a0.2.2.1 i ([],[],false,[])).2.2.1<;>cases((i:Int) !=a0.2.2.2.1)<;>cases a0.2.2.2.2.2.2.2.2.2.2.2<;>rfl) (by simp only[ydE,yuj,yuF,zkv (Int.le_refl _),cond_false]) _ (by show _<18446744073709551616; omega)
 rw[yWX a0 hg,h1];simp only[zka,ylG,yfU,y9,ycf,wr (show -9223372036854775808≤a0.2.1.1-1 by omega) (by omega),ynD]
 have hw:(leb 0 a0.2.2.2.2.2.1&&leb a0.2.2.2.2.2.1 60000)=true→(leb 0 a0.2.2.2.2.2.2.1&&leb a0.2.2.2.2.2.2.1 60000)=true→IntKind.i64.wrap (a0.2.2.2.2.2.1-a0.2.2.2.2.2.2.1)=a0.2.2.2.2.2.1-a0.2.2.2.2.2.2.1:=fun h h'=>by
  rw[Bool.and_eq_true,zjB,zjB]at h h';exact wr (by omega) (by omega)
 simp only[bne,Bool.not_not,cond_true,Bool.true_and]
 have h2:(leb 0 a0.2.2.2.2.2.1&&leb a0.2.2.2.2.2.1 60000)=true→(leb 0 a0.2.2.2.2.2.2.1&&leb a0.2.2.2.2.2.2.1 60000)=true→(leb 0 (IntKind.i64.wrap (a0.2.2.2.2.2.1-a0.2.2.2.2.2.2.1))&&leb (IntKind.i64.wrap (a0.2.2.2.2.2.1-a0.2.2.2.2.2.2.1)) 4)=((leb a0.2.2.2.2.2.2.1 a0.2.2.2.2.2.1&&leb a0.2.2.2.2.2.1 60000)&&leb a0.2.2.2.2.2.1 (a0.2.2.2.2.2.2.1+4)):=fun h h'=>by
  rw[hw h h',Bool.eq_iff_iff];simp only[Bool.and_eq_true,zjB]at h h' ⊢;omega
 have h3:(leb 0 a0.2.2.2.2.2.2.1&&leb a0.2.2.2.2.2.2.1 60000)=true→(leb a0.2.2.2.2.2.2.1 a0.2.2.2.2.2.1&&leb a0.2.2.2.2.2.1 60000)=true→(leb 0 a0.2.2.2.2.2.1&&leb a0.2.2.2.2.2.1 60000)=true:=fun h h'=>by
  simp only[Bool.and_eq_true,zjB]at h h' ⊢;omega
 cases((a0.2.2.1.length:Int)==a0.2.1.1)
 ·cases(leb 1 a0.1&&leb a0.1 60000)<;>cases(List.range a0.2.2.1.length).any (yhB a0)<;>rfl
 cases(leb 1 a0.1&&leb a0.1 60000)
 ·rfl
 cases(leb (-1) a0.2.2.2.1&&leb a0.2.2.2.1 (a0.2.1.1-1))
 ·cases(List.range a0.2.2.1.length).any (yhB a0)<;>cases yat a0.2.1 a0.2.2.2.2.2.2.2.2.1<;>rfl
 cases(leb 0 a0.2.2.2.2.1&&leb a0.2.2.2.2.1 a0.2.1.2)
 ·cases(List.range a0.2.2.1.length).any (yhB a0)<;>cases yat a0.2.1 a0.2.2.2.2.2.2.2.2.1<;>rfl
 cases yat a0.2.1 a0.2.2.2.2.2.2.2.2.1
 ·cases(List.range a0.2.2.1.length).any (yhB a0)<;>cases(a0.2.2.2.1== -1)<;>cases(a0.2.2.2.2.1==0)<;>rfl
 cases(List.range a0.2.2.1.length).any (yhB a0)
 ·cases(a0.2.2.2.1== -1)<;>cases(a0.2.2.2.2.1==0)
  case true.false=>rfl
  all_goals exact y53 h3 h2
 ·cases(a0.2.2.2.1== -1)<;>cases(a0.2.2.2.2.1==0)<;>rfl
def ylu:Con:=⟨ykR,yvL,fun x=>(fun n=>some ((n,()),())) (yam x.1)⟩
theorem ytR:ConOk prog 55 ylu:=(yYW).mono (fun x r hk h=>(y1b x.1 hk).trans h)
end
section
def yeN:Code:=(f201.body).getD .skip
def yiq:Env:=zj0 TT [] []
theorem yHQ:FrOk prog ⟨yiq,19,fun _=>none⟩ yeN:=zj4 yc yd trivial
def yvf:Nat→Option Seg:=fun _=>none
def yak:Shape:=⟨[(0,false,[.br tI]),(1,false,[.int .i64]),(7,false,[.int .i64]),(8,false,[.int .i64])],[],[]⟩
def ycG:Shape:=⟨[(0,false,[.br tI]),(1,false,[.int .i64]),(7,false,[.int .i64]),(8,false,[.ci .i64 0])],[],[]⟩
def ycE:Shape:=⟨[],[],[]⟩
def ycI:Shape:=⟨[(4,false,[.int .i64])],[],[]⟩
abbrev yjQ (v0:List Int) (v1 v2 v3:Int):(yak).X:=(((v0,()),(v1,()),(v2,()),(v3,()),()),(),())
abbrev yGv (v0:List Int) (v1 v2:Int):(ycG).X:=(((v0,()),(v1,()),(v2,()),((),()),()),(),())
abbrev yGt  :(ycE).X:=((),(),())
abbrev ys0 (v0:Int):(ycI).X:=(((v0,()),()),(),())
def yjT (v0:List Int) (v1 v2 v3:Int):Option ((yak).X ⊕ ((ycE).X ⊕ (ycI).X)) :=
 bif(ltb v3 v2)then
 bif(inb v3 v0.length)then
 bif(v1==(nth v0 v3 0))then
 some (.inr (.inr (((v3,()),()),(),())))
 else
 some (.inl (((v0,()),(v1,()),(v2,()),((IntKind.i64.wrap (v3+1)),()),()),(),()))
 else none
 else
 some (.inr (.inl ((),(),())))
def yau (x:(yak).X):=yjT x.1.1.1 x.1.2.1.1 x.1.2.2.1.1 x.1.2.2.2.1.1
def ysU (x:(ycG).X):(yak).X:=(((x.1.1.1,()),(x.1.2.1.1,()),(x.1.2.2.1.1,()),(0,()),()),(),())
def yuY:Code:=(zef yeN 64 52).getD .skip
theorem yHr:zef yeN 64 13=some (.block 0 (.loop yuY)):=by kernel_rfl
theorem yIb (x:(yak).X):zg0 ⟨yiq,19,yvf⟩ 0 yuY 52 yak ycE ycI x=yau x:=by kernel_rfl
def ysW (x:(ycG).X):Nat:=18446744073709551616
def ykP (x:(ycG).X):Option ((ycE).X ⊕ (ycI).X):=zz yau (ysW x) (ysU x)
def ys3:Seg:=⟨ycG,ycE,ycI,ykP⟩
def yvg:Nat→Option Seg:=fun q=>bif Nat.beq q 13 then some ys3 else yvf q
theorem yHR:FrOk prog ⟨yiq,19,yvg⟩ yeN:=(yHQ).loop (sg:=ys3) yak ysU (by decide) yHr yau ysW (by decide) (fun _=>rfl) (fun x r _ h=>h) yIb
abbrev ycB:List Par:= [.rd tL,.rd tI]
abbrev yi6:List OT:= [⟨false,tI,.fz⟩]
def ygA (a0:List Int) (a1:Int):Option (ResD yi6×MutD ycB) :=
 zjW (ykP (((a0,()),(a1,()),((a0.length:Int),()),((),()),()),(),())) (fun y0 =>
 some (((-1),()),())) (fun y0 =>
 some ((y0.1.1.1,()),()))
theorem yLw (x:InD ycB):zju ⟨yiq,19,yvg⟩ f201.results.toList yeN ycB yi6 x=ygA x.1 x.2.1:=by kernel_rfl
theorem yIF:ConOk prog 201 ⟨ycB,yi6,fun x=>ygA x.1 x.2.1⟩:=zjZ (yHR) func201 (by kernel_rfl) (by kernel_rfl) ntmps201.symm (by decide) (fun x r h=>(yLw x).trans h)
def yYl (l:List Int) (x:Int):Int:=bif l.any (· ==x)then((l.takeWhile (· !=x)).length:Int)else -1
def yfc (a0:List Int) (a1:Int):Int:=yYl a0 a1
theorem y36 {A B α:Type} {step:A→Option (A ⊕ B)} (l:List α) (d:α) (f:Nat→A) (p:α→Bool) (b:Nat→B) (c:B)
  (h: ∀i,i<l.length→step (f i)=some (bif p (l.getD i d)then .inr (b i)else .inl (f (i+1)))) (e:step (f l.length)=some (.inr c)) (fuel:Nat) (hf:l.length<fuel) :
  zz step fuel (f 0)=some (bif l.any p then b (l.takeWhile (fun x=> !p x)).length else c):=by
 have: ∀(t q:List α) (fuel:Nat),q++t=l→t.length<fuel→zz step fuel (f q.length)=some (bif t.any p then b (q.length+(t.takeWhile (fun x=> !p x)).length)else c):=by
  intro t
  induction t with
  | nil =>
   intro q fuel hq hf;obtain⟨fuel,rfl⟩: ∃m,fuel=m+1:=⟨fuel-1,by omega⟩;rw[List.append_nil]at hq;subst hq;simp only[zz,e,List.any_nil,cond_false]
  | cons x t ih =>
   intro q fuel hq hf;obtain⟨fuel,rfl⟩: ∃m,fuel=m+1:=⟨fuel-1,by omega⟩
   have hx:l.getD q.length d=x:=by
    subst hq;rw[zkb (by simp)]; simp
   have hs:=h q.length (by rw[← hq]; simp);rw[hx]at hs
   cases hp:p x
   ·rw[hp]at hs
    have:=ih (q++ [x]) fuel (by rw[← hq]; simp) (by simp at hf; omega);simp only[List.length_append,List.length_cons,List.length_nil]at this;simp only[zz,hs,cond_false];simp only[List.any_cons,hp,Bool.false_or,List.takeWhile_cons,Bool.not_false,if_true,List.length_cons];rw[show q.length+((t.takeWhile (fun x=> !p x)).length+1)=q.length+(0+1)+(t.takeWhile (fun x=> !p x)).length by omega];exact this
   ·rw[hp]at hs
    simp only[zz,hs,cond_true,List.any_cons,hp,Bool.true_or,List.takeWhile_cons,Bool.not_true,Bool.false_eq_true,if_false,List.length_nil,Nat.add_zero]
 have:=this l [] fuel rfl hf;simpa using this
theorem yKA (a0:List Int) (a1:Int) (hk:zi0 ycB (a0,a1,())):ygA a0 a1=(fun n=>some ((n,()),())) (yfc a0 a1):=by
 have hb:a0.length*8≤2^47:=hk.1.1
 have h1:ykP (yGv a0 a1 a0.length)=some (bif a0.any (· ==a1)then .inr (ys0 ((a0.takeWhile (fun x=> !(x==a1))).length:Int))else .inl yGt) :=
  y36 (step:=yau) a0 0 (fun i=>yjQ a0 a1 a0.length i) (· ==a1) (fun i=> .inr (ys0 (i:Int))) _ (fun i hi=>by
   simp only[yau,yjQ,yjT,zj2 (show(i:Int)<a0.length by omega),cond_true,wr (show -9223372036854775808≤(i:Int)+1 by omega) (by omega),Int.natCast_add,Int.natCast_one,Int.toNat_natCast,zkj hi,zkk];rw[show(a1==a0.getD i 0)=(a0.getD i 0==a1)by rw[Bool.eq_iff_iff,beq_iff_eq,beq_iff_eq]; exact eq_comm]
   cases(a0.getD i 0==a1)<;>rfl) (by simp only[yau,yjQ,yjT,zkv (Int.le_refl _),cond_false]) _ (by show _<18446744073709551616; omega)
 unfold ygA yfc yYl;rw[h1]
 cases a0.any (· ==a1)<;>rfl
def ywg:Con:=⟨ycB,yi6,fun x=>(fun n=>some ((n,()),())) (yfc x.1 x.2.1)⟩
theorem yKH:ConOk prog 201 ywg:=(yIF).mono (fun x r hk h=>(yKA x.1 x.2.1 hk).trans h)
end
section
def yuU:Code:=(f157.body).getD .skip
def yuV:Env:=zj0 TT [(201,ywg)] []
theorem yDu:FrOk prog ⟨yuV,9,fun _=>none⟩ yuU:=zj4 yc yd ⟨yKH,trivial⟩
def yEm:Nat→Option Seg:=fun _=>none
abbrev ya0:List Par:= [.rd tL,.rd tI]
abbrev yfB:List OT:= [⟨false,tB,.fz⟩]
def yd3 (a0:List Int) (a1:Int):Option (ResD yfB×MutD ya0) :=
 let r1:=yfc a0 a1
 some (((leb 0 r1),()),())
theorem yHO (x:InD ya0):zju ⟨yuV,9,yEm⟩ f157.results.toList yuU ya0 yfB x=yd3 x.1 x.2.1:=by kernel_rfl
theorem yEp:ConOk prog 157 ⟨ya0,yfB,fun x=>yd3 x.1 x.2.1⟩:=zjZ (yDu) func157 (by kernel_rfl) (by kernel_rfl) ntmps157.symm (by decide) (fun x r h=>(yHO x).trans h)
def ycL (a0:List Int) (a1:Int):Bool:=a0.any (· ==a1)
theorem yGx (a0:List Int) (a1:Int) (hk:zi0 ya0 (a0,a1,())):yd3 a0 a1=(fun n=>some ((n,()),())) (ycL a0 a1):=by
 unfold yd3 ycL yfc yYl
 cases a0.any (· ==a1)
 ·rfl
 ·simp only[cond_true]
  rw[zku (show(0:Int)≤((a0.takeWhile (· !=a1)).length:Int)by omega)]
def yrZ:Con:=⟨ya0,yfB,fun x=>(fun n=>some ((n,()),())) (ycL x.1 x.2.1)⟩
theorem yGy:ConOk prog 157 yrZ:=(yEp).mono (fun x r hk h=>(yGx x.1 x.2.1 hk).trans h)
end
section
def yEw:Code:=(f158.body).getD .skip
def yE8:Env:=zj0 TT [] []
theorem yLO:FrOk prog ⟨yE8,6,fun _=>none⟩ yEw:=zj4 yc yd trivial
def yNv:Nat→Option Seg:=fun _=>none
abbrev yfr:List Par:= [.rd tL]
abbrev yoN:List OT:= [⟨false,tL,(.ow .fz)⟩]
def ykr (a0:List Int):Option (ResD yoN×MutD yfr) :=
 bif(zjO ([]:List Int).length a0.length 8)then
 some (((([]:List Int)++a0),()),())
 else none
theorem yUq (x:InD yfr):zju ⟨yE8,6,yNv⟩ f158.results.toList yEw yfr yoN x=ykr x.1:=by kernel_rfl
theorem yPb:ConOk prog 158 ⟨yfr,yoN,fun x=>ykr x.1⟩:=zjZ (yLO) func158 (by kernel_rfl) (by kernel_rfl) ntmps158.symm (by decide) (fun x r h=>(yUq x).trans h)
def yo (a0:List Int):List Int:=a0
theorem ySc (a0:List Int) (hk:zi0 yfr (a0,())):ykr a0=(fun n=>some ((n,()),())) (yo a0):=by
 have hb:a0.length*8≤2^47:=hk.1.1;unfold ykr yo;rw[show zjO ([]:List Int).length a0.length 8=true by rw[zj8,List.length_nil]; omega];rfl
def yaK:Con:=⟨yfr,yoN,fun x=>(fun n=>some ((n,()),())) (yo x.1)⟩
theorem ycx:ConOk prog 158 yaK:=(yPb).mono (fun x r hk h=>(ySc x.1 hk).trans h)
end
section
def ykG:Code:=(f87.body).getD .skip
def yqZ:Env:=zj0 TT [(127,yex),(156,ypa),(157,yrZ),(158,yaK)] []
theorem yN4:FrOk prog ⟨yqZ,49,fun _=>none⟩ ykG:=zj4 yc yd ⟨yih,yyh,yGy,ycx,trivial⟩
def yCj:Nat→Option Seg:=fun _=>none
def ybD:Shape:=⟨[(1,false,[.int .i64]),(6,false,[.br tI]),(34,false,[.br tW]),(35,false,[.int .i64]),(36,false,[.int .i64])],[],[]⟩
def ygf:Shape:=⟨[(1,false,[.int .i64]),(6,false,[.br tI]),(34,false,[.br tW]),(35,false,[.int .i64]),(36,false,[.ci .i64 0])],[],[]⟩
def yf3:Shape:=⟨[(6,false,[.br tI])],[],[]⟩
def yj5:Shape:=⟨[],[],[]⟩
abbrev yqq (v0:Int) (v1:List Int) (v2:List dW) (v3 v4:Int):(ybD).X:=(((v0,()),(v1,()),(v2,()),(v3,()),(v4,()),()),(),())
abbrev yMo (v0:Int) (v1:List Int) (v2:List dW) (v3:Int):(ygf).X:=(((v0,()),(v1,()),(v2,()),(v3,()),((),()),()),(),())
abbrev yzJ (v0:List Int):(yf3).X:=(((v0,()),()),(),())
def yqK (v0:Int) (v1:List Int) (v2:List dW) (v3 v4:Int):Option ((ybD).X ⊕ ((yf3).X ⊕ (yj5).X)) :=
 bif(ltb v4 v3)then
 bif(inb v4 v2.length)then
 bif((nth v2 v4 (0,[])).1==v0)then
 some (.inl (((v0,()),((nth v2 v4 (0,[])).2,()),(v2,()),(v3,()),((IntKind.i64.wrap (v4+1)),()),()),(),()))
 else
 some (.inl (((v0,()),(v1,()),(v2,()),(v3,()),((IntKind.i64.wrap (v4+1)),()),()),(),()))
 else none
 else
 some (.inr (.inl (((v1,()),()),(),())))
def ybV (x:(ybD).X):=yqK x.1.1.1 x.1.2.1.1 x.1.2.2.1.1 x.1.2.2.2.1.1 x.1.2.2.2.2.1.1
def yzg (x:(ygf).X):(ybD).X:=(((x.1.1.1,()),(x.1.2.1.1,()),(x.1.2.2.1.1,()),(x.1.2.2.2.1.1,()),(0,()),()),(),())
def yAO:Code:=(zef ykG 64 244).getD .skip
theorem yNJ:zef ykG 64 61=some (.block 0 (.loop yAO)):=by kernel_rfl
theorem yPA (x:(ybD).X):zg0 ⟨yqZ,49,yCj⟩ 0 yAO 244 ybD yf3 yj5 x=ybV x:=by kernel_rfl
def yzv (x:(ygf).X):Nat:=18446744073709551616
def yr4 (x:(ygf).X):Option ((yf3).X ⊕ (yj5).X):=zz ybV (yzv x) (yzg x)
def yzU:Seg:=⟨ygf,yf3,yj5,yr4⟩
def yCk:Nat→Option Seg:=fun q=>bif Nat.beq q 61 then some yzU else yCj q
theorem yN5:FrOk prog ⟨yqZ,49,yCk⟩ ykG:=(yN4).loop (sg:=yzU) ybD yzg (by decide) yNJ ybV yzv (by decide) (fun _=>rfl) (fun x r _ h=>h) yPA
abbrev ygH:List Par:= [.rd tM,.rd tI]
abbrev yra:List OT:= [⟨false,tL,(.ow .fz)⟩,⟨false,tB,.fz⟩]
def ymD (a0:dM) (a1:Int):Option (ResD yra×MutD ygH) :=
 let r1:=yZ a0
 bif(!(!r1))then
 bif(!a0.2.2.1)then
 let r2:=ybk a0 a1
 bif(!(!r2))then
 let r3:=ycL a0.2.2.2 a1
 bif r3 then
 some (([],false,()),())
 else
 bif(inb a1 a0.1.length)then
 zjW (yr4 (((a1,()),((nth a0.1 a1 []),()),(a0.2.1,()),((a0.2.1.length:Int),()),((),()),()),(),())) (fun y3 =>
 let r5:=yo y3.1.1.1
 some ((r5,true,()),())) (fun y3 =>
 none)
 else none
 else
 some (([],false,()),())
 else
 some (([],false,()),())
 else
 some (([],false,()),())
theorem yXN (x:InD ygH):zju ⟨yqZ,49,yCk⟩ f87.results.toList ykG ygH yra x=ymD x.1 x.2.1:=by kernel_rfl
theorem ySt:ConOk prog 87 ⟨ygH,yra,fun x=>ymD x.1 x.2.1⟩:=zjZ (yN5) func87 (by kernel_rfl) (by kernel_rfl) ntmps87.symm (by decide) (fun x r h=>(yXN x).trans h)
def ybo (a0:dM) (a1:Int):List Int×Bool:=yy a0 a1
theorem yVG (a0:dM) (a1:Int) (hk:zi0 ygH (a0,a1,())):ymD a0 a1=(fun n=>some ((n.1,n.2,()),())) (ybo a0 a1):=by
 have hb1:a0.1.length*24≤2^47:=hk.1.1.1;have hb2:a0.2.1.length*32≤2^47:=hk.1.2.1.1
 have h1: ∀s,yr4 (yMo a1 s a0.2.1 a0.2.1.length)=some (.inl (yzJ (yhH a1 a0.2.1 s))):=fun s =>
  zj1 (step:=ybV) a0.2.1 (0,[]) (fun i s=>yqq a1 s a0.2.1 a0.2.1.length i) (fun s w=>bif w.1==a1 then w.2 else s) (fun _ _=>True) (fun s=> .inl (yzJ s)) (fun i s hi _=>⟨by
   simp only[ybV,yqq,yqK,zj2 (show(i:Int)<a0.2.1.length by omega),cond_true,wr (show -9223372036854775808≤(i:Int)+1 by omega) (by omega),Int.natCast_add,Int.natCast_one,Int.toNat_natCast,zkj hi,zkk]
   cases((a0.2.1.getD i (0,[])).1==a1)<;>rfl,trivial⟩) (fun s _=>by simp only[ybV,yqq,yqK,zkv (Int.le_refl _),cond_false]) s trivial _ (by show _<18446744073709551616; omega)
 unfold ymD ybo yy yu0 ybk;rw[y9,yqk (show a0.1.length≤1152921504606846976 by omega)];unfold yZ ycL yo;simp only[h1,zkf]
 cases memOk a0
 ·rfl
 cases a0.2.2.1
 ·cases inb a1 a0.1.length
  ·rfl
  ·cases a0.2.2.2.any (· ==a1)<;>rfl
 ·rfl
def ymn:Con:=⟨ygH,yra,fun x=>(fun n=>some ((n.1,n.2,()),())) (ybo x.1 x.2.1)⟩
theorem ywP:ConOk prog 87 ymn:=(ySt).mono (fun x r hk h=>(yVG x.1 x.2.1 hk).trans h)
end
end
end Go.Tf
