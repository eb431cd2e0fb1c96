/- Functions of the program, and what they come to. -/
import Derived.Test.YtolmneojjjpnjaaGreatTornTt
namespace Go.Tf
noncomputable section
open Go.Proofs Go.Proofs.Tryz IntKind
set_option synthInstance.maxHeartbeats 400000
set_option synthInstance.maxSize 10000
set_option linter.unusedVariables false
set_option linter.unusedSimpArgs false
set_option maxRecDepth 100000
def y2R:Code:=(f14.body).getD .skip
def y2S:Env:=zku TT [] []
theorem yZ5:FrOk prog ⟨y2S,6,fun _=>none⟩ y2R:=zky yf yg trivial
abbrev yHR:List Par:= [.rd tYs]
abbrev yHS:List OT:= [⟨false,tB,.fz⟩]
def yLx (a0:List Int):Option (zaY yHS×zak yHR) :=some (((ltb 1048576 (a0.length:Int)),()),())
theorem y1I:ConOk prog 14 ⟨yHR,yHS,fun x=>yLx x.1⟩:=zkG (yZ5) func14 ntmps14.symm fun x=>by kernel_rfl
def yBX (a0:List Int):Bool :=(ltb 1048576 (a0.length:Int))
def yJV:Con:=⟨yHR,yHS,fun x=>(fun n=>some ((n,()),())) (yBX x.1)⟩
theorem y2i (a0:List Int):yLx a0=(fun n=>some ((n,()),())) (yBX a0):=zkT (p:=fun(n:Bool)=>((n,()),())) rfl
theorem y2k:ConOk prog 14 yJV:=(y1I).mono (fun x r _ h=>(y2i x.1).trans h)
def yaj {α:Type} (p:α→Bool) (l:List α):Int:=bif l.any p then((l.takeWhile (fun x=> !p x)).length:Int)else -1
theorem yYJ {α:Type} (p:α→Bool):yaj p []= -1:=rfl
theorem yBT {α:Type} (p:α→Bool) (x:α) (l:List α):yaj p (x::l)=bif p x then 0 else bif leb 0 (yaj p l)then yaj p l+1 else -1:=by
 unfold yaj;rw[List.any_cons,List.takeWhile_cons];cases p x
 ·cases l.any p
  ·rfl
  ·simp only[Bool.false_or,Bool.not_false,if_true,cond_true,cond_false,List.length_cons]
   rw[zk0 (show(0:Int)≤((l.takeWhile (fun x=> !p x)).length:Int)by omega),cond_true]; omega
 ·simp
theorem ynz {α:Type} {p:α→Bool} {d:α}: ∀{l:List α},leb 0 (yaj p l)=true→inb (yaj p l) l.length=true∧p (nth l (yaj p l) d)=true
 | [],h=>by rw[yYJ]at h; cases h
 | x::l,h=>by
  rw[yBT]at h ⊢;cases hx:p x
  ·rw[hx]at h
   cases hl:leb 0 (yaj p l)
   ·rw[hl]at h; cases h
   ·obtain⟨h1,h2⟩:=ynz (d:=d) hl
    have h3:=zj4.1 h1;have h4:=zj5.1 hl;simp only[cond_false,cond_true,List.length_cons];refine⟨zj4.2 (by omega),?_⟩;unfold nth at h2 ⊢;rw[show(yaj p l+1).toNat=(yaj p l).toNat+1 by omega,List.getD_cons_succ];exact h2
  ·simp only[cond_true,List.length_cons]
   refine⟨zj4.2 (by omega),?_⟩;exact hx
theorem yKE {A B α:Type} {step:A→Option (A ⊕ B)} (l:List α) (d:α) (f:Nat→A) (p:α→Bool) (b:Int→B) (c:B)
  (h: ∀i,i<l.length→step (f i)=some (bif p (l.getD i d)then .inr (b i)else .inl (f (i+1)))) (e:step (f l.length)=some (.inr c)) (fuel:Nat) (hf:l.length<fuel) :
  zF step fuel (f 0)=some (bif leb 0 (yaj p l)then b (yaj p l)else c):=by
 have: ∀(t q:List α) (fuel:Nat),q++t=l→t.length<fuel→zF step fuel (f q.length)=some (bif leb 0 (yaj p t)then b (q.length+yaj p t)else c):=by
  intro t
  induction t with
  | nil =>
   intro q fuel hq hf;obtain⟨fuel,rfl⟩: ∃m,fuel=m+1:=⟨fuel-1,by omega⟩;rw[List.append_nil]at hq;subst hq;simp only[zF,e]; rfl
  | cons x t ih =>
   intro q fuel hq hf;obtain⟨fuel,rfl⟩: ∃m,fuel=m+1:=⟨fuel-1,by omega⟩
   have hx:l.getD q.length d=x:=by
    subst hq;rw[zkH (by simp)]; simp
   have hs:=h q.length (by rw[← hq]; simp);rw[hx]at hs;rw[yBT];cases hp:p x
   ·rw[hp]at hs
    have:=ih (q++ [x]) fuel (by rw[← hq]; simp) (by simp at hf; omega);simp only[List.length_append,List.length_cons,List.length_nil]at this;simp only[zF,hs,cond_false];rw[show q.length+1=q.length+(0+1)by omega,this];cases hl:leb 0 (yaj p t)
    ·rfl
    ·have:=zj5.1 hl
     rw[cond_true,cond_true,zk0 (show 0≤yaj p t+1 by omega),cond_true];congr 2; omega
   ·rw[hp]at hs
    simp only[zF,hs,cond_true];rw[zk0 (Int.le_refl 0),cond_true,Int.add_zero]
 have:=this l [] fuel rfl hf;simpa using this
theorem ykZ {α β:Type} (f:α→β): ∀(l:List α) (s:List β),l.foldl (fun s i=>s++ [f i]) s=s++l.map f
 | [],s=>by simp
 | x::l,s=>by rw[List.foldl_cons,ykZ f l]; simp
theorem ywX {α:Type} (l:List α):l.foldl (fun s i=>s++ [i]) []=l:=by
 have:=ykZ id l [];simpa using this
theorem y3Y {α:Type} (l:List α) (d:α) {i:Nat} (h:i<l.length):l.take i++ [nth l i d]=l.take (i+1):=by rw[zkQ,zkH h,List.take_append_getElem h]
def ycG (e:dW) (s:Bool×List dW) (x:dW):Bool×List dW:=(s.1||leb e.1 x.1,(bif !s.1&&leb e.1 x.1 then s.2++ [e]else s.2)++(bif x.1 !=e.1 then[x]else[]))
def yLn (l:List dW) (e:dW):List dW:=bif(l.foldl (ycG e) (false,[])).1 then(l.foldl (ycG e) (false,[])).2 else(l.foldl (ycG e) (false,[])).2++ [e]
def yxq (a:dA) (l:List dW):dA:=(a.1,a.2.1,a.2.2.1,a.2.2.2.1,a.2.2.2.2.1,a.2.2.2.2.2.1,a.2.2.2.2.2.2.1,a.2.2.2.2.2.2.2.1,l,a.2.2.2.2.2.2.2.2.2)
def y5U (a:dA):dA:=(a.1,a.2.1,a.2.2.1,a.2.2.2.1,a.2.2.2.2.1,a.2.2.2.2.2.1,a.2.2.2.2.2.2.1,a.2.2.2.2.2.2.2.1,a.2.2.2.2.2.2.2.2.1,-1,true,a.2.2.2.2.2.2.2.2.2.2.2)
abbrev yc:dM:=([],[],false,[])
def isW (x:Int):Bool:=leb 0 x&&leb x 65535
def yaw (s:List Int):Bool:=leb (s.length:Int) 12&&s.all isW
theorem yoT {x:Int}:isW x=true↔0≤x∧x≤65535:=by simp[isW,zj5]
theorem yyI {s:List Int}:yaw s=true↔s.length≤12∧ ∀x∈s,0≤x∧x≤65535:=by
 simp only[yaw,Bool.and_eq_true,zj5,List.all_eq_true,yoT];constructor
 ·rintro⟨h1,h2⟩; exact⟨by omega,h2⟩
 ·rintro⟨h1,h2⟩; exact⟨by omega,h2⟩
theorem y2q: ∀{l:List Int},l.Pairwise (· < ·)↔ ∀i,i+1<l.length→l.getD i 0<l.getD (i+1) 0
 | []=>by simp
 | [x]=>by simp
 | x::y::l=>by
  have ih:=y2q (l:=y::l);constructor
  ·intro h i hi
   cases h with
   | cons h1 h2 =>
    cases i with
    | zero=>exact h1 y List.mem_cons_self
    | succ i=>exact ih.1 h2 i (by simpa using hi)
  ·intro h
   have h2:(y::l).Pairwise (· < ·):=ih.2 fun i hi=>h (i+1) (by simpa using hi)
   refine .cons (fun z hz=> ?_) h2;have h3:x<y:=h 0 (by simp);rcases List.mem_cons.1 hz with rfl | hz
   ·exact h3
   ·cases h2 with
    | cons h4 _=>exact Int.lt_trans h3 (h4 z hz)
def yoP (n:Nat) (l:List Int):Bool:=l.all (fun x=>inb x n)&&decide (l.Pairwise (· < ·))
def ysq (n:Nat) (w:dW):Bool:=inb w.1 n&&yaw w.2
def yw (m:dM):Bool:=m.1.all yaw&&m.2.1.all (ysq m.1.length)&&yoP m.1.length m.2.2.2&&leb 1 (m.1.length:Int)&&leb (m.1.length:Int) 20&&leb (m.2.1.length:Int) 60
def yE3 (n:Nat) (l:List Int) (i:Nat):Bool:= !(inb (l.getD i 0) n)||(decide (0<i)&&leb (l.getD i 0) (l.getD (i-1) 0))
theorem yYs (n:Nat) (l:List Int):(List.range l.length).any (yE3 n l)= !(yoP n l):=by
 rw[Bool.eq_iff_iff,List.any_eq_true,Bool.not_eq_true',yoP,Bool.and_eq_false_iff,decide_eq_false_iff_not,y2q,List.all_eq_false];simp only[List.mem_range,yE3,Bool.or_eq_true,Bool.not_eq_true',Bool.and_eq_true,decide_eq_true_eq,zj5];constructor
 ·rintro⟨i,hi,h | ⟨h1,h2⟩⟩
  ·exact .inl ⟨l[i],List.getElem_mem hi,by rw[zkH hi]at h; simp[h]⟩
  ·refine .inr fun h3=> ?_
   have:=h3 (i-1) (by omega);rw[show i-1+1=i by omega]at this;omega
 ·rintro(⟨x,hx,h⟩ | h)
  ·obtain⟨i,hi,rfl⟩:=List.getElem_of_mem hx
   exact⟨i,hi,.inl (by rw[zkH hi]; simpa using h)⟩
  ·refine Classical.byContradiction fun hc=>h fun i hi=> ?_
   refine Classical.byContradiction fun h4=>hc ⟨i+1,hi,.inr ⟨by omega,?_⟩⟩
   rw[Nat.add_sub_cancel]; omega
def yho (n:Int) (c:List dW) (s:List Int):List Int:=c.foldl (fun s w=>bif w.1==n then w.2 else s) s
def ysv (m:dM) (n:Int):Bool:=yw m&&(!m.2.2.1&&(inb n m.1.length&& !(m.2.2.2.any (· ==n))))
def yR (m:dM) (n:Int):List Int×Bool:=bif ysv m n then(yho n m.2.1 (nth m.1 n []),true)else([],false)
theorem yIh {P:List Int→Prop} {n:Int}: ∀{c:List dW} {s:List Int},P s→(∀w∈c,P w.2)→P (yho n c s)
 | [],_,h,_=>h
 | w::c,s,h,hc=>yIh (c:=c) (zkO (hc w List.mem_cons_self) h) (fun x hx=>hc x (List.mem_cons_of_mem _ hx))
theorem yB4 {α:Type} {P:α→Prop} {l:List α} {i:Int} {d:α} (h:inb i l.length=true) (hl: ∀x∈l,P x):P (nth l i d):=by
 obtain⟨h1,h2⟩:=zj4.1 h;unfold nth;rw[zkH (show i.toNat<l.length by omega)];exact hl _ (List.getElem_mem _)
theorem yWQ {α:Type} {p:α→Bool} {l:List α} (h:leb 0 (yaj p l)=false):yaj p l= -1:=by
 unfold yaj at h ⊢;cases ha:l.any p
 ·rfl
 ·rw[ha,cond_true,zk0 (show(0:Int)≤((l.takeWhile (fun x=> !p x)).length:Int)by omega)]at h; cases h
theorem yYK {α:Type} {p:α→Bool}: ∀{l:List α},leb 0 (yaj p l)=true→(l.take ((yaj p l).toNat+1)).filter (fun x=> !p x)=l.take (yaj p l).toNat
 | [],h=>by rw[yYJ]at h; cases h
 | x::l,h=>by
  rw[yBT]at h ⊢;cases hx:p x
  ·rw[hx]at h
   cases hl:leb 0 (yaj p l)
   ·rw[hl]at h; cases h
   ·have h4:=zj5.1 hl
    simp only[cond_false,cond_true];rw[show(yaj p l+1).toNat=(yaj p l).toNat+1 by omega,List.take_succ_cons,List.take_succ_cons,List.filter_cons,hx,yYK hl]; rfl
  ·simp only[cond_true]
   show List.filter (fun x=> !p x) [x]= [];rw[List.filter_cons,hx]; rfl
theorem y4n {α:Type} {p:α→Bool} {l:List α} (h:leb 0 (yaj p l)=false):l.filter (fun x=> !p x)=l:=by
 rw[List.filter_eq_self];intro x hx;unfold yaj at h;cases ha:l.any p
 ·have:=List.any_eq_false.1 ha x hx
  simpa using this
 ·rw[ha,cond_true,zk0 (show(0:Int)≤((l.takeWhile (fun x=> !p x)).length:Int)by omega)]at h; cases h
def yC (a:dA):dA:=(a.1,a.2.1,a.2.2.1,a.2.2.2.1,a.2.2.2.2.1,i64.wrap (a.2.2.2.2.2.1+1),a.2.2.2.2.2.2)
def yA (s:Int):Int:=bif leb 0 s&&leb s 1099511627776 then s+6 else -1
def ycC (a:dA) (m s:Int):Bool:=inb m a.2.2.1.length&&(!(nth a.2.2.1 m yc).2.2.1&&(m !=a.2.2.2.1||ltb s a.2.2.2.2.1))
def ydj (a:dA) (m s:Int):List Int×Bool:=yR (nth a.2.2.1 m yc) (yA s)
def yF (a:dA) (m s:Int):Bool:=ycC a m s&&((ydj a m s).2&&((ydj a m s).1.length:Int)==1)
def yjj (a:dA) (m s:Int):Int:=bif yF a m s then nth (ydj a m s).1 0 0 else 0
def xw (a b:Int):Int:=i64.wrap ((BitVec.ofInt IntKind.i64.bits a ^^^ BitVec.ofInt IntKind.i64.bits b).toNat:Int)
def yay (l:List Int):Int:=l.foldl xw 0
def yC1 (a:dA) (s:Int):Bool:=(List.range a.2.2.1.length).all (fun(i:Nat)=>yF a i s)
def yre (a:dA) (s:Int):Int×Bool:=bif yC1 a s then(yay ((List.range a.2.2.1.length).map (fun(i:Nat)=>yjj a i s)),true)else(0,false)
def y0O (a:dA):Bool:=(List.range (min a.2.1.2.toNat 20)).all (fun(s:Nat)=> !((yre a s).2&&(yre a s).1 !=0))
def bv (x:Int):BitVec 64:=BitVec.ofInt 64 x
theorem y0Q (a b:Int):xw a b=(bv a ^^^ bv b).toInt:=by
 show i64.wrap ((bv a ^^^ bv b).toNat:Int)=_;rw[IntKind.wrap_i64,BitVec.toInt_eq_toNat_cond];have:=(bv a ^^^ bv b).isLt;split<;>omega
theorem ywQ (v:BitVec 64):bv v.toInt=v:=by unfold bv; simp
theorem y4G {x:Int} (h: -9223372036854775808≤x) (h2:x≤9223372036854775807):(bv x).toInt=x:=by
 unfold bv;rw[BitVec.toInt_ofInt,Int.bmod_def];simp only[Nat.reducePow]at *;omega
def yfm (l:List Int):BitVec 64:=l.foldl (fun v x=>v ^^^ bv x) 0#64
theorem yoi (l:List Int):yay l=(yfm l).toInt:=by
 have: ∀(l:List Int) (v:BitVec 64),l.foldl xw v.toInt=(l.foldl (fun v x=>v ^^^ bv x) v).toInt:=by
  intro l
  induction l with
  | nil=>intro _; rfl
  | cons x l ih =>
   intro v;rw[List.foldl_cons,List.foldl_cons,y0Q,ywQ,ih]
 have h:=this l 0#64;rwa[show(0#64:BitVec 64).toInt=0 from by decide]at h
theorem y39 (l:List Int) (x:Int):yfm (l++ [x])=yfm l ^^^ bv x:=by unfold yfm; rw[List.foldl_append]; rfl
theorem y4T {i:Int} {n:Nat} (h: ¬(0≤i∧i<(n:Int))):inb i n=false:=by
 cases e:inb i n
 ·rfl
 ·exact absurd (zj4.1 e) h
def ynC (l:List Int) (k:Int):Int:=bif inb k l.length then xw (yay l) (nth l k 0)else yay l
theorem yY3 (u v:BitVec 64):u ^^^ v ^^^ v=u:=by rw[BitVec.xor_assoc,BitVec.xor_self,BitVec.xor_zero]
theorem y3Q (l:List Int) (k:Int):(List.range l.length).foldl (fun n (i:Nat)=>bif(i:Int) !=k then xw n (nth l i 0)else n) 0=ynC l k:=by
 have: ∀n,n≤l.length→(List.range n).foldl (fun n (i:Nat)=>bif(i:Int) !=k then xw n (nth l i 0)else n) 0=(bif inb k n then yfm (l.take n) ^^^ bv (nth l k 0)else yfm (l.take n)).toInt:=by
  intro n
  induction n with
  | zero =>
   intro _;rw[y4T (show ¬(0≤k∧k<((0:Nat):Int))by omega)];rfl
  | succ n ih =>
   intro hn;rw[List.range_succ,List.foldl_append,List.foldl_cons,List.foldl_nil,ih (by omega),← y3Y l 0 (show n<l.length by omega),y39];by_cases hk:(n:Int)=k
   ·subst hk
    rw[show((n:Int) !=n)=false by simp,cond_false,y4T (show ¬(0≤(n:Int)∧(n:Int)<(n:Int))by omega),show inb (n:Int) (n+1)=true from zkP (Nat.lt_succ_self n),cond_false,cond_true,yY3]
   ·rw[show((n:Int) !=k)=true from bne_iff_ne.2 hk,cond_true,show inb k (n+1)=inb k n by rw[Bool.eq_iff_iff,zj4,zj4]; omega,y0Q,ywQ]
    cases inb k n
    ·rfl
    ·rw[cond_true,cond_true,BitVec.xor_assoc,BitVec.xor_comm (bv (nth l k 0)),← BitVec.xor_assoc]
 rw[this l.length (Nat.le_refl _),List.take_length];unfold ynC;rw[y0Q,yoi,ywQ];cases inb k l.length<;>rfl
theorem y3P {l:List Int} {k:Int} (h:inb k l.length=true) (h0:nth l k 0=0):ynC l k=yay l:=by
 unfold ynC;rw[h,h0,cond_true,y0Q,yoi,ywQ,show bv 0=0#64 by decide,BitVec.xor_zero]
theorem yYG {α β:Type} (f:α→List β): ∀(l:List α) (s:List β),l.foldl (fun s i=>s++f i) s=s++l.flatMap f
 | [],s=>by simp
 | x::l,s=>by rw[List.foldl_cons,yYG f l]; simp
abbrev yaD:dA:=(0,(0,0),[],0,0,0,0,0,[],0,false,false)
def yLJ (k:Int) (i:Nat):Bool:=i64.wrap ((BitVec.ofInt IntKind.i64.bits (k.fdiv (2^(min (i:Int).toNat IntKind.i64.bits))) &&& BitVec.ofInt IntKind.i64.bits 1).toNat:Int)==1
def yTP (k:Int):Int:=bif leb 0 k&&leb k 1048575 then k else 0
def yfb (b:Nat→Bool) (c:List dW) (l:List (List Int)) (i:Nat):List (List Int):=bif b i then l.set (nth c i (0,[])).1.toNat (nth c i (0,[])).2 else l
def ygB (b:Nat→Bool) (c:List dW) (l:List (List Int)):List (List Int):=(List.range c.length).foldl (yfb b c) l
def ydQ (m:dM) (k:Int):dM:=bif yw m then(ygB (fun i=>decide (i<20)&&yLJ (yTP k) i) m.2.1 m.1,[],m.2.2.1,m.2.2.2)else m
def yKC (ks:List Int) (i:Nat):Int:=bif decide (i<ks.length)then nth ks i 0 else 0
def yag (l:List dM) (ks:List Int):List dM:=(List.range l.length).map (fun(i:Nat)=>ydQ (nth l i yc) (yKC ks i))
theorem ycD {m:dM} (h:yw m=true):m.1.all yaw=true∧m.2.1.all (ysq m.1.length)=true∧yoP m.1.length m.2.2.2=true∧1≤m.1.length∧m.1.length≤20∧m.2.1.length≤60:=by
 simp only[yw,Bool.and_eq_true,zj5]at h;exact⟨h.1.1.1.1.1,h.1.1.1.1.2,h.1.1.1.2,by omega,by omega,by omega⟩
theorem yP3 {m:dM} (h:yw m=true) {i:Nat} (hi:i<m.2.1.length):inb (nth m.2.1 i (0,[])).1 m.1.length=true∧yaw (nth m.2.1 i (0,[])).2=true:=by
 have h1:=List.all_eq_true.1 (ycD h).2.1 m.2.1[i] (List.getElem_mem hi);rw[zkQ,zkH hi];exact Bool.and_eq_true_iff.1 h1
theorem yuD {b:Nat→Bool} {c:List dW} {l:List (List Int)} {i:Nat}:(yfb b c l i).length=l.length:=by
 unfold yfb; cases b i
 ·rfl
 ·exact List.length_set
theorem yS9 {α β:Type} (P:β→Prop) (f:β→α→β) (h: ∀s x,P s→P (f s x)): ∀(l:List α) (s:β),P s→P (l.foldl f s)
 | [],_,hs=>hs
 | x::l,s,hs=>yS9 P f h l (f s x) (h s x hs)
theorem yqu {b:Nat→Bool} {c:List dW} {l:List (List Int)}:(ygB b c l).length=l.length :=
 yS9 (fun x=>x.length=l.length) _ (fun s x hs=>by rw[yuD]; exact hs) _ l rfl
theorem y2h {P:List Int→Prop} {b:Nat→Bool} {c:List dW} {l:List (List Int)} (hl: ∀x∈l,P x) (hc: ∀w∈c,P w.2): ∀x∈ygB b c l,P x:=by
 have: ∀(n:Nat),n≤c.length→ ∀x∈(List.range n).foldl (yfb b c) l,P x:=by
  intro n
  induction n with
  | zero=>intro _; exact hl
  | succ n ih =>
   intro hn x hx;rw[List.range_succ,List.foldl_append,List.foldl_cons,List.foldl_nil,yfb]at hx;cases hb:b n
   ·rw[hb]at hx; exact ih (by omega) x hx
   ·rw[hb,cond_true]at hx
    rcases List.mem_or_eq_of_mem_set hx with h | h
    ·exact ih (by omega) x h
    ·rw[h,zkQ,zkH (show n<c.length by omega)]
     exact hc _ (List.getElem_mem _)
 exact this _ (Nat.le_refl _)
def ybj (m:dM) (n:Int) (s:List Int):Bool:=yw m&&(!m.2.2.1&&(inb n m.1.length&&(yaw s&&ltb (m.2.1.length:Int) 60)))
def yIq (l:List Int) (n:Int):List Int:=l.filter (· !=n)
def yZ (m:dM) (n:Int) (s:List Int):dM×Bool:=bif ybj m n s then((m.1,m.2.1++ [(n,s)],m.2.2.1,yIq m.2.2.2 n),true)else(m,false)
def yE (m:dM):dM:=bif yw m&& !m.2.2.1 then(ygB (fun _=>true) m.2.1 m.1,[],m.2.2.1,m.2.2.2)else m
def yft (m:dM):dM:=(m.1,[],true,m.2.2.2)
def yZh:Code:=(f81.body).getD .skip
def yZO:Env:=zku TT [] []
theorem yPn:FrOk prog ⟨yZO,15,fun _=>none⟩ yZh:=zky yf yg trivial
abbrev yzh:List Par:= [.rd tI,.rd tI,.rd tI]
abbrev yzI:List OT:= [⟨false,tB,.fz⟩]
def yF7 (a0 a1 a2:Int):Option (zaY yzI×zak yzh) :=bif(leb a1 a0)then some (((leb a0 a2),()),()) else some ((false,()),())
theorem yUJ:ConOk prog 81 ⟨yzh,yzI,fun x=>yF7 x.1 x.2.1 x.2.2.1⟩:=zkG (yPn) func81 ntmps81.symm fun x=>by kernel_rfl
def yi (a0 a1 a2:Int):Bool :=bif(leb a1 a0)then (leb a0 a2) else false
def yN:Con:=⟨yzh,yzI,fun x=>(fun n=>some ((n,()),())) (yi x.1 x.2.1 x.2.2.1)⟩
theorem yW9 (a0 a1 a2:Int):yF7 a0 a1 a2=(fun n=>some ((n,()),())) (yi a0 a1 a2):=zkT (p:=fun(n:Bool)=>((n,()),())) (zkE (p:=fun(n:Bool)=>((n,()),())) rfl rfl)
theorem y9:ConOk prog 81 yN:=(yUJ).mono (fun x r _ h=>(yW9 x.1 x.2.1 x.2.2.1).trans h)
def y1Z:Code:=(f82.body).getD .skip
def y13:Env:=zku TT [] []
theorem yWM:FrOk prog ⟨y13,15,fun _=>none⟩ y1Z:=zky yf yg trivial
abbrev yGm:List Par:= [.rd tI,.rd tI,.rd tI]
abbrev yGq:List OT:= [⟨false,tB,.fz⟩]
def yIN (a0 a1 a2:Int):Option (zaY yGq×zak yGm) :=bif(leb a1 a0)then some (((leb a0 a2),()),()) else some ((false,()),())
theorem y0v:ConOk prog 82 ⟨yGm,yGq,fun x=>yIN x.1 x.2.1 x.2.2.1⟩:=zkG (yWM) func82 ntmps82.symm fun x=>by kernel_rfl
def yb (a0 a1 a2:Int):Bool :=bif(leb a1 a0)then (leb a0 a2) else false
def yM:Con:=⟨yGm,yGq,fun x=>(fun n=>some ((n,()),())) (yb x.1 x.2.1 x.2.2.1)⟩
theorem y1F (a0 a1 a2:Int):yIN a0 a1 a2=(fun n=>some ((n,()),())) (yb a0 a1 a2):=zkT (p:=fun(n:Bool)=>((n,()),())) (zkE (p:=fun(n:Bool)=>((n,()),())) rfl rfl)
theorem yX:ConOk prog 82 yM:=(y0v).mono (fun x r _ h=>(y1F x.1 x.2.1 x.2.2.1).trans h)
theorem yuB {a b c:Int}:yb a b c=true↔b≤a∧a≤c:=by
 unfold yb;cases h:leb b a
 ·have:=mt zk0 (by rw[h]; simp: ¬leb b a=true)
  simp[this]
 ·simp[zj5,zj5.1 h]
theorem y5T {a b c:Int} (h:b≤a) (h2:a≤c):yb a b c=true:=yuB.2 ⟨h,h2⟩
theorem yao (a b c:Int):yi a b c=yb a b c:=by kernel_rfl
theorem ybM (x a b:Int):yb x a b=(leb a x&&leb x b):=by
 unfold yb; cases leb a x<;>rfl
theorem ynA {x:Int} {n:Nat} (h:n≤1152921504606846976):yb x 0 (i64.wrap ((n:Int)-1))=inb x n:=by
 rw[wr (by omega) (by omega),Bool.eq_iff_iff,yuB,zj4]; omega
def y0R:Code:=(f123.body).getD .skip
def y02:Env:=zku TT [(81,yN)] []
theorem yTc:FrOk prog ⟨y02,11,fun _=>none⟩ y0R:=zky yf yg ⟨y9,trivial⟩
abbrev yCv:List Par:= [.rd tG]
abbrev yCF:List OT:= [⟨false,tB,.fz⟩]
def yHF (a0:dG):Option (zaY yCF×zak yCv) :=let r1:=yi a0.1 3 5;bif r1 then let r2:=yi a0.2 1 8;some ((r2,()),()) else some ((false,()),())
theorem yXx:ConOk prog 123 ⟨yCv,yCF,fun x=>yHF x.1⟩:=zkG (yTc) func123 ntmps123.symm fun x=>by kernel_rfl
def ybG (a0:dG):Bool :=let r1:=yi a0.1 3 5;bif r1 then let r2:=yi a0.2 1 8;r2 else false
def ygy:Con:=⟨yCv,yCF,fun x=>(fun n=>some ((n,()),())) (ybG x.1)⟩
theorem yZ9 (a0:dG):yHF a0=(fun n=>some ((n,()),())) (ybG a0):=zkT (p:=fun(n:Bool)=>((n,()),())) (zkE (p:=fun(n:Bool)=>((n,()),())) rfl rfl)
theorem ylI:ConOk prog 123 ygy:=(yXx).mono (fun x r _ h=>(yZ9 x.1).trans h)
def yZg:Code:=(f125.body).getD .skip
def yZN:Env:=zku TT [(81,yN)] []
theorem yPm:FrOk prog ⟨yZN,26,fun _=>none⟩ yZg:=zky yf yg ⟨y9,trivial⟩
abbrev yzg:List Par:= [.rd tG,.rd tI,.rd tI]
abbrev yzH:List OT:= [⟨false,tB,.fz⟩]
def yF6 (a0:dG) (a1 a2:Int):Option (zaY yzH×zak yzg) :=let r1:=yi a1 (-1) (i64.wrap (a0.1-1));bif r1 then let r2:=yi a2 0 a0.2;bif r2 then bif(!(a2==0))then some (((a1 !=(-1)),()),()) else some ((true,()),()) else some ((false,()),()) else some ((false,()),())
theorem yUI:ConOk prog 125 ⟨yzg,yzH,fun x=>yF6 x.1 x.2.1 x.2.2.1⟩:=zkG (yPm) func125 ntmps125.symm fun x=>by kernel_rfl
def yfN (a0:dG) (a1 a2:Int):Bool :=let r1:=yi a1 (-1) (i64.wrap (a0.1-1));bif r1 then let r2:=yi a2 0 a0.2;bif r2 then bif(!(a2==0))then (a1 !=(-1)) else true else false else false
def yud:Con:=⟨yzg,yzH,fun x=>(fun n=>some ((n,()),())) (yfN x.1 x.2.1 x.2.2.1)⟩
theorem yW8 (a0:dG) (a1 a2:Int):yF6 a0 a1 a2=(fun n=>some ((n,()),())) (yfN a0 a1 a2):=zkT (p:=fun(n:Bool)=>((n,()),())) (zkE (p:=fun(n:Bool)=>((n,()),())) (zkE (p:=fun(n:Bool)=>((n,()),())) (zkE (p:=fun(n:Bool)=>((n,()),())) rfl rfl) rfl) rfl)
theorem yHt:ConOk prog 125 yud:=(yUI).mono (fun x r _ h=>(yW8 x.1 x.2.1 x.2.2.1).trans h)
def yOy:Code:=(f109.body).getD .skip
def yOO:Env:=zku TT [(81,yN),(123,ygy)] []
theorem yI5:FrOk prog ⟨yOO,14,fun _=>none⟩ yOy:=zky yf yg ⟨y9,ylI,trivial⟩
abbrev yrs:List Par:= [.rd tG,.rd tI]
abbrev yru:List OT:= [⟨false,tB,.fz⟩]
def yyH (a0:dG) (a1:Int):Option (zaY yru×zak yrs) :=let r1:=ybG a0;bif r1 then let r2:=yi a1 0 (i64.wrap (a0.2-1));some ((r2,()),()) else some ((false,()),())
theorem yLf:ConOk prog 109 ⟨yrs,yru,fun x=>yyH x.1 x.2.1⟩:=zkG (yI5) func109 ntmps109.symm fun x=>by kernel_rfl
def yaC (a0:dG) (a1:Int):Bool :=let r1:=ybG a0;bif r1 then let r2:=yi a1 0 (i64.wrap (a0.2-1));r2 else false
def yc5:Con:=⟨yrs,yru,fun x=>(fun n=>some ((n,()),())) (yaC x.1 x.2.1)⟩
theorem yNv (a0:dG) (a1:Int):yyH a0 a1=(fun n=>some ((n,()),())) (yaC a0 a1):=zkT (p:=fun(n:Bool)=>((n,()),())) (zkE (p:=fun(n:Bool)=>((n,()),())) rfl rfl)
theorem ygp:ConOk prog 109 yc5:=(yLf).mono (fun x r _ h=>(yNv x.1 x.2.1).trans h)
def yZf:Code:=(f135.body).getD .skip
def yZM:Env:=zku TT [(81,yN)] []
theorem yPl:FrOk prog ⟨yZM,5,fun _=>none⟩ yZf:=zky yf yg ⟨y9,trivial⟩
abbrev yzf:List Par:= [.rd tI]
abbrev yzG:List OT:= [⟨false,tB,.fz⟩]
def yF5 (a0:Int):Option (zaY yzG×zak yzf) :=let r1:=yi a0 0 65535;some ((r1,()),())
theorem yUH:ConOk prog 135 ⟨yzf,yzG,fun x=>yF5 x.1⟩:=zkG (yPl) func135 ntmps135.symm fun x=>by kernel_rfl
def yaH (a0:Int):Bool :=let r1:=yi a0 0 65535;r1
def yFp:Con:=⟨yzf,yzG,fun x=>(fun n=>some ((n,()),())) (yaH x.1)⟩
theorem yW7 (a0:Int):yF5 a0=(fun n=>some ((n,()),())) (yaH a0):=zkT (p:=fun(n:Bool)=>((n,()),())) rfl
theorem yXZ:ConOk prog 135 yFp:=(yUH).mono (fun x r _ h=>(yW7 x.1).trans h)
def yop:Code:=(f187.body).getD .skip
def ywc:Env:=zku TT [(135,yFp)] []
theorem yMM:FrOk prog ⟨ywc,15,fun _=>none⟩ yop:=zky yf yg ⟨yXZ,trivial⟩
def yCe:Nat→Option Seg:=fun _=>none
def ydN:Shape:=⟨[(5,false,[.br tI]),(6,false,[.int .i64]),(7,false,[.int .i64])],[],[]⟩
def yjn:Shape:=⟨[(5,false,[.br tI]),(6,false,[.int .i64]),(7,false,[.ci .i64 0])],[],[]⟩
def yjl:Shape:=⟨[],[],[]⟩
def yjv:Shape:=⟨[(2,false,[.bool])],[],[]⟩
def yob (v0:List Int) (v1 v2:Int):Option ((ydN).X ⊕ ((yjl).X ⊕ (yjv).X)) :=bif(ltb v2 v1)then bif(inb v2 v0.length)then let r2:=yaH (nth v0 v2 0);bif(!r2)then some (.inr (.inr (((false,()),()),(),()))) else some (.inl (((v0,()),(v1,()),((i64.wrap (v2+1)),()),()),(),())) else none else some (.inr (.inl ((),(),())))
def ycr (x:(ydN).X):=yob x.1.1.1 x.1.2.1.1 x.1.2.2.1.1
def yx7 (x:(yjn).X):(ydN).X:=(((x.1.1.1,()),(x.1.2.1.1,()),(0,()),()),(),())
def yAC:Code:=(zeJ yop 64 52).getD .skip
theorem yMl:zeJ yop 64 13=some (.block 0 (.loop yAC)):=by kernel_rfl
theorem yN7 (x:(ydN).X):zhu ⟨ywc,15,yCe⟩ 0 yAC 52 ydN yjl yjv x=ycr x:=by kernel_rfl
def yyn (x:(yjn).X):Nat:=18446744073709551616
def ypk (x:(yjn).X):Option ((yjl).X ⊕ (yjv).X):=zF ycr (yyn x) (yx7 x)
def yyR:Seg:=⟨yjn,yjl,yjv,ypk⟩
def yOG:Nat→Option Seg:=fun q=>bif Nat.beq q 13 then some yyR else yCe q
theorem yMN:FrOk prog ⟨ywc,15,yOG⟩ yop:=(yMM).loop (sg:=yyR) ydN yx7 (by decide) yMl ycr yyn (by decide) (fun _=>rfl) (fun x r _ h=>h) yN7
abbrev yoC:List Par:= [.rd tL]
abbrev ywG:List OT:= [⟨false,tB,.fz⟩]
def yr2 (a0:List Int):Option (zaY ywG×zak yoC) :=zkr (ypk (((a0,()),((a0.length:Int),()),((),()),()),(),())) (fun y2 =>some ((true,()),())) (fun y2 =>some ((y2.1.1.1,()),()))
theorem yQ8:ConOk prog 187 ⟨yoC,ywG,fun x=>yr2 x.1⟩:=zkG (yMN) func187 ntmps187.symm fun x=>by kernel_rfl
def yaA (a0:List Int):Bool:=a0.all yaH
theorem yUh (a0:List Int) (hk:zjw yoC (a0,())):yr2 a0=(fun n=>some ((n,()),())) (yaA a0):=by
 have hb:a0.length*8≤2^47:=hk.1.1
 have hl:ypk (((a0,()),((a0.length:Int),()),((),()),()),(),())=some (bif a0.all yaH then .inl ((),(),())else .inr (((false,()),()),(),())) :=
  zj7 (step:=ycr) a0 0 (fun i=>(((a0,()),((a0.length:Int),()),((i:Int),()),()),(),())) yaH _ _ (fun i hi=>by
   simp only[ycr,yob,zkP hi,zkQ,zkw (show(i:Int)<a0.length by omega),cond_true,wq ((i:Int)+1) (by omega) (by omega),Int.natCast_add,Int.natCast_one]
   cases yaH (a0.getD i 0)<;>rfl) (by simp only[ycr,yob,zk1 (Int.le_refl _),cond_false]) _ (by show _<18446744073709551616; omega)
 unfold yr2 yaA;rw[hl];cases a0.all yaH<;>rfl
def ykX:Con:=⟨yoC,ywG,fun x=>(fun n=>some ((n,()),())) (yaA x.1)⟩
theorem yuR:ConOk prog 187 ykX:=(yQ8).mono (fun x r hk h=>(yUh x.1 hk).trans h)
def yZc:Code:=(f129.body).getD .skip
def yZJ:Env:=zku TT [(187,ykX)] []
theorem yPi:FrOk prog ⟨yZJ,15,fun _=>none⟩ yZc:=zky yf yg ⟨yuR,trivial⟩
abbrev yzc:List Par:= [.rd tG,.rd tL]
abbrev yzD:List OT:= [⟨false,tB,.fz⟩]
def yF2 (a0:dG) (a1:List Int):Option (zaY yzD×zak yzc) :=bif((a1.length:Int)==(i64.wrap (a0.1-1)))then let r1:=yaA a1;some ((r1,()),()) else some ((false,()),())
theorem yUE:ConOk prog 129 ⟨yzc,yzD,fun x=>yF2 x.1 x.2.1⟩:=zkG (yPi) func129 ntmps129.symm fun x=>by kernel_rfl
def yd8 (a0:dG) (a1:List Int):Bool :=bif((a1.length:Int)==(i64.wrap (a0.1-1)))then let r1:=yaA a1;r1 else false
def yuc:Con:=⟨yzc,yzD,fun x=>(fun n=>some ((n,()),())) (yd8 x.1 x.2.1)⟩
theorem yW4 (a0:dG) (a1:List Int):yF2 a0 a1=(fun n=>some ((n,()),())) (yd8 a0 a1):=zkT (p:=fun(n:Bool)=>((n,()),())) (zkE (p:=fun(n:Bool)=>((n,()),())) rfl rfl)
theorem yHs:ConOk prog 129 yuc:=(yUE).mono (fun x r _ h=>(yW4 x.1 x.2.1).trans h)
def y0V:Code:=(f150.body).getD .skip
def y06:Env:=zku TT [(82,yM)] []
theorem yTq:FrOk prog ⟨y06,11,fun _=>none⟩ y0V:=zky yf yg ⟨yX,trivial⟩
abbrev yCy:List Par:= [.rd tG]
abbrev yCN:List OT:= [⟨false,tB,.fz⟩]
def yHI (a0:dG):Option (zaY yCN×zak yCy) :=let r1:=yb a0.1 3 5;bif r1 then let r2:=yb a0.2 1 8;some ((r2,()),()) else some ((false,()),())
theorem yXF:ConOk prog 150 ⟨yCy,yCN,fun x=>yHI x.1⟩:=zkG (yTq) func150 ntmps150.symm fun x=>by kernel_rfl
def yd (a0:dG):Bool :=let r1:=yb a0.1 3 5;bif r1 then let r2:=yb a0.2 1 8;r2 else false
def ygz:Con:=⟨yCy,yCN,fun x=>(fun n=>some ((n,()),())) (yd x.1)⟩
theorem y0h (a0:dG):yHI a0=(fun n=>some ((n,()),())) (yd a0):=zkT (p:=fun(n:Bool)=>((n,()),())) (zkE (p:=fun(n:Bool)=>((n,()),())) rfl rfl)
theorem ylJ:ConOk prog 150 ygz:=(yXF).mono (fun x r _ h=>(y0h x.1).trans h)
theorem yl {a:Int×Int}:yd a=true↔(3≤a.1∧a.1≤5)∧1≤a.2∧a.2≤8:=by
 unfold yd;cases h:yb a.1 3 5
 ·have: ¬(3≤a.1∧a.1≤5):=fun e=>by rw[yuB.2 e]at h; simp at h
  simp[this]
 ·simp only[cond_true,yuB]
  exact⟨fun e=>⟨yuB.1 h,e⟩,fun e=>e.2⟩
def yhg (a:dA) (i:Nat):Bool:= !(yw (nth a.2.2.1 i yc))||((((nth a.2.2.1 i yc).1.length:Int) !=6+a.2.1.2)||((nth a.2.2.1 i yc).2.2.1&&(((i:Int) !=a.2.2.2.1)&& !a.2.2.2.2.2.2.2.2.2.2.2)))
def ylu (a:dA):Bool:= !((List.range a.2.2.1.length).any (yhg a))&&(a.2.2.1.length:Int)==a.2.1.1
def yhI (g:dG) (l:List dW) (i:Nat):Bool:= !(leb 0 (nth l i (0,[])).1&&leb (nth l i (0,[])).1 (g.2-1))||(((nth l i (0,[])).2.length:Int) !=g.1-1||(!((nth l i (0,[])).2.all isW)||(decide (0<i)&&leb (nth l i (0,[])).1 (nth l ((i-1:Nat):Int) (0,[])).1)))
def yaT (g:dG) (l:List dW):Bool:= !((List.range l.length).any (yhI g l))
def yal (a:dA):Bool :=yd a.2.1&&((leb 1 a.1&&leb a.1 60000)&&(ylu a&&(yaT a.2.1 a.2.2.2.2.2.2.2.2.1&&((leb (-1) a.2.2.2.1&&leb a.2.2.2.1 (a.2.1.1-1))&&((leb 0 a.2.2.2.2.1&&leb a.2.2.2.2.1 a.2.1.2)&&(!(a.2.2.2.1== -1&&a.2.2.2.2.1 !=0) && ((leb 0 a.2.2.2.2.2.2.1&&leb a.2.2.2.2.2.2.1 60000)&&((leb a.2.2.2.2.2.2.1 a.2.2.2.2.2.1&&leb a.2.2.2.2.2.1 60000)&&(leb a.2.2.2.2.2.1 (a.2.2.2.2.2.2.1+4)&&((leb 0 a.2.2.2.2.2.2.2.1&&leb a.2.2.2.2.2.2.2.1 60000)&&(leb (-1) a.2.2.2.2.2.2.2.2.2.1&&leb a.2.2.2.2.2.2.2.2.2.1 1000)))))))))))
theorem yiK {a:dA} (h:yal a=true):yd a.2.1=true:=(Bool.and_eq_true_iff.1 h).1
theorem y2U {a:dA} (h:yal a=true):ylu a=true:=by simp only[yal,Bool.and_eq_true]at h; exact h.2.2.1
theorem yE2 {a:dA} (h:yal a=true):(a.2.2.1.length:Int)=a.2.1.1:=by have:=y2U h; simp only[ylu,Bool.and_eq_true,beq_iff_eq]at this; exact this.2
theorem y3O {a:dA} (h:ylu a=true) {i:Nat} (hi:i<a.2.2.1.length):yw (nth a.2.2.1 i yc)=true∧((nth a.2.2.1 i yc).1.length:Int)=6+a.2.1.2∧((nth a.2.2.1 i yc).2.2.1=true→(i:Int)=a.2.2.2.1∨a.2.2.2.2.2.2.2.2.2.2.2=true):=by
 simp only[ylu,Bool.and_eq_true,Bool.not_eq_true',List.any_eq_false,List.mem_range]at h;have:=h.1 i hi;simp only[yhg,Bool.not_eq_true,Bool.or_eq_false_iff,Bool.not_eq_false',bne_eq_false_iff_eq,Bool.and_eq_false_iff]at this;refine⟨this.1,this.2.1,fun hf=> ?_⟩;rcases this.2.2 with h1 | h1 | h1
 ·rw[hf]at h1; cases h1
 ·exact .inl h1
 ·exact .inr h1
theorem yKA (a:Int×Int):ybG a=yd a:=by kernel_rfl
theorem yWE: ∀{l:List Int} {lo n:Int},l.Pairwise (· < ·)→(∀x∈l,lo≤x∧x<n)→lo≤n→(l.length:Int)≤n-lo
 | [],lo,n,_,_,h=>by simp; omega
 | x::l,lo,n,hp,hx,h=>by
  cases hp with
  | cons h1 h2 =>
   have h3:=hx x List.mem_cons_self;have:=yWE (l:=l) (lo:=x+1) (n:=n) h2 (fun y hy=>⟨h1 y hy,(hx y (List.mem_cons_of_mem _ hy)).2⟩) (by omega);rw[List.length_cons]; omega
theorem ysr {n:Nat} {l:List Int}:yoP n l=true↔(∀x∈l,0≤x∧x<n)∧l.Pairwise (· < ·):=by
 simp only[yoP,Bool.and_eq_true,List.all_eq_true,zj4,decide_eq_true_eq]
theorem yrC {m:dM} (h1:m.1.all yaw=true) (h2:m.2.1.all (ysq m.1.length)=true) (h3:yoP m.1.length m.2.2.2=true) (h4:1≤m.1.length) (h5:m.1.length≤20) (h6:m.2.1.length≤60):yw m=true:=by
 simp only[yw,h1,h2,h3,Bool.true_and,Bool.and_eq_true,zj5];omega
theorem yTS {m:dM} (b:Nat→Bool) (h:yw m=true):(ygB b m.2.1 m.1).all yaw=true:=by
 obtain⟨h1,h2,_⟩:=ycD h;rw[List.all_eq_true];exact y2h (P:=fun x=>yaw x=true) (fun x hx=>List.all_eq_true.1 h1 x hx) (fun w hw=>(Bool.and_eq_true_iff.1 (List.all_eq_true.1 h2 w hw)).2)
theorem y1Y {m:dM} (n:Int) (s:List Int) (h:yw m=true):yw (yZ m n s).1=true:=by
 unfold yZ;cases hc:ybj m n s
 ·exact h
 ·simp only[ybj,Bool.and_eq_true,Bool.not_eq_true',zj8]at hc
  obtain⟨h1,h2,h3,h4,h5,h6⟩:=ycD h;refine yrC h1 ?_ ?_ h4 h5 (by show(m.2.1++ [(n,s)]).length≤60; rw[List.length_append]; simp only[List.length_cons,List.length_nil]; omega)
  ·show(m.2.1++ [(n,s)]).all (ysq m.1.length)=true
   rw[List.all_append,h2];simp[ysq,hc.2.2.1,hc.2.2.2.1]
  ·show yoP m.1.length (yIq m.2.2.2 n)=true
   obtain⟨b1,b2⟩:=ysr.1 h3;exact ysr.2 ⟨fun x hx=>b1 x (List.mem_filter.1 hx).1,b2.filter _⟩
theorem yyY (m:dM) (n:Int) (s:List Int):(yZ m n s).1.1=m.1∧(yZ m n s).1.2.2.1=m.2.2.1:=by
 unfold yZ;cases ybj m n s<;>exact⟨rfl,rfl⟩
theorem y4m {m:dM} (h:yw m=true):yw (yE m)=true:=by
 unfold yE;cases hc:(yw m&& !m.2.2.1)
 ·exact h
 ·obtain⟨h1,h2,h3,h4,h5,h6⟩:=ycD h
  refine yrC (yTS _ h) rfl ?_ ?_ ?_ (Nat.zero_le _)
  ·show yoP (ygB _ m.2.1 m.1).length m.2.2.2=true; rw[yqu]; exact h3
  ·show 1≤(ygB _ m.2.1 m.1).length; rw[yqu]; exact h4
  ·show(ygB _ m.2.1 m.1).length≤20; rw[yqu]; exact h5
theorem ysy (m:dM):(yE m).1.length=m.1.length∧(yE m).2.2.1=m.2.2.1:=by
 unfold yE;cases(yw m&& !m.2.2.1)
 ·exact⟨rfl,rfl⟩
 ·exact⟨yqu,rfl⟩
theorem yWH {m:dM} (h:yw m=true):yw (yft m)=true:=by
 obtain⟨h1,h2,h3,h4,h5,h6⟩:=ycD h;exact yrC h1 rfl h3 h4 h5 (Nat.zero_le _)
def y3I (g:dG):Bool:=decide ((-1000≤g.1∧g.1≤1000)∧ -1000≤g.2∧g.2≤1000)
theorem y3K {g:dG} (h:(yd g||y3I g)=true):(-1000≤g.1∧g.1≤1000)∧ -1000≤g.2∧g.2≤1000:=by
 rcases Bool.or_eq_true_iff.1 h with h | h
 ·have:=yl.1 h; omega
 ·exact of_decide_eq_true h
def ym1 (p:Nat→Bool) (n:Nat):Nat:=((List.range n).filter (fun i=> !p i)).length
theorem yBV (p:Nat→Bool) (n:Nat):ym1 p (n+1)=bif p n then ym1 p n else ym1 p n+1:=by
 unfold ym1;rw[List.range_succ,List.filter_append,List.length_append,List.filter_cons];cases p n<;>simp
theorem y2G {α:Type} (A:List α) (y:α) (t:List α) (d:α):(A++y::t).getD A.length d=y:=by
 rw[List.getD_eq_getElem?_getD,List.getElem?_append_right (Nat.le_refl _),Nat.sub_self]; rfl
theorem y2M {α:Type} (A:List α) (y z:α) (t:List α):(A++y::t).set A.length z=A++z::t:=by
 rw[List.set_append_right _ _ (Nat.le_refl _),Nat.sub_self]; rfl
def yuC (l:List Int) (n:Int):List Int:=l.filter (fun x=>ltb x n)++n::l.filter (fun x=>ltb n x)
def spoil (m:dM) (n:Int):dM:=bif yw m&&(inb n m.1.length&& !(m.2.2.2.any (· ==n)))then(m.1,m.2.1,m.2.2.1,yuC m.2.2.2 n)else m
theorem y1Q {l:List Int} {n:Int} (h:l.Pairwise (· < ·)) (hn:n∉l):l=l.filter (fun x=>ltb x n)++l.filter (fun x=>ltb n x):=by
 induction l with
 | nil=>rfl
 | cons x t ih =>
  obtain⟨hx,ht⟩:=List.pairwise_cons.1 h;simp only[List.mem_cons,not_or]at hn;rw[List.filter_cons,List.filter_cons];by_cases hlt:x<n
  ·rw[zkw hlt,zk1 (show x≤n by omega)]
   simp only[if_true,Bool.false_eq_true,if_false,List.cons_append];rw[← ih ht hn.2]
  ·have h3:t.filter (fun x=>ltb x n)= []:=List.filter_eq_nil_iff.2 (fun y hy=>by rw[zk1 (by have:=hx y hy; omega)]; simp)
   have h4:t.filter (fun x=>ltb n x)=t:=List.filter_eq_self.2 (fun y hy=>zkw (by have:=hx y hy; omega));rw[zk1 (show n≤x by omega),zkw (show n<x by omega),h3,h4]; rfl
theorem yRW {m:dM} (n:Int) (h:yw m=true):yw (spoil m n)=true:=by
 unfold spoil;cases hc:(yw m&&(inb n m.1.length&& !(m.2.2.2.any (· ==n))))
 ·exact h
 ·simp only[Bool.and_eq_true]at hc
  have hi:=zj4.1 hc.2.1;obtain⟨h1,h2,h3,h4,h5,h6⟩:=ycD h;rw[ysr]at h3;refine yrC h1 h2 ?_ h4 h5 h6;show yoP m.1.length (yuC m.2.2.2 n)=true;rw[ysr];unfold yuC;refine⟨fun x hx=> ?_,?_⟩
  ·rcases List.mem_append.1 hx with g | g
   ·exact h3.1 x (List.mem_filter.1 g).1
   ·rcases List.mem_cons.1 g with rfl | g
    ·exact hi
    ·exact h3.1 x (List.mem_filter.1 g).1
  ·rw[List.pairwise_append,List.pairwise_cons]
   refine⟨h3.2.filter _,⟨fun y hy=>zj8.1 (List.mem_filter.1 hy).2,h3.2.filter _⟩,fun x hx y hy=> ?_⟩;have g1:=zj8.1 (List.mem_filter.1 hx).2;rcases List.mem_cons.1 hy with rfl | hy
   ·exact g1
   ·exact Int.lt_trans g1 (zj8.1 (List.mem_filter.1 hy).2)
theorem yn2 (m:dM) (n:Int):(spoil m n).1=m.1∧(spoil m n).2.2.1=m.2.2.1:=by
 unfold spoil;cases(yw m&&(inb n m.1.length&& !(m.2.2.2.any (· ==n))))<;>exact⟨rfl,rfl⟩
def yL (g:dG) (s:Int):Bool:=yd g&&(leb 0 s&&leb s (g.2-1))
def yk (g:dG) (s:Int):Int:=bif yL g s then g.1-1-s.tmod g.1 else -1
def yaQ (g:dG) (s i:Int):Int:=bif yL g s&&(leb 0 i&&leb i (g.1-2))then(yk g s+1+i).tmod g.1 else -1
theorem yV {g:dG} {s:Int}:yL g s=true↔yd g=true∧0≤s∧s≤g.2-1:=by simp[yL,zj5]
theorem yi5 {g:dG} {s:Int} (h:yL g s=true):0≤yk g s∧yk g s≤g.1-1:=by
 have h1:=yV.1 h;have h2:=yl.1 h1.1;unfold yk;rw[h,cond_true,Int.tmod_eq_emod_of_nonneg h1.2.1];have:=Int.emod_nonneg s (show g.1≠0 by omega);have:=Int.emod_lt_of_pos s (show 0<g.1 by omega);omega
theorem yLM {g:dG} {s i:Int} (h:yL g s=true) (h1:0≤i) (h2:i≤g.1-2):0≤yaQ g s i∧yaQ g s i≤g.1-1:=by
 have h3:=yl.1 (yV.1 h).1;have h4:=yi5 h;unfold yaQ;rw[h,zk0 h1,zk0 h2,Bool.and_self,Bool.and_self,cond_true,Int.tmod_eq_emod_of_nonneg (by omega)];have:=Int.emod_nonneg (yk g s+1+i) (show g.1≠0 by omega);have:=Int.emod_lt_of_pos (yk g s+1+i) (show 0<g.1 by omega);omega
def yJ (p:Nat→Bool):Nat→Int
 | 0=> -1
 | n+1=>bif p n then yJ p n else n
def yeQ (p:Nat→Bool) (n:Nat):Bool:=(List.range n).any (fun i=> !p i&&leb 0 (yJ p i))
theorem yKH (p:Nat→Bool): ∀n,yJ p n= -1∨(0≤yJ p n∧yJ p n<n∧p (yJ p n).toNat=false)
 | 0=> .inl rfl
 | n+1=>by
  unfold yJ;cases h:p n
  ·exact .inr ⟨by show(0:Int)≤n; omega,by show(n:Int)<_; omega,h⟩
  ·rcases yKH p n with h1 | h1
   ·exact .inl h1
   ·exact .inr ⟨h1.1,by show yJ p n<_; omega,h1.2.2⟩
def yai (a:dA) (s:Int) (n:Nat):List Int:=(List.range n).map (fun(i:Nat)=>yjj a i s)
theorem yfl (a:dA) (s:Int) (n:Nat):(yai a s n).length=n:=by unfold yai; rw[List.length_map,List.length_range]
theorem yIQ (a:dA) (s:Int) (n:Nat):yai a s n++ [yjj a n s]=yai a s (n+1):=by unfold yai; rw[List.range_succ,List.map_append]; rfl
theorem y2o (a:dA) (s:Int) {i n:Nat} (h:i<n):nth (yai a s n) i 0=yjj a i s:=by
 unfold yai;rw[zkQ,zkH (by rw[List.length_map,List.length_range]; exact h)]; simp
def yS (a:dA) (s:Int):List Int×Bool :=bif yeQ (fun(i:Nat)=>yF a i s) a.2.1.1.toNat then([],false) else bif leb 0 (yJ (fun(i:Nat)=>yF a i s) a.2.1.1.toNat)then((yai a s a.2.1.1.toNat).set (yJ (fun(i:Nat)=>yF a i s) a.2.1.1.toNat).toNat (yay (yai a s a.2.1.1.toNat)),true) else(yai a s a.2.1.1.toNat,true)
theorem yLF {a:dA} {s:Int} (h:(yS a s).2=true):(yS a s).1.length=a.2.1.1.toNat:=by
 unfold yS at h ⊢;cases h1:yeQ (fun(i:Nat)=>yF a i s) a.2.1.1.toNat
 ·cases leb 0 (yJ (fun(i:Nat)=>yF a i s) a.2.1.1.toNat)
  ·exact yfl _ _ _
  ·simp only[cond_false,cond_true,List.length_set]; exact yfl _ _ _
 ·rw[h1]at h; cases h
theorem yYQ (a:dA) (s:Int) (n:Nat) (h:leb 0 (yJ (fun(i:Nat)=>yF a i s) n)=true):inb (yJ (fun(i:Nat)=>yF a i s) n) (yai a s n).length=true∧ynC (yai a s n) (yJ (fun(i:Nat)=>yF a i s) n)=yay (yai a s n):=by
 rcases yKH (fun(i:Nat)=>yF a i s) n with h1 | h1
 ·rw[h1]at h; cases h
 ·have h2:inb (yJ (fun(i:Nat)=>yF a i s) n) (yai a s n).length=true:=by rw[yfl,zj4]; exact⟨h1.1,h1.2.1⟩
  refine⟨h2,y3P h2 ?_⟩;have h3:=y2o a s (show(yJ (fun(i:Nat)=>yF a i s) n).toNat<n by omega);rw[show(((yJ (fun(i:Nat)=>yF a i s) n).toNat:Nat):Int)=yJ (fun(i:Nat)=>yF a i s) n by omega]at h3;rw[h3];unfold yjj
  have h4:yF a (yJ (fun(i:Nat)=>yF a i s) n) s=false:=by
   have:=h1.2.2;have this:yF a ((yJ (fun(i:Nat)=>yF a i s) n).toNat:Nat) s=false:=h1.2.2;rwa[show(((yJ (fun(i:Nat)=>yF a i s) n).toNat:Nat):Int)=yJ (fun(i:Nat)=>yF a i s) n by omega]at this
  rw[h4]; rfl
def yq6 (a:dA) (s:Int):List Int×Bool:=bif(yS a s).2 then((List.range (a.2.1.1-1).toNat).map (fun(i:Nat)=>nth (yS a s).1 (yaQ a.2.1 s i) 0),true)else([],false)
def ydG (a:dA) (s:Int):List Int×Bool:=bif yal a&&(!a.2.2.2.2.2.2.2.2.2.2.2&&yL a.2.1 s)then yq6 a s else([],false)
theorem y3A (a:dA) (s:Int):(yq6 a s).1.length≤(a.2.1.1-1).toNat:=by
 unfold yq6;cases(yS a s).2
 ·exact Nat.zero_le _
 ·simp
def yhJ (a:dA):List Int:=bif yal a&&(List.range a.2.1.2.toNat).all (fun(s:Nat)=>(ydG a s).2)then(List.range a.2.1.2.toNat).flatMap (fun(s:Nat)=>(ydG a s).1)else[]
theorem yxE (g:dG) (s:Int):yaC g s=yL g s:=by
 unfold yaC yL;rw[yKA];cases hg:yd g
 ·rfl
 have:=yl.1 hg;rw[yao,ybM,wr (by omega) (by omega)]; rfl
theorem y20 {a:dA} (s:Int) (hg:yd a.2.1=true):(ydG a s).1.length≤4:=by
 have:=yl.1 hg;unfold ydG;cases(yal a&&(!a.2.2.2.2.2.2.2.2.2.2.2&&yL a.2.1 s))
 ·exact Nat.zero_le _
 ·have:=y3A a s
  show(yq6 a s).1.length≤4;omega
theorem yTT (p:Nat→Bool): ∀n,leb 0 (yJ p n)=decide (1≤ym1 p n)∧yeQ p n=decide (2≤ym1 p n)
 | 0=>⟨rfl,rfl⟩
 | n+1=>by
  obtain⟨h1,h2⟩:=yTT p n
  have e:yeQ p (n+1)=(yeQ p n||(!p n&&leb 0 (yJ p n))):=by
   unfold yeQ;rw[List.range_succ,List.any_append]; simp
  have e2:yJ p (n+1)=bif p n then yJ p n else n:=rfl;rw[e,e2,yBV,h2,h1];cases hp:p n
  ·simp only[cond_false,Bool.not_false,Bool.true_and]
   refine⟨by rw[zk0 (show(0:Int)≤n by omega)]; simp,?_⟩;rw[Bool.eq_iff_iff,Bool.or_eq_true,decide_eq_true_eq,decide_eq_true_eq,decide_eq_true_eq]; omega
  ·simp[h1]
def ycb (m:dM) (n:Int):List Int:=yho n m.2.1 (nth m.1 n [])
def yaZ (m:dM) (n:Int):Bool:=m.2.2.2.any (· ==n)
def ynn (m:dM) (n:Int) (v:List Int):Prop:=v=nth m.1 n []∨ ∃w∈m.2.1,w.1=n∧w.2=v
theorem yT4 (n:Int): ∀(c:List dW) (s:List Int),yho n c s=s∨ ∃w∈c,w.1=n∧w.2=yho n c s
 | [],s=> .inl rfl
 | w::c,s=>by
  show yho n c (bif w.1==n then w.2 else s)=s∨ ∃x∈w::c,x.1=n∧x.2=yho n c (bif w.1==n then w.2 else s);rcases yT4 n c (bif w.1==n then w.2 else s)with h | ⟨x,hx,h1,h2⟩
  ·rw[h]
   cases hw:(w.1==n)
   ·exact .inl rfl
   ·exact .inr ⟨w,List.mem_cons_self,beq_iff_eq.1 hw,rfl⟩
  ·exact .inr ⟨x,List.mem_cons_of_mem _ hx,h1,h2⟩
theorem ywW (m:dM) (n:Int):ynn m n (ycb m n):=yT4 n m.2.1 _
theorem yOq (n:Int) (c:List dW) (w:dW) (s:List Int):yho n (c++ [w]) s=bif w.1==n then w.2 else yho n c s:=by
 unfold yho; rw[List.foldl_append]; rfl
theorem yRV {m:dM} {n:Int} (h:yw m=true) (h1:m.2.2.1=false) (h2:inb n m.1.length=true):yR m n=bif yaZ m n then([],false)else(ycb m n,true):=by
 unfold yR ysv;rw[h,h1,h2];show(bif !(yaZ m n)then(ycb m n,true)else([],false))=_;cases yaZ m n<;>rfl
theorem yqk {m:dM} {n:Int} {s:List Int} (h:yw m=true) (h1:m.2.2.1=false) (h2:inb n m.1.length=true) (h3:yaw s=true) (h4:m.2.1.length<60):ybj m n s=true:=by
 unfold ybj;rw[h,h1,h2,h3,zkw (by omega)]; rfl
theorem yIA {m:dM} {n:Int} {s:List Int} (h:ybj m n s=true):(yZ m n s).1=(m.1,m.2.1++ [(n,s)],m.2.2.1,yIq m.2.2.2 n):=by unfold yZ; rw[h]; rfl
theorem ynx {m:dM} {n:Int} {s:List Int} (h:ybj m n s=true) (k:Int):ycb (yZ m n s).1 k=bif n==k then s else ycb m k:=by
 rw[yIA h]; exact yOq _ _ _ _
theorem y4a (l:List Int) (n k:Int):(yIq l n).any (· ==k)=(l.any (· ==k)&&k !=n):=by
 rw[Bool.eq_iff_iff];simp only[yIq,List.any_eq_true,List.mem_filter,Bool.and_eq_true,beq_iff_eq,bne_iff_ne];constructor
 ·rintro⟨x,⟨h1,h2⟩,rfl⟩; exact⟨⟨x,h1,rfl⟩,h2⟩
 ·rintro⟨⟨x,h1,rfl⟩,h2⟩; exact⟨x,⟨h1,h2⟩,rfl⟩
theorem yxK {m:dM} {n:Int} {s:List Int} (h:ybj m n s=true) (k:Int):yaZ (yZ m n s).1 k=(yaZ m k&&k !=n):=by
 rw[yIA h]; exact y4a _ _ _
theorem y3k {m:dM} {n:Int} {s:List Int} {k:Int} {v:List Int} (h:ynn (yZ m n s).1 k v):ynn m k v∨(k=n∧v=s):=by
 cases hc:ybj m n s
 ·unfold yZ at h; rw[hc]at h; exact .inl h
 ·rw[yIA hc]at h
  rcases h with h | ⟨w,hw,h1,h2⟩
  ·exact .inl (.inl h)
  ·rcases List.mem_append.1 hw with hw | hw
   ·exact .inl (.inr ⟨w,hw,h1,h2⟩)
   ·rw[List.mem_singleton.1 hw]at h1 h2; exact .inr ⟨h1.symm,h2.symm⟩
theorem yEc {α:Type} {l:List α} {i k:Int} {x d:α} (hi:inb i l.length=true) (hk:0≤k):nth (l.set i.toNat x) k d=bif i==k then x else nth l k d:=by
 have h1:=zj4.1 hi;unfold nth;rw[List.getD_eq_getElem?_getD,List.getD_eq_getElem?_getD,List.getElem?_set];by_cases h:i=k
 ·subst h; simp[show i.toNat<l.length by omega]
 ·rw[if_neg (by omega),show(i==k)=false from beq_eq_false_iff_ne.2 h]; rfl
theorem y2A (b:Nat→Bool) {c:List dW} {l:List (List Int)} {k:Int} (hk:0≤k) (hc: ∀w∈c,inb w.1 l.length=true) :
  ∀n,n≤c.length→((List.range n).foldl (yfb b c) l).length=l.length∧(nth ((List.range n).foldl (yfb b c) l) k []=nth l k []∨ ∃w∈c,w.1=k∧w.2=nth ((List.range n).foldl (yfb b c) l) k []) ∧
   ((∀i,b i=true)→nth ((List.range n).foldl (yfb b c) l) k []=yho k (c.take n) (nth l k [])):=by
 intro n
 induction n with
 | zero=>intro _; exact⟨rfl,.inl rfl,fun _=>rfl⟩
 | succ n ih =>
  intro hn;obtain⟨h1,h2,h3⟩:=ih (by omega);rw[List.range_succ,List.foldl_append,List.foldl_cons,List.foldl_nil];have hnc:n<c.length:=by omega
  generalize (List.range n).foldl (yfb b c) l=L at h1 h2 h3 ⊢;refine⟨yuD.trans h1,?_⟩;unfold yfb;rw[zkQ,zkH hnc];have hw:inb c[n].1 L.length=true:=by rw[h1]; exact hc _ (List.getElem_mem hnc)
  cases hb:b n
  ·refine⟨h2,fun h=> ?_⟩
   rw[h n]at hb; cases hb
  ·simp only[cond_true,yEc hw hk]
   constructor
   ·cases he:(c[n].1==k)
    ·exact h2
    ·exact .inr ⟨c[n],List.getElem_mem hnc,beq_iff_eq.1 he,rfl⟩
   ·intro h
    rw[h3 h,List.take_add_one,List.getElem?_eq_getElem hnc];exact(yOq k _ _ _).symm
theorem y1B {m:dM} (h:yw m=true): ∀w∈m.2.1,inb w.1 m.1.length=true:=fun w hw=>by
 have:=List.all_eq_true.1 (ycD h).2.1 w hw;simp only[ysq,Bool.and_eq_true]at this; exact this.1
theorem y3H {m:dM} {k:Int} (h:yw m=true) (h1:m.2.2.1=false) (hk:0≤k):nth (yE m).1 k []=ycb m k:=by
 have:=(y2A (fun _=>true) hk (y1B h) m.2.1.length (Nat.le_refl _)).2.2 (fun _=>rfl);rw[List.take_length]at this;unfold yE;rw[h,h1]; exact this
theorem yBP {m:dM} (h:yw m=true) (h1:m.2.2.1=false):(yE m).2.1= []∧(yE m).2.2=m.2.2:=by
 unfold yE;rw[h,h1];refine⟨rfl,?_⟩;show(false,m.2.2.2)=m.2.2;rw[← h1]
theorem yus {m:dM} {k:Int} {v:List Int} (h:yw m=true) (h1:m.2.2.1=false) (hk:0≤k) (hv:ynn (yE m) k v):v=ycb m k:=by
 rcases hv with hv | ⟨w,hw,_⟩
 ·rw[hv,y3H h h1 hk]
 ·rw[(yBP h h1).1]at hw; cases hw
theorem y3G {m:dM} {k:Int} (h:yw m=true) (h1:m.2.2.1=false) (hk:0≤k):ycb (yE m) k=ycb m k:=yus h h1 hk (ywW _ _)
theorem yJZ (m:dM) (k:Int):yaZ (yE m) k=yaZ m k:=by
 unfold yE;cases(yw m&& !m.2.2.1)<;>rfl
theorem y4l {m:dM} (h:yw m=true) (ks:Int) {k:Int} (hk:0≤k):ynn m k (nth (ydQ m ks).1 k []):=by
 have:=(y2A (fun i=>decide (i<20)&&yLJ (yTP ks) i) hk (y1B h) m.2.1.length (Nat.le_refl _)).2.1;unfold ydQ;rw[h];rcases this with h1 | ⟨w,hw,h1,h2⟩
 ·exact .inl h1
 ·exact .inr ⟨w,hw,h1,h2⟩
theorem yYF {m:dM} (h:yw m=true) (ks:Int):(ydQ m ks).2.1= []∧(ydQ m ks).2.2=m.2.2∧(ydQ m ks).1.length=m.1.length:=by
 unfold ydQ;rw[h];exact⟨rfl,rfl,yqu⟩
theorem y41 {m:dM} (h:yw m=true) (ks:Int):yw (ydQ m ks)=true:=by
 obtain⟨h1,h2,h3,h4,h5,h6⟩:=ycD h;obtain⟨e1,e2,e3⟩:=yYF h ks;refine yrC ?_ (by rw[e1]; rfl) (by rw[e2,e3]; exact h3) (by omega) (by omega) (by rw[e1]; exact Nat.zero_le _);have:=yTS (fun i=>decide (i<20)&&yLJ (yTP ks) i) h;unfold ydQ;rw[h]; exact this
theorem y5j {x:Int} (h:isW x=true):(bv x).toNat<2^16:=by
 have:=yoT.1 h;unfold bv;rw[BitVec.toNat_ofInt];omega
theorem y5o {v:BitVec 64} (h:v.toNat<2^16):isW v.toInt=true:=by
 rw[BitVec.toInt_eq_toNat_of_lt (by omega)];exact yoT.2 (by omega)
theorem y5h: ∀(l:List Int),l.all isW=true→(yfm l).toNat<2^16:=by
 intro l h
 have: ∀(l:List Int) (v:BitVec 64),v.toNat<2^16→l.all isW=true→(l.foldl (fun v x=>v ^^^ bv x) v).toNat<2^16:=by
  intro l
  induction l with
  | nil=>intro v hv _; exact hv
  | cons x t ih =>
   intro v hv h;simp only[List.all_cons,Bool.and_eq_true]at h;refine ih _ ?_ h.2;rw[BitVec.toNat_xor];exact Nat.xor_lt_two_pow hv (y5j h.1)
 exact this l 0#64 (by decide) h
theorem yY2 {l:List Int} (h:l.all isW=true):isW (yay l)=true:=by
 rw[yoi]; exact y5o (y5h l h)
theorem yB1 {l:List Int}:l.all isW=true↔ ∀x∈l,isW x=true:=by simp
theorem yXv {l:List Int} {i:Int} (h:l.all isW=true):isW (nth l i 0)=true:=by
 unfold nth;rw[List.getD_eq_getElem?_getD];cases e:l[i.toNat]? with
 | none=>rfl
 | some x=>exact yB1.1 h x (List.mem_of_getElem? e)
theorem yYn {l:List Int} {i:Nat} {x:Int} (h:l.all isW=true) (hx:isW x=true):(l.set i x).all isW=true:=by
 rw[yB1]at h ⊢;intro y hy;rcases List.mem_or_eq_of_mem_set hy with h1 | rfl
 ·exact h y h1
 ·exact hx
theorem y3l {m:dM} {n:Int} (h:(yR m n).2=true):yaw (yR m n).1=true:=by
 unfold yR at h ⊢;cases hc:ysv m n
 ·rw[hc]at h; cases h
 ·simp only[ysv,Bool.and_eq_true]at hc
  obtain⟨h1,h2,h3,_,_,_⟩:=ycD hc.1;refine yIh (P:=fun s=>yaw s=true) ?_ fun w hw=> ?_
  ·exact yB4 (P:=fun s=>yaw s=true) hc.2.2.1 (fun x hx=>List.all_eq_true.1 h1 x hx)
  ·have:=List.all_eq_true.1 h2 w hw
   simp only[ysq,Bool.and_eq_true]at this;exact this.2
theorem y4P (a:dA) (m s:Int):isW (yjj a m s)=true:=by
 unfold yjj;cases h:yF a m s
 ·rfl
 ·simp only[yF,Bool.and_eq_true]at h
  have:=y3l (m:=nth a.2.2.1 m yc) (n:=yA s) h.2.1;simp only[yaw,Bool.and_eq_true]at this;exact yXv this.2
theorem yEL (a:dA) (s:Int) (n:Nat):(yai a s n).all isW=true:=by
 rw[yB1];unfold yai;intro x hx;obtain⟨i,_,rfl⟩:=List.mem_map.1 hx;exact y4P a i s
theorem y36 (a:dA) (s:Int):(yS a s).1.all isW=true:=by
 unfold yS;cases yeQ (fun(i:Nat)=>yF a i s) a.2.1.1.toNat
 ·cases leb 0 (yJ (fun(i:Nat)=>yF a i s) a.2.1.1.toNat)
  ·exact yEL _ _ _
  ·exact yYn (yEL _ _ _) (yY2 (yEL _ _ _))
 ·rfl
theorem yYA (a:dA) (s:Int):(yq6 a s).1.all isW=true:=by
 unfold yq6;cases(yS a s).2
 ·rfl
 ·rw[yB1]
  intro x hx;obtain⟨i,_,rfl⟩:=List.mem_map.1 hx;exact yXv (y36 a s)
def yoo:Code:=(f126.body).getD .skip
def ywb:Env:=zku TT [(109,yc5),(129,yuc)] []
theorem yMI:FrOk prog ⟨ywb,44,fun _=>none⟩ yoo:=zky yf yg ⟨ygp,yHs,trivial⟩
def yCd:Nat→Option Seg:=fun _=>none
def yb5:Shape:=⟨[(1,false,[.ptr 0 0]),(6,false,[.br tW]),(7,false,[.int .i64]),(8,false,[.int .i64])],[(0,[.int .i64,.int .i64,.int .i64,.br tM,.int .i64,.int .i64,.int .i64,.int .i64,.int .i64,.br tW,.int .i64,.bool,.bool])],[]⟩
def yga:Shape:=⟨[(1,false,[.ptr 0 0]),(6,false,[.br tW]),(7,false,[.int .i64]),(8,false,[.ci .i64 0])],[(0,[.int .i64,.int .i64,.int .i64,.br tM,.int .i64,.int .i64,.int .i64,.int .i64,.int .i64,.br tW,.int .i64,.bool,.bool])],[]⟩
def yfX:Shape:=⟨[],[],[]⟩
def ygj:Shape:=⟨[(2,false,[.bool])],[],[]⟩
abbrev ynK (v0:List dW) (v1 v2:Int) (v3:dA):(yb5).X:=((((),()),(v0,()),(v1,()),(v2,()),()),((v3.1,v3.2.1.1,v3.2.1.2,v3.2.2.1,v3.2.2.2.1,v3.2.2.2.2.1,v3.2.2.2.2.2.1,v3.2.2.2.2.2.2.1,v3.2.2.2.2.2.2.2.1,v3.2.2.2.2.2.2.2.2.1,v3.2.2.2.2.2.2.2.2.2.1,v3.2.2.2.2.2.2.2.2.2.2.1,v3.2.2.2.2.2.2.2.2.2.2.2,()),()),())
abbrev yKV (v0:List dW) (v1:Int) (v2:dA):(yga).X:=((((),()),(v0,()),(v1,()),((),()),()),((v2.1,v2.2.1.1,v2.2.1.2,v2.2.2.1,v2.2.2.2.1,v2.2.2.2.2.1,v2.2.2.2.2.2.1,v2.2.2.2.2.2.2.1,v2.2.2.2.2.2.2.2.1,v2.2.2.2.2.2.2.2.2.1,v2.2.2.2.2.2.2.2.2.2.1,v2.2.2.2.2.2.2.2.2.2.2.1,v2.2.2.2.2.2.2.2.2.2.2.2,()),()),())
abbrev yKK  :(yfX).X:=((),(),())
abbrev yK3 (v0:Bool):(ygj).X:=(((v0,()),()),(),())
def yoa (v0:List dW) (v1 v2 v3 v4 v5:Int) (v6:List dM) (v7 v8 v9 v10 v11:Int) (v12:List dW) (v13:Int) (v14 v15:Bool):Option ((yb5).X ⊕ ((yfX).X ⊕ (ygj).X)) :=bif(ltb v2 v1)then bif(inb v2 v0.length)then let r4:=yaC (v4,v5) ((nth v0 v2 (0,[])).1);bif(!(!r4))then bif(ltb 0 v2)then bif(inb (i64.wrap (v2-1)) v12.length)then bif(!(leb ((nth v0 v2 (0,[])).1) ((nth v12 (i64.wrap (v2-1)) (0,[])).1)))then let r5:=yd8 (v4,v5) ((nth v0 v2 (0,[])).2);bif(!r5)then some (.inr (.inr (((false,()),()),(),()))) else some (.inl ((((),()),(v0,()),(v1,()),((i64.wrap (v2+1)),()),()),((v3,v4,v5,v6,v7,v8,v9,v10,v11,v12,v13,v14,v15,()),()),())) else some (.inr (.inr (((false,()),()),(),()))) else none else let r6:=yd8 (v4,v5) ((nth v0 v2 (0,[])).2);bif(!r6)then some (.inr (.inr (((false,()),()),(),()))) else some (.inl ((((),()),(v0,()),(v1,()),((i64.wrap (v2+1)),()),()),((v3,v4,v5,v6,v7,v8,v9,v10,v11,v12,v13,v14,v15,()),()),())) else some (.inr (.inr (((false,()),()),(),()))) else none else some (.inr (.inl ((),(),())))
def ycq (x:(yb5).X):=yoa x.1.2.1.1 x.1.2.2.1.1 x.1.2.2.2.1.1 x.2.1.1.1 x.2.1.1.2.1 x.2.1.1.2.2.1 x.2.1.1.2.2.2.1 x.2.1.1.2.2.2.2.1 x.2.1.1.2.2.2.2.2.1 x.2.1.1.2.2.2.2.2.2.1 x.2.1.1.2.2.2.2.2.2.2.1 x.2.1.1.2.2.2.2.2.2.2.2.1 x.2.1.1.2.2.2.2.2.2.2.2.2.1 x.2.1.1.2.2.2.2.2.2.2.2.2.2.1 x.2.1.1.2.2.2.2.2.2.2.2.2.2.2.1 x.2.1.1.2.2.2.2.2.2.2.2.2.2.2.2.1
def yx6 (x:(yga).X):(yb5).X:=((((),()),(x.1.2.1.1,()),(x.1.2.2.1.1,()),(0,()),()),((x.2.1.1.1,x.2.1.1.2.1,x.2.1.1.2.2.1,x.2.1.1.2.2.2.1,x.2.1.1.2.2.2.2.1,x.2.1.1.2.2.2.2.2.1,x.2.1.1.2.2.2.2.2.2.1,x.2.1.1.2.2.2.2.2.2.2.1,x.2.1.1.2.2.2.2.2.2.2.2.1,x.2.1.1.2.2.2.2.2.2.2.2.2.1,x.2.1.1.2.2.2.2.2.2.2.2.2.2.1,x.2.1.1.2.2.2.2.2.2.2.2.2.2.2.1,x.2.1.1.2.2.2.2.2.2.2.2.2.2.2.2.1,()),()),())
def yAB:Code:=(zeJ yoo 64 52).getD .skip
theorem yMk:zeJ yoo 64 13=some (.block 0 (.loop yAB)):=by kernel_rfl
theorem yN6 (x:(yb5).X):zhu ⟨ywb,44,yCd⟩ 0 yAB 52 yb5 yfX ygj x=ycq x:=by kernel_rfl
def yym (x:(yga).X):Nat:=18446744073709551616
def ypj (x:(yga).X):Option ((yfX).X ⊕ (ygj).X):=zF ycq (yym x) (yx6 x)
def yyQ:Seg:=⟨yga,yfX,ygj,ypj⟩
def yOF:Nat→Option Seg:=fun q=>bif Nat.beq q 13 then some yyQ else yCd q
theorem yMJ:FrOk prog ⟨ywb,44,yOF⟩ yoo:=(yMI).loop (sg:=yyQ) yb5 yx6 (by decide) yMk ycq yym (by decide) (fun _=>rfl) (fun x r _ h=>h) yN6
abbrev yjK:List Par:= [.rd tA]
abbrev yoH:List OT:= [⟨false,tB,.fz⟩]
def yr1 (a0:dA):Option (zaY yoH×zak yjK) :=zkr (ypj ((((),()),(a0.2.2.2.2.2.2.2.2.1,()),((a0.2.2.2.2.2.2.2.2.1.length:Int),()),((),()),()),((a0.1,a0.2.1.1,a0.2.1.2,a0.2.2.1,a0.2.2.2.1,a0.2.2.2.2.1,a0.2.2.2.2.2.1,a0.2.2.2.2.2.2.1,a0.2.2.2.2.2.2.2.1,a0.2.2.2.2.2.2.2.2.1,a0.2.2.2.2.2.2.2.2.2.1,a0.2.2.2.2.2.2.2.2.2.2.1,a0.2.2.2.2.2.2.2.2.2.2.2,()),()),())) (fun y6 =>some ((true,()),())) (fun y6 =>some ((y6.1.1.1,()),()))
theorem yQ5:ConOk prog 126 ⟨yjK,yoH,fun x=>yr1 x.1⟩:=zkG (yMJ) func126 ntmps126.symm fun x=>by kernel_rfl
def ykd (a0:dA):Bool:=yaT a0.2.1 a0.2.2.2.2.2.2.2.2.1
def yw5 (a0:dA):Bool:=yd a0.2.1
theorem yuA (l:List Int):yaA l=l.all isW:=by
 unfold yaA;rw[show yaH=isW from funext fun x=>by unfold yaH; rw[yao,ybM]; rfl]
theorem yUe (a0:dA) (hk:zjw yjK (a0,())) (hq:yw5 a0=true):yr1 a0=(fun n=>some ((n,()),())) (ykd a0):=by
 have hb:a0.2.2.2.2.2.2.2.2.1.length*32≤2^47:=hk.1.2.2.2.2.2.2.2.2.1.1;have hg:=yl.1 hq;have hq':yd a0.2.1=true:=hq
 have h1:ypj (yKV a0.2.2.2.2.2.2.2.2.1 a0.2.2.2.2.2.2.2.2.1.length a0)=some (bif(List.range a0.2.2.2.2.2.2.2.2.1.length).any (yhI a0.2.1 a0.2.2.2.2.2.2.2.2.1)then .inr (yK3 false)else .inl yKK) :=
  zjh (step:=ycq) (fun i=>ynK a0.2.2.2.2.2.2.2.2.1 a0.2.2.2.2.2.2.2.2.1.length i a0) a0.2.2.2.2.2.2.2.2.1.length (yhI a0.2.1 a0.2.2.2.2.2.2.2.2.1) _ _ (fun i hi=>by
   simp only[ycq,ynK,yoa,zkw (show(i:Int)<a0.2.2.2.2.2.2.2.2.1.length by omega),cond_true,wq ((i:Int)+1) (by omega) (by omega),Int.natCast_add,Int.natCast_one,Int.toNat_natCast,zkP hi,zkV,yaC,yd8,yKA,hq',yao,ybM,yuA,wq (a0.2.1.2-1) (by omega) (by omega),wq (a0.2.1.1-1) (by omega) (by omega),yhI,bne];rcases Nat.eq_zero_or_pos i with rfl | h0
   ·cases(leb 0 (nth a0.2.2.2.2.2.2.2.2.1 ((0:Nat):Int) (0,[])).1&&leb (nth a0.2.2.2.2.2.2.2.2.1 ((0:Nat):Int) (0,[])).1 (a0.2.1.2-1))<;>cases(((nth a0.2.2.2.2.2.2.2.2.1 ((0:Nat):Int) (0,[])).2.length:Int)==a0.2.1.1-1)<;>cases((nth a0.2.2.2.2.2.2.2.2.1 ((0:Nat):Int) (0,[])).2.all isW)<;>rfl
   ·rw[show i64.wrap ((i:Int)-1)=((i-1:Nat):Int)by rw[wr (by omega) (by omega)]; omega,zkP (show i-1<a0.2.2.2.2.2.2.2.2.1.length by omega),zkw (show(0:Int)<i by omega),decide_eq_true h0]
    cases(leb 0 (nth a0.2.2.2.2.2.2.2.2.1 (i:Int) (0,[])).1&&leb (nth a0.2.2.2.2.2.2.2.2.1 (i:Int) (0,[])).1 (a0.2.1.2-1))<;>cases(((nth a0.2.2.2.2.2.2.2.2.1 (i:Int) (0,[])).2.length:Int)==a0.2.1.1-1)<;>cases((nth a0.2.2.2.2.2.2.2.2.1 (i:Int) (0,[])).2.all isW)<;>cases leb (nth a0.2.2.2.2.2.2.2.2.1 (i:Int) (0,[])).1 (nth a0.2.2.2.2.2.2.2.2.1 ((i-1:Nat):Int) (0,[])).1<;>rfl) (by simp only[ycq,ynK,yoa,zk1 (Int.le_refl _),cond_false]) _ (by show _<18446744073709551616; omega)
 unfold yr1 ykd yaT;rw[h1];cases(List.range a0.2.2.2.2.2.2.2.2.1.length).any (yhI a0.2.1 a0.2.2.2.2.2.2.2.2.1)<;>rfl
def yo3 (a0:dA):Option (zaY yoH×zak yjK):=bif yw5 a0 then(fun n=>some ((n,()),())) (ykd a0)else none
theorem yVt (a0:dA) (h:yw5 a0=true):yo3 a0=(fun n=>some ((n,()),())) (ykd a0):=by unfold yo3; rw[h]; rfl
def yDj:Con:=⟨yjK,yoH,fun x=>yo3 x.1⟩
theorem yVf:ConOk prog 126 yDj:=(yQ5).mono (fun x r hk h=>zkW h (fun hq=>yUe x.1 hk hq))
def yZe:Code:=(f156.body).getD .skip
def yZL:Env:=zku TT [(81,yN)] []
theorem yPk:FrOk prog ⟨yZL,11,fun _=>none⟩ yZe:=zky yf yg ⟨y9,trivial⟩
abbrev yze:List Par:= [.rd tM,.rd tI]
abbrev yzF:List OT:= [⟨false,tB,.fz⟩]
def yF4 (a0:dM) (a1:Int):Option (zaY yzF×zak yze) :=let r1:=yi a1 0 (i64.wrap ((a0.1.length:Int)-1));some ((r1,()),())
theorem yUG:ConOk prog 156 ⟨yze,yzF,fun x=>yF4 x.1 x.2.1⟩:=zkG (yPk) func156 ntmps156.symm fun x=>by kernel_rfl
def ybJ (a0:dM) (a1:Int):Bool :=let r1:=yi a1 0 (i64.wrap ((a0.1.length:Int)-1));r1
def ymV:Con:=⟨yze,yzF,fun x=>(fun n=>some ((n,()),())) (ybJ x.1 x.2.1)⟩
theorem yW6 (a0:dM) (a1:Int):yF4 a0 a1=(fun n=>some ((n,()),())) (ybJ a0 a1):=zkT (p:=fun(n:Bool)=>((n,()),())) rfl
theorem yw0:ConOk prog 156 ymV:=(yUG).mono (fun x r _ h=>(yW6 x.1 x.2.1).trans h)
def y0T:Code:=(f186.body).getD .skip
def y04:Env:=zku TT [(187,ykX)] []
theorem yTi:FrOk prog ⟨y04,10,fun _=>none⟩ y0T:=zky yf yg ⟨yuR,trivial⟩
abbrev yCx:List Par:= [.rd tL]
abbrev yCI:List OT:= [⟨false,tB,.fz⟩]
def yHH (a0:List Int):Option (zaY yCI×zak yCx) :=bif(leb (a0.length:Int) 12)then let r1:=yaA a0;some ((r1,()),()) else some ((false,()),())
theorem yXA:ConOk prog 186 ⟨yCx,yCI,fun x=>yHH x.1⟩:=zkG (yTi) func186 ntmps186.symm fun x=>by kernel_rfl
def yhj (a0:List Int):Bool :=bif(leb (a0.length:Int) 12)then let r1:=yaA a0;r1 else false
def ywS:Con:=⟨yCx,yCI,fun x=>(fun n=>some ((n,()),())) (yhj x.1)⟩
theorem y0c (a0:List Int):yHH a0=(fun n=>some ((n,()),())) (yhj a0):=zkT (p:=fun(n:Bool)=>((n,()),())) (zkE (p:=fun(n:Bool)=>((n,()),())) rfl rfl)
theorem yIJ:ConOk prog 186 ywS:=(yXA).mono (fun x r _ h=>(y0c x.1).trans h)
theorem yGw:yhj=yaw:=funext fun s=>by
 unfold yhj yaw yaA;rw[show yaH=isW from funext fun x=>by unfold yaH; rw[yao,ybM]; rfl];cases leb (s.length:Int) 12<;>rfl
def ycy:Code:=(f127.body).getD .skip
def ygJ:Env:=zku TT [(81,yN),(156,ymV),(186,ywS)] []
theorem yTd:FrOk prog ⟨ygJ,76,fun _=>none⟩ ycy:=zky yf yg ⟨y9,yw0,yIJ,trivial⟩
def yGI:Nat→Option Seg:=fun _=>none
def ydm:Shape:=⟨[(1,false,[.ptr 0 0]),(10,false,[.br tL]),(11,false,[.int .i64]),(12,false,[.int .i64])],[(0,[.br tL,.br tW,.bool,.br tI])],[]⟩
def yij:Shape:=⟨[(1,false,[.ptr 0 0]),(10,false,[.br tL]),(11,false,[.int .i64]),(12,false,[.ci .i64 0])],[(0,[.br tL,.br tW,.bool,.br tI])],[]⟩
def yh5:Shape:=⟨[(1,false,[.ptr 0 0])],[(0,[.br tL,.br tW,.bool,.br tI])],[]⟩
def yiA:Shape:=⟨[(2,false,[.bool])],[],[]⟩
abbrev yrE (v0:List (List Int)) (v1 v2:Int) (v3:dM):(ydm).X:=((((),()),(v0,()),(v1,()),(v2,()),()),((v3.1,v3.2.1,v3.2.2.1,v3.2.2.2,()),()),())
abbrev yQd (v0:List (List Int)) (v1:Int) (v2:dM):(yij).X:=((((),()),(v0,()),(v1,()),((),()),()),((v2.1,v2.2.1,v2.2.2.1,v2.2.2.2,()),()),())
abbrev yP5 (v0:dM):(yh5).X:=((((),()),()),((v0.1,v0.2.1,v0.2.2.1,v0.2.2.2,()),()),())
abbrev yQr (v0:Bool):(yiA).X:=(((v0,()),()),(),())
def ysd (v0:List (List Int)) (v1 v2:Int) (v3:List (List Int)) (v4:List dW) (v5:Bool) (v6:List Int):Option ((ydm).X ⊕ ((yh5).X ⊕ (yiA).X)) :=bif(ltb v2 v1)then bif(inb v2 v0.length)then let r2:=yhj (nth v0 v2 []);bif(!r2)then some (.inr (.inr (((false,()),()),(),()))) else some (.inl ((((),()),(v0,()),(v1,()),((i64.wrap (v2+1)),()),()),((v3,v4,v5,v6,()),()),())) else none else some (.inr (.inl ((((),()),()),((v3,v4,v5,v6,()),()),())))
def ydU (x:(ydm).X):=ysd x.1.2.1.1 x.1.2.2.1.1 x.1.2.2.2.1.1 x.2.1.1.1 x.2.1.1.2.1 x.2.1.1.2.2.1 x.2.1.1.2.2.2.1
def yDy (x:(yij).X):(ydm).X:=((((),()),(x.1.2.1.1,()),(x.1.2.2.1.1,()),(0,()),()),((x.2.1.1.1,x.2.1.1.2.1,x.2.1.1.2.2.1,x.2.1.1.2.2.2.1,()),()),())
def yE5:Code:=(zeJ ycy 64 52).getD .skip
theorem ySO:zeJ ycy 64 13=some (.block 0 (.loop yE5)):=by kernel_rfl
theorem yVz (x:(ydm).X):zhu ⟨ygJ,76,yGI⟩ 0 yE5 52 ydm yh5 yiA x=ydU x:=by kernel_rfl
def yDO (x:(yij).X):Nat:=18446744073709551616
def ys6 (x:(yij).X):Option ((yh5).X ⊕ (yiA).X):=zF ydU (yDO x) (yDy x)
def yEv:Seg:=⟨yij,yh5,yiA,ys6⟩
def yv2:Nat→Option Seg:=fun q=>bif Nat.beq q 13 then some yEv else yGI q
theorem yTe:FrOk prog ⟨ygJ,76,yv2⟩ ycy:=(yTd).loop (sg:=yEv) ydm yDy (by decide) ySO ydU yDO (by decide) (fun _=>rfl) (fun x r _ h=>h) yVz
def ydn:Shape:=⟨[(1,false,[.ptr 0 0]),(21,false,[.br tW]),(22,false,[.int .i64]),(23,false,[.int .i64])],[(0,[.br tL,.br tW,.bool,.br tI])],[]⟩
def yik:Shape:=⟨[(1,false,[.ptr 0 0]),(21,false,[.br tW]),(22,false,[.int .i64]),(23,false,[.ci .i64 0])],[(0,[.br tL,.br tW,.bool,.br tI])],[]⟩
def yh6:Shape:=⟨[(1,false,[.ptr 0 0])],[(0,[.br tL,.br tW,.bool,.br tI])],[]⟩
def yiB:Shape:=⟨[(2,false,[.bool])],[],[]⟩
abbrev yrF (v0:List dW) (v1 v2:Int) (v3:dM):(ydn).X:=((((),()),(v0,()),(v1,()),(v2,()),()),((v3.1,v3.2.1,v3.2.2.1,v3.2.2.2,()),()),())
abbrev yQe (v0:List dW) (v1:Int) (v2:dM):(yik).X:=((((),()),(v0,()),(v1,()),((),()),()),((v2.1,v2.2.1,v2.2.2.1,v2.2.2.2,()),()),())
abbrev yP6 (v0:dM):(yh6).X:=((((),()),()),((v0.1,v0.2.1,v0.2.2.1,v0.2.2.2,()),()),())
abbrev yQs (v0:Bool):(yiB).X:=(((v0,()),()),(),())
def yse (v0:List dW) (v1 v2:Int) (v3:List (List Int)) (v4:List dW) (v5:Bool) (v6:List Int):Option ((ydn).X ⊕ ((yh6).X ⊕ (yiB).X)) :=bif(ltb v2 v1)then bif(inb v2 v0.length)then let r6:=ybJ (v3,v4,v5,v6) ((nth v0 v2 (0,[])).1);bif(!(!r6))then let r7:=yhj ((nth v0 v2 (0,[])).2);bif(!r7)then some (.inr (.inr (((false,()),()),(),()))) else some (.inl ((((),()),(v0,()),(v1,()),((i64.wrap (v2+1)),()),()),((v3,v4,v5,v6,()),()),())) else some (.inr (.inr (((false,()),()),(),()))) else none else some (.inr (.inl ((((),()),()),((v3,v4,v5,v6,()),()),())))
def ydV (x:(ydn).X):=yse x.1.2.1.1 x.1.2.2.1.1 x.1.2.2.2.1.1 x.2.1.1.1 x.2.1.1.2.1 x.2.1.1.2.2.1 x.2.1.1.2.2.2.1
def yDz (x:(yik).X):(ydn).X:=((((),()),(x.1.2.1.1,()),(x.1.2.2.1.1,()),(0,()),()),((x.2.1.1.1,x.2.1.1.2.1,x.2.1.1.2.2.1,x.2.1.1.2.2.2.1,()),()),())
def yE6:Code:=(zeJ ycy 64 116).getD .skip
theorem ySP:zeJ ycy 64 29=some (.block 2 (.loop yE6)):=by kernel_rfl
theorem yVA (x:(ydn).X):zhu ⟨ygJ,76,yv2⟩ 2 yE6 116 ydn yh6 yiB x=ydV x:=by kernel_rfl
def yDP (x:(yik).X):Nat:=18446744073709551616
def ys7 (x:(yik).X):Option ((yh6).X ⊕ (yiB).X):=zF ydV (yDP x) (yDz x)
def yEw:Seg:=⟨yik,yh6,yiB,ys7⟩
def yv3:Nat→Option Seg:=fun q=>bif Nat.beq q 29 then some yEw else yv2 q
theorem yTf:FrOk prog ⟨ygJ,76,yv3⟩ ycy:=(yTe).loop (sg:=yEw) ydn yDz (by decide) ySP ydV yDP (by decide) (fun _=>rfl) (fun x r _ h=>h) yVA
def ydo:Shape:=⟨[(1,false,[.ptr 0 0]),(40,false,[.br tI]),(41,false,[.int .i64]),(42,false,[.int .i64])],[(0,[.br tL,.br tW,.bool,.br tI])],[]⟩
def yil:Shape:=⟨[(1,false,[.ptr 0 0]),(40,false,[.br tI]),(41,false,[.int .i64]),(42,false,[.ci .i64 0])],[(0,[.br tL,.br tW,.bool,.br tI])],[]⟩
def yh7:Shape:=⟨[(1,false,[.ptr 0 0])],[(0,[.br tL,.br tW,.bool,.br tI])],[]⟩
def yiC:Shape:=⟨[(2,false,[.bool])],[],[]⟩
abbrev yrG (v0:List Int) (v1 v2:Int) (v3:dM):(ydo).X:=((((),()),(v0,()),(v1,()),(v2,()),()),((v3.1,v3.2.1,v3.2.2.1,v3.2.2.2,()),()),())
abbrev yQf (v0:List Int) (v1:Int) (v2:dM):(yil).X:=((((),()),(v0,()),(v1,()),((),()),()),((v2.1,v2.2.1,v2.2.2.1,v2.2.2.2,()),()),())
abbrev yP7 (v0:dM):(yh7).X:=((((),()),()),((v0.1,v0.2.1,v0.2.2.1,v0.2.2.2,()),()),())
abbrev yQt (v0:Bool):(yiC).X:=(((v0,()),()),(),())
def ysf (v0:List Int) (v1 v2:Int) (v3:List (List Int)) (v4:List dW) (v5:Bool) (v6:List Int):Option ((ydo).X ⊕ ((yh7).X ⊕ (yiC).X)) :=bif(ltb v2 v1)then bif(inb v2 v0.length)then let r10:=ybJ (v3,v4,v5,v6) (nth v0 v2 0);bif(!(!r10))then bif(ltb 0 v2)then bif(inb (i64.wrap (v2-1)) v6.length)then bif(leb (nth v0 v2 0) (nth v6 (i64.wrap (v2-1)) 0))then some (.inr (.inr (((false,()),()),(),()))) else some (.inl ((((),()),(v0,()),(v1,()),((i64.wrap (v2+1)),()),()),((v3,v4,v5,v6,()),()),())) else none else some (.inl ((((),()),(v0,()),(v1,()),((i64.wrap (v2+1)),()),()),((v3,v4,v5,v6,()),()),())) else some (.inr (.inr (((false,()),()),(),()))) else none else some (.inr (.inl ((((),()),()),((v3,v4,v5,v6,()),()),())))
def ydW (x:(ydo).X):=ysf x.1.2.1.1 x.1.2.2.1.1 x.1.2.2.2.1.1 x.2.1.1.1 x.2.1.1.2.1 x.2.1.1.2.2.1 x.2.1.1.2.2.2.1
def yDA (x:(yil).X):(ydo).X:=((((),()),(x.1.2.1.1,()),(x.1.2.2.1.1,()),(0,()),()),((x.2.1.1.1,x.2.1.1.2.1,x.2.1.1.2.2.1,x.2.1.1.2.2.2.1,()),()),())
def yE7:Code:=(zeJ ycy 64 244).getD .skip
theorem ySQ:zeJ ycy 64 61=some (.block 4 (.loop yE7)):=by kernel_rfl
theorem yVB (x:(ydo).X):zhu ⟨ygJ,76,yv3⟩ 4 yE7 244 ydo yh7 yiC x=ydW x:=by kernel_rfl
def yDQ (x:(yil).X):Nat:=18446744073709551616
def ys8 (x:(yil).X):Option ((yh7).X ⊕ (yiC).X):=zF ydW (yDQ x) (yDA x)
def yEx:Seg:=⟨yil,yh7,yiC,ys8⟩
def yWa:Nat→Option Seg:=fun q=>bif Nat.beq q 61 then some yEx else yv3 q
theorem yTg:FrOk prog ⟨ygJ,76,yWa⟩ ycy:=(yTf).loop (sg:=yEx) ydo yDA (by decide) ySQ ydW yDQ (by decide) (fun _=>rfl) (fun x r _ h=>h) yVB
abbrev ytl:List Par:= [.rd tM]
abbrev yCG:List OT:= [⟨false,tB,.fz⟩]
def yxb (a0:dM):Option (zaY yCG×zak ytl) :=zkr (ys6 ((((),()),(a0.1,()),((a0.1.length:Int),()),((),()),()),((a0.1,a0.2.1,a0.2.2.1,a0.2.2.2,()),()),())) (fun y2 =>zkr (ys7 ((((),()),(y2.2.1.1.2.1,()),((y2.2.1.1.2.1.length:Int),()),((),()),()),((y2.2.1.1.1,y2.2.1.1.2.1,y2.2.1.1.2.2.1,y2.2.1.1.2.2.2.1,()),()),())) (fun y7 =>zkr (ys8 ((((),()),(y7.2.1.1.2.2.2.1,()),((y7.2.1.1.2.2.2.1.length:Int),()),((),()),()),((y7.2.1.1.1,y7.2.1.1.2.1,y7.2.1.1.2.2.1,y7.2.1.1.2.2.2.1,()),()),())) (fun y10 =>let r12:=yi (y10.2.1.1.1.length:Int) 1 20;bif r12 then some (((leb (y10.2.1.1.2.1.length:Int) 60),()),()) else some ((false,()),())) (fun y10 =>some ((y10.1.1.1,()),()))) (fun y7 =>some ((y7.1.1.1,()),()))) (fun y2 =>some ((y2.1.1.1,()),()))
theorem yXy:ConOk prog 127 ⟨ytl,yCG,fun x=>yxb x.1⟩:=zkG (yTg) func127 ntmps127.symm fun x=>by kernel_rfl
def yav (a0:dM):Bool:=yw a0
theorem y0a (a0:dM) (hk:zjw ytl (a0,())):yxb a0=(fun n=>some ((n,()),())) (yav a0):=by
 have hb1:a0.1.length*24≤2^47:=hk.1.1.1;have hb2:a0.2.1.length*32≤2^47:=hk.1.2.1.1;have hb3:a0.2.2.2.length*8≤2^47:=hk.1.2.2.2.1
 have h1:ys6 (yQd a0.1 a0.1.length a0)=some (bif a0.1.all yaw then .inl (yP5 a0)else .inr (yQr false)) :=
  zj7 (step:=ydU) a0.1 [] (fun i=>yrE a0.1 a0.1.length i a0) yaw _ _ (fun i hi=>by
   simp only[ydU,yrE,ysd,zkw (show(i:Int)<a0.1.length by omega),cond_true,wq ((i:Int)+1) (by omega) (by omega),Int.natCast_add,Int.natCast_one,Int.toNat_natCast,zkP hi,zkQ,yGw]
   cases yaw (a0.1.getD i [])<;>rfl) (by simp only[ydU,yrE,ysd,zk1 (Int.le_refl _),cond_false]) _ (by show _<18446744073709551616; omega)
 have h2:ys7 (yQe a0.2.1 a0.2.1.length a0)=some (bif a0.2.1.all (ysq a0.1.length)then .inl (yP6 a0)else .inr (yQs false)) :=
  zj7 (step:=ydV) a0.2.1 (0,[]) (fun i=>yrF a0.2.1 a0.2.1.length i a0) (ysq a0.1.length) _ _ (fun i hi=>by
   simp only[ydV,yrF,yse,zkw (show(i:Int)<a0.2.1.length by omega),cond_true,wq ((i:Int)+1) (by omega) (by omega),Int.natCast_add,Int.natCast_one,Int.toNat_natCast,zkP hi,zkQ,yGw,ybJ,yao,ynA (show a0.1.length≤1152921504606846976 by omega),ysq]
   cases inb (a0.2.1.getD i (0,[])).1 a0.1.length<;>cases yaw (a0.2.1.getD i (0,[])).2<;>rfl) (by simp only[ydV,yrF,yse,zk1 (Int.le_refl _),cond_false]) _ (by show _<18446744073709551616; omega)
 have h3:ys8 (yQf a0.2.2.2 a0.2.2.2.length a0)=some (bif(List.range a0.2.2.2.length).any (yE3 a0.1.length a0.2.2.2)then .inr (yQt false)else .inl (yP7 a0)) :=
  zjh (step:=ydW) (fun i=>yrG a0.2.2.2 a0.2.2.2.length i a0) a0.2.2.2.length (yE3 a0.1.length a0.2.2.2) _ _ (fun i hi=>by
   simp only[ydW,yrG,ysf,zkw (show(i:Int)<a0.2.2.2.length by omega),cond_true,wq ((i:Int)+1) (by omega) (by omega),Int.natCast_add,Int.natCast_one,Int.toNat_natCast,zkP hi,zkQ,ybJ,yao,ynA (show a0.1.length≤1152921504606846976 by omega),yE3];rcases Nat.eq_zero_or_pos i with rfl | h0
   ·cases inb (a0.2.2.2.getD 0 0) a0.1.length<;>rfl
   ·rw[show i64.wrap ((i:Int)-1)=((i-1:Nat):Int)by rw[wr (by omega) (by omega)]; omega,zkP (show i-1<a0.2.2.2.length by omega),zkQ,zkw (show(0:Int)<i by omega),decide_eq_true h0]
    cases inb (a0.2.2.2.getD i 0) a0.1.length<;>cases leb (a0.2.2.2.getD i 0) (a0.2.2.2.getD (i-1) 0)<;>rfl) (by simp only[ydW,yrG,ysf,zk1 (Int.le_refl _),cond_false]) _ (by show _<18446744073709551616; omega)
 unfold yxb yav yw;rw[h1];cases a0.1.all yaw
 ·rfl
 simp only[cond_true,zkL,h2];cases a0.2.1.all (ysq a0.1.length)
 ·rfl
 simp only[cond_true,zkL,h3,yYs,yao,ybM];cases yoP a0.1.length a0.2.2.2
 ·rfl
 simp only[Bool.not_true,cond_false,zkL];cases leb 1 (a0.1.length:Int)<;>cases leb (a0.1.length:Int) 20<;>rfl
def yeA:Con:=⟨ytl,yCG,fun x=>(fun n=>some ((n,()),())) (yav x.1)⟩
theorem yhQ:ConOk prog 127 yeA:=(yXy).mono (fun x r hk h=>(y0a x.1 hk).trans h)
def yVX:Code:=(f128.body).getD .skip
def yWo:Env:=zku TT [] []
theorem yMK:FrOk prog ⟨yWo,6,fun _=>none⟩ yVX:=zky yf yg trivial
abbrev ywn:List Par:= [.rd tG]
abbrev ywE:List OT:= [⟨false,tI,.fz⟩]
def yEp (a0:dG):Option (zaY ywE×zak ywn) :=some (((i64.wrap (6+a0.2)),()),())
theorem yQ6:ConOk prog 128 ⟨ywn,ywE,fun x=>yEp x.1⟩:=zkG (yMK) func128 ntmps128.symm fun x=>by kernel_rfl
def yoV (a0:dG):Int :=(i64.wrap (6+a0.2))
def yDk:Con:=⟨ywn,ywE,fun x=>(fun n=>some ((n,()),())) (yoV x.1)⟩
theorem yUf (a0:dG):yEp a0=(fun n=>some ((n,()),())) (yoV a0):=zkT (p:=fun(n:Int)=>((n,()),())) rfl
theorem yVg:ConOk prog 128 yDk:=(yQ6).mono (fun x r _ h=>(yUf x.1).trans h)
def ysJ:Code:=(f55.body).getD .skip
def yCl:Env:=zku TT [(81,yN),(123,ygy),(125,yud),(126,yDj),(127,yeA),(128,yDk)] []
theorem yTa:FrOk prog ⟨yCl,103,fun _=>none⟩ ysJ:=zky yf yg ⟨y9,ylI,yHt,yVf,yhQ,yVg,trivial⟩
def yGH:Nat→Option Seg:=fun _=>none
def ydl:Shape:=⟨[(1,false,[.ptr 0 0]),(41,false,[.br tM]),(42,false,[.int .i64]),(43,false,[.int .i64])],[(0,[.int .i64,.int .i64,.int .i64,.br tM,.int .i64,.int .i64,.int .i64,.int .i64,.int .i64,.br tW,.int .i64,.bool,.bool])],[]⟩
def yii:Shape:=⟨[(1,false,[.ptr 0 0]),(41,false,[.br tM]),(42,false,[.int .i64]),(43,false,[.ci .i64 0])],[(0,[.int .i64,.int .i64,.int .i64,.br tM,.int .i64,.int .i64,.int .i64,.int .i64,.int .i64,.br tW,.int .i64,.bool,.bool])],[]⟩
def yh4:Shape:=⟨[(1,false,[.ptr 0 0])],[(0,[.int .i64,.int .i64,.int .i64,.br tM,.int .i64,.int .i64,.int .i64,.int .i64,.int .i64,.br tW,.int .i64,.bool,.bool])],[]⟩
def yiw:Shape:=⟨[(2,false,[.bool])],[],[]⟩
abbrev yrD (v0:List dM) (v1 v2:Int) (v3:dA):(ydl).X:=((((),()),(v0,()),(v1,()),(v2,()),()),((v3.1,v3.2.1.1,v3.2.1.2,v3.2.2.1,v3.2.2.2.1,v3.2.2.2.2.1,v3.2.2.2.2.2.1,v3.2.2.2.2.2.2.1,v3.2.2.2.2.2.2.2.1,v3.2.2.2.2.2.2.2.2.1,v3.2.2.2.2.2.2.2.2.2.1,v3.2.2.2.2.2.2.2.2.2.2.1,v3.2.2.2.2.2.2.2.2.2.2.2,()),()),())
abbrev yQc (v0:List dM) (v1:Int) (v2:dA):(yii).X:=((((),()),(v0,()),(v1,()),((),()),()),((v2.1,v2.2.1.1,v2.2.1.2,v2.2.2.1,v2.2.2.2.1,v2.2.2.2.2.1,v2.2.2.2.2.2.1,v2.2.2.2.2.2.2.1,v2.2.2.2.2.2.2.2.1,v2.2.2.2.2.2.2.2.2.1,v2.2.2.2.2.2.2.2.2.2.1,v2.2.2.2.2.2.2.2.2.2.2.1,v2.2.2.2.2.2.2.2.2.2.2.2,()),()),())
abbrev yP4 (v0:dA):(yh4).X:=((((),()),()),((v0.1,v0.2.1.1,v0.2.1.2,v0.2.2.1,v0.2.2.2.1,v0.2.2.2.2.1,v0.2.2.2.2.2.1,v0.2.2.2.2.2.2.1,v0.2.2.2.2.2.2.2.1,v0.2.2.2.2.2.2.2.2.1,v0.2.2.2.2.2.2.2.2.2.1,v0.2.2.2.2.2.2.2.2.2.2.1,v0.2.2.2.2.2.2.2.2.2.2.2,()),()),())
abbrev yQq (v0:Bool):(yiw).X:=(((v0,()),()),(),())
def ysc (v0:List dM) (v1 v2 v3 v4 v5:Int) (v6:List dM) (v7 v8 v9 v10 v11:Int) (v12:List dW) (v13:Int) (v14 v15:Bool):Option ((ydl).X ⊕ ((yh4).X ⊕ (yiw).X)) :=bif(ltb v2 v1)then bif(inb v2 v0.length)then let r7:=yav ((nth v0 v2 ([],[],false,[])).1,((nth v0 v2 ([],[],false,[])).2).1,(((nth v0 v2 ([],[],false,[])).2).2));bif(!(!r7))then let r8:=yoV (v4,v5);bif(!((((nth v0 v2 ([],[],false,[])).1).length:Int) !=r8))then bif(((nth v0 v2 ([],[],false,[])).2).2).1 then bif(v7 !=v2)then bif(!v15)then some (.inr (.inr (((false,()),()),(),()))) else some (.inl ((((),()),(v0,()),(v1,()),((i64.wrap (v2+1)),()),()),((v3,v4,v5,v6,v7,v8,v9,v10,v11,v12,v13,v14,v15,()),()),())) else some (.inl ((((),()),(v0,()),(v1,()),((i64.wrap (v2+1)),()),()),((v3,v4,v5,v6,v7,v8,v9,v10,v11,v12,v13,v14,v15,()),()),())) else some (.inl ((((),()),(v0,()),(v1,()),((i64.wrap (v2+1)),()),()),((v3,v4,v5,v6,v7,v8,v9,v10,v11,v12,v13,v14,v15,()),()),())) else some (.inr (.inr (((false,()),()),(),()))) else some (.inr (.inr (((false,()),()),(),()))) else none else some (.inr (.inl ((((),()),()),((v3,v4,v5,v6,v7,v8,v9,v10,v11,v12,v13,v14,v15,()),()),())))
def ydT (x:(ydl).X):=ysc x.1.2.1.1 x.1.2.2.1.1 x.1.2.2.2.1.1 x.2.1.1.1 x.2.1.1.2.1 x.2.1.1.2.2.1 x.2.1.1.2.2.2.1 x.2.1.1.2.2.2.2.1 x.2.1.1.2.2.2.2.2.1 x.2.1.1.2.2.2.2.2.2.1 x.2.1.1.2.2.2.2.2.2.2.1 x.2.1.1.2.2.2.2.2.2.2.2.1 x.2.1.1.2.2.2.2.2.2.2.2.2.1 x.2.1.1.2.2.2.2.2.2.2.2.2.2.1 x.2.1.1.2.2.2.2.2.2.2.2.2.2.2.1 x.2.1.1.2.2.2.2.2.2.2.2.2.2.2.2.1
def yDx (x:(yii).X):(ydl).X:=((((),()),(x.1.2.1.1,()),(x.1.2.2.1.1,()),(0,()),()),((x.2.1.1.1,x.2.1.1.2.1,x.2.1.1.2.2.1,x.2.1.1.2.2.2.1,x.2.1.1.2.2.2.2.1,x.2.1.1.2.2.2.2.2.1,x.2.1.1.2.2.2.2.2.2.1,x.2.1.1.2.2.2.2.2.2.2.1,x.2.1.1.2.2.2.2.2.2.2.2.1,x.2.1.1.2.2.2.2.2.2.2.2.2.1,x.2.1.1.2.2.2.2.2.2.2.2.2.2.1,x.2.1.1.2.2.2.2.2.2.2.2.2.2.2.1,x.2.1.1.2.2.2.2.2.2.2.2.2.2.2.2.1,()),()),())
def yE4:Code:=(zeJ ysJ 64 116).getD .skip
theorem ySN:zeJ ysJ 64 29=some (.block 0 (.loop yE4)):=by kernel_rfl
theorem yVy (x:(ydl).X):zhu ⟨yCl,103,yGH⟩ 0 yE4 116 ydl yh4 yiw x=ydT x:=by kernel_rfl
def yDN (x:(yii).X):Nat:=18446744073709551616
def ys5 (x:(yii).X):Option ((yh4).X ⊕ (yiw).X):=zF ydT (yDN x) (yDx x)
def yEu:Seg:=⟨yii,yh4,yiw,ys5⟩
def yV9:Nat→Option Seg:=fun q=>bif Nat.beq q 29 then some yEu else yGH q
theorem yTb:FrOk prog ⟨yCl,103,yV9⟩ ysJ:=(yTa).loop (sg:=yEu) ydl yDx (by decide) ySN ydT yDN (by decide) (fun _=>rfl) (fun x r _ h=>h) yVy
abbrev ytk:List Par:= [.rd tA]
abbrev yCE:List OT:= [⟨false,tB,.fz⟩]
def yxa (a0:dA):Option (zaY yCE×zak ytk) :=let r1:=ybG a0.2.1;bif(!(!r1))then bif(!((a0.2.2.1.length:Int) !=a0.2.1.1))then let r2:=yi a0.1 1 60000;bif(!(!r2))then let r3:=yfN a0.2.1 a0.2.2.2.1 a0.2.2.2.2.1;bif(!(!r3))then bnd (yo3 a0) fun r4 =>bif(!r4.1.1)then some ((false,()),()) else zkr (ys5 ((((),()),(a0.2.2.1,()),((a0.2.2.1.length:Int),()),((),()),()),((a0.1,a0.2.1.1,a0.2.1.2,a0.2.2.1,a0.2.2.2.1,a0.2.2.2.2.1,a0.2.2.2.2.2.1,a0.2.2.2.2.2.2.1,a0.2.2.2.2.2.2.2.1,a0.2.2.2.2.2.2.2.2.1,a0.2.2.2.2.2.2.2.2.2.1,a0.2.2.2.2.2.2.2.2.2.2.1,a0.2.2.2.2.2.2.2.2.2.2.2,()),()),())) (fun y8 =>let r10:=yi y8.2.1.1.2.2.2.2.2.2.1 0 60000;bif r10 then let r11:=yi y8.2.1.1.2.2.2.2.2.2.2.1 0 60000;bif r11 then let r12:=yi y8.2.1.1.2.2.2.2.2.2.2.2.1 0 60000;bif r12 then let r13:=yi (i64.wrap (y8.2.1.1.2.2.2.2.2.2.1-y8.2.1.1.2.2.2.2.2.2.2.1)) 0 4;bif r13 then let r14:=yi y8.2.1.1.2.2.2.2.2.2.2.2.2.2.1 (-1) 1000;some ((r14,()),()) else some ((false,()),()) else some ((false,()),()) else some ((false,()),()) else some ((false,()),())) (fun y8 =>some ((y8.1.1.1,()),())) else some ((false,()),()) else some ((false,()),()) else some ((false,()),()) else some ((false,()),())
theorem yXw:ConOk prog 55 ⟨ytk,yCE,fun x=>yxa x.1⟩:=zkG (yTb) func55 ntmps55.symm fun x=>by kernel_rfl
theorem y5b {S T G F z TS le:Bool} (h1:T=true→TS=true→S=true) (h2:S=true→T=true→z=(TS&&le)) :
  (bif S then bif T then bif G then bif z then some ((F,()),())else some ((false,()),())else some ((false,()),())else some ((false,()),())else some ((false,()),()))=some (((T&&(TS&&(le&&(G&&F)))),()),()):=by
 cases S
 ·cases T
  ·rfl
  ·cases TS
   ·rfl
   ·exact absurd (h1 rfl rfl) Bool.false_ne_true
 ·cases T
  ·cases G<;>rfl
  ·rw[h2 rfl rfl]
   cases TS<;>cases le<;>cases G<;>rfl
def yO (a0:dA):Bool:=yal a0
theorem yZ8 (a0:dA) (hk:zjw ytk (a0,())):yxa a0=(fun n=>some ((n,()),())) (yO a0):=by
 have hb:a0.2.2.1.length*80≤2^47:=hk.1.2.2.1.1;unfold yxa yO yal;simp only[yKA,yao,ybM];cases hg:yd a0.2.1
 ·rfl
 have hg2:=yl.1 hg
 have h1:ys5 (yQc a0.2.2.1 a0.2.2.1.length a0)=some (bif(List.range a0.2.2.1.length).any (yhg a0)then .inr (yQq false)else .inl (yP4 a0)) :=
  zjh (step:=ydT) (fun i=>yrD a0.2.2.1 a0.2.2.1.length i a0) a0.2.2.1.length (yhg a0) _ _ (fun i hi=>by
   simp only[ydT,yrD,ysc,zkw (show(i:Int)<a0.2.2.1.length by omega),cond_true,wq ((i:Int)+1) (by omega) (by omega),Int.natCast_add,Int.natCast_one,Int.toNat_natCast,zkP hi,zkV,yav,yhg,yoV,wq (6+a0.2.1.2) (by omega) (by omega),yc];rw[show(a0.2.2.2.1 !=(i:Int))=((i:Int) !=a0.2.2.2.1)from bne_comm]
   cases yw (nth a0.2.2.1 i ([],[],false,[]))<;>cases(((nth a0.2.2.1 i ([],[],false,[])).1.length:Int) !=6+a0.2.1.2)<;>cases(nth a0.2.2.1 i ([],[],false,[])).2.2.1<;>cases((i:Int) !=a0.2.2.2.1)<;>cases a0.2.2.2.2.2.2.2.2.2.2.2<;>rfl) (by simp only[ydT,yrD,ysc,zk1 (Int.le_refl _),cond_false]) _ (by show _<18446744073709551616; omega)
 rw[yVt a0 hg,h1];simp only[zkF,ykd,yfN,yao,ybM,wq (a0.2.1.1-1) (by omega) (by omega),ylu]
 have hw:(leb 0 a0.2.2.2.2.2.1&&leb a0.2.2.2.2.2.1 60000)=true→(leb 0 a0.2.2.2.2.2.2.1&&leb a0.2.2.2.2.2.2.1 60000)=true→i64.wrap (a0.2.2.2.2.2.1-a0.2.2.2.2.2.2.1)=a0.2.2.2.2.2.1-a0.2.2.2.2.2.2.1:=fun h h'=>by
  rw[Bool.and_eq_true,zj5,zj5]at h h';exact wr (by omega) (by omega)
 simp only[bne,Bool.not_not,cond_true,Bool.true_and]
 have h2:(leb 0 a0.2.2.2.2.2.1&&leb a0.2.2.2.2.2.1 60000)=true→(leb 0 a0.2.2.2.2.2.2.1&&leb a0.2.2.2.2.2.2.1 60000)=true→(leb 0 (i64.wrap (a0.2.2.2.2.2.1-a0.2.2.2.2.2.2.1))&&leb (i64.wrap (a0.2.2.2.2.2.1-a0.2.2.2.2.2.2.1)) 4)=((leb a0.2.2.2.2.2.2.1 a0.2.2.2.2.2.1&&leb a0.2.2.2.2.2.1 60000)&&leb a0.2.2.2.2.2.1 (a0.2.2.2.2.2.2.1+4)):=fun h h'=>by
  rw[hw h h',Bool.eq_iff_iff];simp only[Bool.and_eq_true,zj5]at h h' ⊢;omega
 have h3:(leb 0 a0.2.2.2.2.2.2.1&&leb a0.2.2.2.2.2.2.1 60000)=true→(leb a0.2.2.2.2.2.2.1 a0.2.2.2.2.2.1&&leb a0.2.2.2.2.2.1 60000)=true→(leb 0 a0.2.2.2.2.2.1&&leb a0.2.2.2.2.2.1 60000)=true:=fun h h'=>by
  simp only[Bool.and_eq_true,zj5]at h h' ⊢;omega
 cases((a0.2.2.1.length:Int)==a0.2.1.1)
 ·cases(leb 1 a0.1&&leb a0.1 60000)<;>cases(List.range a0.2.2.1.length).any (yhg a0)<;>rfl
 cases(leb 1 a0.1&&leb a0.1 60000)
 ·rfl
 cases(leb (-1) a0.2.2.2.1&&leb a0.2.2.2.1 (a0.2.1.1-1))
 ·cases(List.range a0.2.2.1.length).any (yhg a0)<;>cases yaT a0.2.1 a0.2.2.2.2.2.2.2.2.1<;>rfl
 cases(leb 0 a0.2.2.2.2.1&&leb a0.2.2.2.2.1 a0.2.1.2)
 ·cases(List.range a0.2.2.1.length).any (yhg a0)<;>cases yaT a0.2.1 a0.2.2.2.2.2.2.2.2.1<;>rfl
 cases yaT a0.2.1 a0.2.2.2.2.2.2.2.2.1
 ·cases(List.range a0.2.2.1.length).any (yhg a0)<;>cases(a0.2.2.2.1== -1)<;>cases(a0.2.2.2.2.1==0)<;>rfl
 cases(List.range a0.2.2.1.length).any (yhg a0)
 ·cases(a0.2.2.2.1== -1)<;>cases(a0.2.2.2.2.1==0)
  case true.false=>rfl
  all_goals exact y5b h3 h2
 ·cases(a0.2.2.2.1== -1)<;>cases(a0.2.2.2.2.1==0)<;>rfl
def yez:Con:=⟨ytk,yCE,fun x=>(fun n=>some ((n,()),())) (yO x.1)⟩
theorem yhP:ConOk prog 55 yez:=(yXw).mono (fun x r hk h=>(yZ8 x.1 hk).trans h)
def yhS:Code:=(f201.body).getD .skip
def yna:Env:=zku TT [] []
theorem yHf:FrOk prog ⟨yna,19,fun _=>none⟩ yhS:=zky yf yg trivial
def ysU:Nat→Option Seg:=fun _=>none
def yaL:Shape:=⟨[(0,false,[.br tI]),(1,false,[.int .i64]),(7,false,[.int .i64]),(8,false,[.int .i64])],[],[]⟩
def yc2:Shape:=⟨[(0,false,[.br tI]),(1,false,[.int .i64]),(7,false,[.int .i64]),(8,false,[.ci .i64 0])],[],[]⟩
def ycZ:Shape:=⟨[],[],[]⟩
def yc4:Shape:=⟨[(4,false,[.int .i64])],[],[]⟩
abbrev yjc (v0:List Int) (v1 v2 v3:Int):(yaL).X:=(((v0,()),(v1,()),(v2,()),(v3,()),()),(),())
abbrev yGA (v0:List Int) (v1 v2:Int):(yc2).X:=(((v0,()),(v1,()),(v2,()),((),()),()),(),())
abbrev yGx  :(ycZ).X:=((),(),())
abbrev yqw (v0:Int):(yc4).X:=(((v0,()),()),(),())
def yjh (v0:List Int) (v1 v2 v3:Int):Option ((yaL).X ⊕ ((ycZ).X ⊕ (yc4).X)) :=bif(ltb v3 v2)then bif(inb v3 v0.length)then bif(v1==(nth v0 v3 0))then some (.inr (.inr (((v3,()),()),(),()))) else some (.inl (((v0,()),(v1,()),(v2,()),((i64.wrap (v3+1)),()),()),(),())) else none else some (.inr (.inl ((),(),())))
def yaV (x:(yaL).X):=yjh x.1.1.1 x.1.2.1.1 x.1.2.2.1.1 x.1.2.2.2.1.1
def yqo (x:(yc2).X):(yaL).X:=(((x.1.1.1,()),(x.1.2.1.1,()),(x.1.2.2.1.1,()),(0,()),()),(),())
def yst:Code:=(zeJ yhS 64 52).getD .skip
theorem yGV:zeJ yhS 64 13=some (.block 0 (.loop yst)):=by kernel_rfl
theorem yHD (x:(yaL).X):zhu ⟨yna,19,ysU⟩ 0 yst 52 yaL ycZ yc4 x=yaV x:=by kernel_rfl
def yqr (x:(yc2).X):Nat:=18446744073709551616
def yjH (x:(yc2).X):Option ((ycZ).X ⊕ (yc4).X):=zF yaV (yqr x) (yqo x)
def yqB:Seg:=⟨yc2,ycZ,yc4,yjH⟩
def yHP:Nat→Option Seg:=fun q=>bif Nat.beq q 13 then some yqB else ysU q
theorem yHg:FrOk prog ⟨yna,19,yHP⟩ yhS:=(yHf).loop (sg:=yqB) yaL yqo (by decide) yGV yaV yqr (by decide) (fun _=>rfl) (fun x r _ h=>h) yHD
abbrev yh0:List Par:= [.rd tL,.rd tI]
abbrev ynq:List OT:= [⟨false,tI,.fz⟩]
def yk9 (a0:List Int) (a1:Int):Option (zaY ynq×zak yh0) :=zkr (yjH (((a0,()),(a1,()),((a0.length:Int),()),((),()),()),(),())) (fun y0 =>some (((-1),()),())) (fun y0 =>some ((y0.1.1.1,()),()))
theorem yIk:ConOk prog 201 ⟨yh0,ynq,fun x=>yk9 x.1 x.2.1⟩:=zkG (yHg) func201 ntmps201.symm fun x=>by kernel_rfl
def yWS (l:List Int) (x:Int):Int:=bif l.any (· ==x)then((l.takeWhile (· !=x)).length:Int)else -1
def yfe (a0:List Int) (a1:Int):Int:=yWS a0 a1
theorem y3c {A B α:Type} {step:A→Option (A ⊕ B)} (l:List α) (d:α) (f:Nat→A) (p:α→Bool) (b:Nat→B) (c:B)
  (h: ∀i,i<l.length→step (f i)=some (bif p (l.getD i d)then .inr (b i)else .inl (f (i+1)))) (e:step (f l.length)=some (.inr c)) (fuel:Nat) (hf:l.length<fuel) :
  zF step fuel (f 0)=some (bif l.any p then b (l.takeWhile (fun x=> !p x)).length else c):=by
 have: ∀(t q:List α) (fuel:Nat),q++t=l→t.length<fuel→zF step fuel (f q.length)=some (bif t.any p then b (q.length+(t.takeWhile (fun x=> !p x)).length)else c):=by
  intro t
  induction t with
  | nil =>
   intro q fuel hq hf;obtain⟨fuel,rfl⟩: ∃m,fuel=m+1:=⟨fuel-1,by omega⟩;rw[List.append_nil]at hq;subst hq;simp only[zF,e,List.any_nil,cond_false]
  | cons x t ih =>
   intro q fuel hq hf;obtain⟨fuel,rfl⟩: ∃m,fuel=m+1:=⟨fuel-1,by omega⟩
   have hx:l.getD q.length d=x:=by
    subst hq;rw[zkH (by simp)]; simp
   have hs:=h q.length (by rw[← hq]; simp);rw[hx]at hs;cases hp:p x
   ·rw[hp]at hs
    have:=ih (q++ [x]) fuel (by rw[← hq]; simp) (by simp at hf; omega);simp only[List.length_append,List.length_cons,List.length_nil]at this;simp only[zF,hs,cond_false];simp only[List.any_cons,hp,Bool.false_or,List.takeWhile_cons,Bool.not_false,if_true,List.length_cons];rw[show q.length+((t.takeWhile (fun x=> !p x)).length+1)=q.length+(0+1)+(t.takeWhile (fun x=> !p x)).length by omega];exact this
   ·rw[hp]at hs
    simp only[zF,hs,cond_true,List.any_cons,hp,Bool.true_or,List.takeWhile_cons,Bool.not_true,Bool.false_eq_true,if_false,List.length_nil,Nat.add_zero]
 have:=this l [] fuel rfl hf;simpa using this
theorem yJk (a0:List Int) (a1:Int) (hk:zjw yh0 (a0,a1,())):yk9 a0 a1=(fun n=>some ((n,()),())) (yfe a0 a1):=by
 have hb:a0.length*8≤2^47:=hk.1.1
 have h1:yjH (yGA a0 a1 a0.length)=some (bif a0.any (· ==a1)then .inr (yqw ((a0.takeWhile (fun x=> !(x==a1))).length:Int))else .inl yGx) :=
  y3c (step:=yaV) a0 0 (fun i=>yjc a0 a1 a0.length i) (· ==a1) (fun i=> .inr (yqw (i:Int))) _ (fun i hi=>by
   simp only[yaV,yjc,yjh,zkw (show(i:Int)<a0.length by omega),cond_true,wq ((i:Int)+1) (by omega) (by omega),Int.natCast_add,Int.natCast_one,Int.toNat_natCast,zkP hi,zkQ];rw[show(a1==a0.getD i 0)=(a0.getD i 0==a1)by rw[Bool.eq_iff_iff,beq_iff_eq,beq_iff_eq]; exact eq_comm]
   cases(a0.getD i 0==a1)<;>rfl) (by simp only[yaV,yjc,yjh,zk1 (Int.le_refl _),cond_false]) _ (by show _<18446744073709551616; omega)
 unfold yk9 yfe yWS;rw[h1];cases a0.any (· ==a1)<;>rfl
def yuf:Con:=⟨yh0,ynq,fun x=>(fun n=>some ((n,()),())) (yfe x.1 x.2.1)⟩
theorem yJt:ConOk prog 201 yuf:=(yIk).mono (fun x r hk h=>(yJk x.1 x.2.1 hk).trans h)
def yGG:Code:=(f157.body).getD .skip
def yGT:Env:=zku TT [(201,yuf)] []
theorem yDM:FrOk prog ⟨yGT,9,fun _=>none⟩ yGG:=zky yf yg ⟨yJt,trivial⟩
abbrev yfo:List Par:= [.rd tL,.rd tI]
abbrev yjZ:List OT:= [⟨false,tB,.fz⟩]
def yhG (a0:List Int) (a1:Int):Option (zaY yjZ×zak yfo) :=let r1:=yfe a0 a1;some (((leb 0 r1),()),())
theorem yEN:ConOk prog 157 ⟨yfo,yjZ,fun x=>yhG x.1 x.2.1⟩:=zkG (yDM) func157 ntmps157.symm fun x=>by kernel_rfl
def yc6 (a0:List Int) (a1:Int):Bool:=a0.any (· ==a1)
theorem yGC (a0:List Int) (a1:Int) (hk:zjw yfo (a0,a1,())):yhG a0 a1=(fun n=>some ((n,()),())) (yc6 a0 a1):=by
 unfold yhG yc6 yfe yWS;cases a0.any (· ==a1)
 ·rfl
 ·simp only[cond_true]
  rw[zk0 (show(0:Int)≤((a0.takeWhile (· !=a1)).length:Int)by omega)]
def yo9:Con:=⟨yfo,yjZ,fun x=>(fun n=>some ((n,()),())) (yc6 x.1 x.2.1)⟩
theorem yGD:ConOk prog 157 yo9:=(yEN).mono (fun x r hk h=>(yGC x.1 x.2.1 hk).trans h)
def yR7:Code:=(f158.body).getD .skip
def ySB:Env:=zku TT [] []
theorem yKg:FrOk prog ⟨ySB,6,fun _=>none⟩ yR7:=zky yf yg trivial
abbrev ymy:List Par:= [.rd tL]
abbrev ytK:List OT:= [⟨false,tL,(.ow .fz)⟩]
def ypZ (a0:List Int):Option (zaY ytK×zak ymy) :=bif(zkj ([]:List Int).length a0.length 8)then some (((([]:List Int)++a0),()),()) else none
theorem yNH:ConOk prog 158 ⟨ymy,ytK,fun x=>ypZ x.1⟩:=zkG (yKg) func158 ntmps158.symm fun x=>by kernel_rfl
def yx (a0:List Int):List Int:=a0
theorem yQI (a0:List Int) (hk:zjw ymy (a0,())):ypZ a0=(fun n=>some ((n,()),())) (yx a0):=by
 have hb:a0.length*8≤2^47:=hk.1.1;unfold ypZ yx;rw[show zkj ([]:List Int).length a0.length 8=true by rw[zkD,List.length_nil]; omega];rfl
def yaG:Con:=⟨ymy,ytK,fun x=>(fun n=>some ((n,()),())) (yx x.1)⟩
theorem ybH:ConOk prog 158 yaG:=(yNH).mono (fun x r hk h=>(yQI x.1 hk).trans h)
def yom:Code:=(f87.body).getD .skip
def yv9:Env:=zku TT [(127,yeA),(156,ymV),(157,yo9),(158,yaG)] []
theorem yMz:FrOk prog ⟨yv9,49,fun _=>none⟩ yom:=zky yf yg ⟨yhQ,yw0,yGD,ybH,trivial⟩
def yCa:Nat→Option Seg:=fun _=>none
def yb1:Shape:=⟨[(1,false,[.int .i64]),(6,false,[.br tI]),(34,false,[.br tW]),(35,false,[.int .i64]),(36,false,[.int .i64])],[],[]⟩
def yf6:Shape:=⟨[(1,false,[.int .i64]),(6,false,[.br tI]),(34,false,[.br tW]),(35,false,[.int .i64]),(36,false,[.ci .i64 0])],[],[]⟩
def yfT:Shape:=⟨[(6,false,[.br tI])],[],[]⟩
def yjr:Shape:=⟨[],[],[]⟩
abbrev ynG (v0:Int) (v1:List Int) (v2:List dW) (v3 v4:Int):(yb1).X:=(((v0,()),(v1,()),(v2,()),(v3,()),(v4,()),()),(),())
abbrev yKR (v0:Int) (v1:List Int) (v2:List dW) (v3:Int):(yf6).X:=(((v0,()),(v1,()),(v2,()),(v3,()),((),()),()),(),())
abbrev yyx (v0:List Int):(yfT).X:=(((v0,()),()),(),())
def yn6 (v0:Int) (v1:List Int) (v2:List dW) (v3 v4:Int):Option ((yb1).X ⊕ ((yfT).X ⊕ (yjr).X)) :=bif(ltb v4 v3)then bif(inb v4 v2.length)then bif((nth v2 v4 (0,[])).1==v0)then some (.inl (((v0,()),((nth v2 v4 (0,[])).2,()),(v2,()),(v3,()),((i64.wrap (v4+1)),()),()),(),())) else some (.inl (((v0,()),(v1,()),(v2,()),(v3,()),((i64.wrap (v4+1)),()),()),(),())) else none else some (.inr (.inl (((v1,()),()),(),())))
def ycm (x:(yb1).X):=yn6 x.1.1.1 x.1.2.1.1 x.1.2.2.1.1 x.1.2.2.2.1.1 x.1.2.2.2.2.1.1
def yx2 (x:(yf6).X):(yb1).X:=(((x.1.1.1,()),(x.1.2.1.1,()),(x.1.2.2.1.1,()),(x.1.2.2.2.1.1,()),(0,()),()),(),())
def yAx:Code:=(zeJ yom 64 244).getD .skip
theorem yMg:zeJ yom 64 61=some (.block 0 (.loop yAx)):=by kernel_rfl
theorem yN2 (x:(yb1).X):zhu ⟨yv9,49,yCa⟩ 0 yAx 244 yb1 yfT yjr x=ycm x:=by kernel_rfl
def yyi (x:(yf6).X):Nat:=18446744073709551616
def ypf (x:(yf6).X):Option ((yfT).X ⊕ (yjr).X):=zF ycm (yyi x) (yx2 x)
def yyM:Seg:=⟨yf6,yfT,yjr,ypf⟩
def yOC:Nat→Option Seg:=fun q=>bif Nat.beq q 61 then some yyM else yCa q
theorem yMA:FrOk prog ⟨yv9,49,yOC⟩ yom:=(yMz).loop (sg:=yyM) yb1 yx2 (by decide) yMg ycm yyi (by decide) (fun _=>rfl) (fun x r _ h=>h) yN2
abbrev yoy:List Par:= [.rd tM,.rd tI]
abbrev ywz:List OT:= [⟨false,tL,(.ow .fz)⟩,⟨false,tB,.fz⟩]
def yrX (a0:dM) (a1:Int):Option (zaY ywz×zak yoy) :=let r1:=yav a0;bif(!(!r1))then bif(!a0.2.2.1)then let r2:=ybJ a0 a1;bif(!(!r2))then let r3:=yc6 a0.2.2.2 a1;bif r3 then some (([],false,()),()) else bif(inb a1 a0.1.length)then zkr (ypf (((a1,()),((nth a0.1 a1 []),()),(a0.2.1,()),((a0.2.1.length:Int),()),((),()),()),(),())) (fun y3 =>let r5:=yx y3.1.1.1;some ((r5,true,()),())) (fun y3 =>none) else none else some (([],false,()),()) else some (([],false,()),()) else some (([],false,()),())
theorem yQ0:ConOk prog 87 ⟨yoy,ywz,fun x=>yrX x.1 x.2.1⟩:=zkG (yMA) func87 ntmps87.symm fun x=>by kernel_rfl
def ybO (a0:dM) (a1:Int):List Int×Bool:=yR a0 a1
theorem yT9 (a0:dM) (a1:Int) (hk:zjw yoy (a0,a1,())):yrX a0 a1=(fun n=>some ((n.1,n.2,()),())) (ybO a0 a1):=by
 have hb1:a0.1.length*24≤2^47:=hk.1.1.1;have hb2:a0.2.1.length*32≤2^47:=hk.1.2.1.1
 have h1: ∀s,ypf (yKR a1 s a0.2.1 a0.2.1.length)=some (.inl (yyx (yho a1 a0.2.1 s))):=fun s =>
  zkv (step:=ycm) a0.2.1 (0,[]) (fun i s=>ynG a1 s a0.2.1 a0.2.1.length i) (fun s w=>bif w.1==a1 then w.2 else s) (fun _ _=>True) (fun s=> .inl (yyx s)) (fun i s hi _=>⟨by
   simp only[ycm,ynG,yn6,zkw (show(i:Int)<a0.2.1.length by omega),cond_true,wq ((i:Int)+1) (by omega) (by omega),Int.natCast_add,Int.natCast_one,Int.toNat_natCast,zkP hi,zkQ]
   cases((a0.2.1.getD i (0,[])).1==a1)<;>rfl,trivial⟩) (fun s _=>by simp only[ycm,ynG,yn6,zk1 (Int.le_refl _),cond_false]) s trivial _ (by show _<18446744073709551616; omega)
 unfold yrX ybO yR ysv ybJ;rw[yao,ynA (show a0.1.length≤1152921504606846976 by omega)];unfold yav yc6 yx;simp only[h1,zkL];cases yw a0
 ·rfl
 cases a0.2.2.1
 ·cases inb a1 a0.1.length
  ·rfl
  ·cases a0.2.2.2.any (· ==a1)<;>rfl
 ·rfl
def ykV:Con:=⟨yoy,ywz,fun x=>(fun n=>some ((n.1,n.2,()),())) (ybO x.1 x.2.1)⟩
theorem yuP:ConOk prog 87 ykV:=(yQ0).mono (fun x r hk h=>(yT9 x.1 x.2.1 hk).trans h)
def yV2:Code:=(f195.body).getD .skip
def yWt:Env:=zku TT [(82,yM),(150,ygz)] []
theorem yMT:FrOk prog ⟨yWt,60,fun _=>none⟩ yV2:=zky yf yg ⟨yX,ylJ,trivial⟩
abbrev ywr:List Par:= [.rd tS]
abbrev ywL:List OT:= [⟨false,tB,.fz⟩]
def yEs (a0:dS):Option (zaY ywL×zak ywr) :=let r1:=yd (a0.2.2.2.1,a0.2.2.2.2.1);bif(!(!r1))then let r2:=yb a0.1 1 60000;bif(!(!r2))then let r3:=yb a0.2.1 0 60000;bif(!(!r3))then let r4:=yb a0.2.2.1 0 (i64.wrap (a0.2.2.2.1-1));bif(!(!r4))then let r5:=yb a0.2.2.2.2.2.1 0 60000;bif(!r5)then some ((false,()),()) else let r6:=yb a0.2.2.2.2.2.2.1 (-1) (i64.wrap (a0.2.2.2.1-1));bif r6 then let r7:=yb a0.2.2.2.2.2.2.2 0 a0.2.2.2.2.1;bif r7 then bif(!(leb 0 a0.2.2.2.2.2.2.1))then some (((a0.2.2.2.2.2.2.2==0),()),()) else some ((true,()),()) else some ((false,()),()) else some ((false,()),()) else some ((false,()),()) else some ((false,()),()) else some ((false,()),()) else some ((false,()),())
theorem yRd:ConOk prog 195 ⟨ywr,ywL,fun x=>yEs x.1⟩:=zkG (yMT) func195 ntmps195.symm fun x=>by kernel_rfl
def yH (a0:dS):Bool :=let r1:=yd (a0.2.2.2.1,a0.2.2.2.2.1);bif(!(!r1))then let r2:=yb a0.1 1 60000;bif(!(!r2))then let r3:=yb a0.2.1 0 60000;bif(!(!r3))then let r4:=yb a0.2.2.1 0 (i64.wrap (a0.2.2.2.1-1));bif(!(!r4))then let r5:=yb a0.2.2.2.2.2.1 0 60000;bif(!r5)then false else let r6:=yb a0.2.2.2.2.2.2.1 (-1) (i64.wrap (a0.2.2.2.1-1));bif r6 then let r7:=yb a0.2.2.2.2.2.2.2 0 a0.2.2.2.2.1;bif r7 then bif(!(leb 0 a0.2.2.2.2.2.2.1))then (a0.2.2.2.2.2.2.2==0) else true else false else false else false else false else false else false
def yDq:Con:=⟨ywr,ywL,fun x=>(fun n=>some ((n,()),())) (yH x.1)⟩
theorem yUl (a0:dS):yEs a0=(fun n=>some ((n,()),())) (yH a0):=zkT (p:=fun(n:Bool)=>((n,()),())) (zkE (p:=fun(n:Bool)=>((n,()),())) (zkE (p:=fun(n:Bool)=>((n,()),())) (zkE (p:=fun(n:Bool)=>((n,()),())) (zkE (p:=fun(n:Bool)=>((n,()),())) (zkE (p:=fun(n:Bool)=>((n,()),())) rfl (zkE (p:=fun(n:Bool)=>((n,()),())) (zkE (p:=fun(n:Bool)=>((n,()),())) (zkE (p:=fun(n:Bool)=>((n,()),())) rfl rfl) rfl) rfl)) rfl) rfl) rfl) rfl)
theorem yVm:ConOk prog 195 yDq:=(yRd).mono (fun x r _ h=>(yUl x.1).trans h)
abbrev yeE:dS:=(0,0,0,0,0,0,0,0)
theorem yxF {s:dS}:yH s=true↔yd (s.2.2.2.1,s.2.2.2.2.1)=true∧(1≤s.1∧s.1≤60000)∧(0≤s.2.1∧s.2.1≤60000)∧(0≤s.2.2.1∧s.2.2.1≤s.2.2.2.1-1)∧(0≤s.2.2.2.2.2.1∧s.2.2.2.2.2.1≤60000)∧(-1≤s.2.2.2.2.2.2.1∧s.2.2.2.2.2.2.1≤s.2.2.2.1-1)∧(0≤s.2.2.2.2.2.2.2∧s.2.2.2.2.2.2.2≤s.2.2.2.2.1)∧(0≤s.2.2.2.2.2.2.1∨s.2.2.2.2.2.2.2=0):=by
 unfold yH;cases hg:yd (s.2.2.2.1,s.2.2.2.2.1)
 ·simp
 have hg2:=yl.1 hg;simp only at hg2;rw[wq (s.2.2.2.1-1) (by omega) (by omega)];simp only[Bool.not_not,cond_true,true_and];simp only[← yuB];cases yb s.1 1 60000
 ·simp
 cases yb s.2.1 0 60000
 ·simp
 cases yb s.2.2.1 0 (s.2.2.2.1-1)
 ·simp
 cases yb s.2.2.2.2.2.1 0 60000
 ·simp
 cases yb s.2.2.2.2.2.2.1 (-1) (s.2.2.2.1-1)
 ·simp
 cases yb s.2.2.2.2.2.2.2 0 s.2.2.2.2.1
 ·simp
 cases hl:leb 0 s.2.2.2.2.2.2.1
 ·have:=mt zk0 (by rw[hl]; simp: ¬leb 0 s.2.2.2.2.2.2.1=true)
  simp[this]
 ·simp[zj5.1 hl]
def yHN (l:List Int):dS:=(nth l 1 0,nth l 2 0,nth l 3 0,nth l 4 0,nth l 5 0,nth l 6 0,i64.wrap (nth l 7 0-1),nth l 8 0)
def yeB (l:List Int):dS×Bool:=bif(l.length:Int)==9&&(nth l 0 0==21317&&yH (yHN l))then(yHN l,true)else(yeE,false)
def yGu (m:dM) (i:Int):dS:=(yeB (yR m i).1).1
def yql (m:dM) (id i:Int):Bool:=(yR m i).2&&((yeB (yR m i).1).2&&((yGu m i).1==id&&(yGu m i).2.1.tmod 2==i))
def ylq (b:dS×Bool) (ok:Bool) (s:dS):dS×Bool:=bif ok&&(!b.2||ltb b.1.2.1 s.2.1)then(s,true)else b
def yaq (m:dM) (id:Int):dS×Bool:=(List.range 2).foldl (fun s (i:Nat)=>ylq s (yql m id i) (yGu m i)) (yeE,false)
def yhC (m:dM) (i id:Int):Bool:= !m.2.2.1&&((yaq m id).2&&(yaq m id).1.2.2.1==i)
def ydF (l:List dM) (id:Int):dS×Bool:=(List.range l.length).foldl (fun s (i:Nat)=>ylq s (yhC (nth l i yc) i id) (yaq (nth l i yc) id).1) (yeE,false)
def yj3 (l:List dM) (id:Int) (s:Int×Int×Bool) (i:Nat):Int×Int×Bool:=bif yhC (nth l i yc) i id then s else bif s.1== -1||s.1==i then((i:Int),0,s.2.2)else(s.1,s.2.1,true)
def yt2 (b:dS) (l:List dM) (id:Int) (s:Int×Int×Bool):dA:=(id,(b.2.2.2.1,b.2.2.2.2.1),l,s.1,s.2.1,b.2.2.2.2.2.1,b.2.2.2.2.2.1,b.2.1,[],-1,false,s.2.2)
def yGX (l:List dM) (id:Int):dA:=yt2 (ydF l id).1 l id ((List.range l.length).foldl (yj3 l id) ((ydF l id).1.2.2.2.2.2.2.1,(ydF l id).1.2.2.2.2.2.2.2,false))
def yfI (l:List dM) (id:Int):dA×Bool:=bif(ydF l id).2&&((l.length:Int)==(ydF l id).1.2.2.2.1&&yal (yGX l id))then(yGX l id,true)else(yaD,false)
theorem y4f (b:dS×Bool) (s:dS):ylq b false s=b:=rfl
theorem y2l {m:dM} {i:Int} (h:(yR m i).2=true):yw m=true:=by
 unfold yR at h;cases hc:ysv m i
 ·rw[hc]at h; cases h
 ·exact(Bool.and_eq_true_iff.1 hc).1
theorem y4g {m:dM} {id i:Int} (h:yw m=false):yql m id i=false:=by
 unfold yql;cases hr:(yR m i).2
 ·rfl
 ·rw[y2l hr]at h; cases h
theorem y4e {m:dM} {id:Int} (h:(yaq m id).2=true):yw m=true:=by
 cases hm:yw m
 ·unfold yaq at h
  simp only[y4g hm,y4f]at h;exact h
 ·rfl
def yVW:Code:=(f212.body).getD .skip
def yWn:Env:=zku TT [(81,yN),(123,ygy),(125,yud)] []
theorem yMC:FrOk prog ⟨yWn,44,fun _=>none⟩ yVW:=zky yf yg ⟨y9,ylI,yHt,trivial⟩
abbrev ywm:List Par:= [.rd tS]
abbrev ywB:List OT:= [⟨false,tB,.fz⟩]
def yEo (a0:dS):Option (zaY ywB×zak ywm) :=let r1:=yi a0.1 1 60000;bif r1 then let r2:=yi a0.2.1 0 60000;bif r2 then let r3:=yi a0.2.2.2.2.2.1 0 60000;bif r3 then let r4:=ybG (a0.2.2.2.1,a0.2.2.2.2.1);bif r4 then let r5:=yi a0.2.2.1 0 (i64.wrap (a0.2.2.2.1-1));bif r5 then let r6:=yfN (a0.2.2.2.1,a0.2.2.2.2.1) a0.2.2.2.2.2.2.1 a0.2.2.2.2.2.2.2;some ((r6,()),()) else some ((false,()),()) else some ((false,()),()) else some ((false,()),()) else some ((false,()),()) else some ((false,()),())
theorem yQ2:ConOk prog 212 ⟨ywm,ywB,fun x=>yEo x.1⟩:=zkG (yMC) func212 ntmps212.symm fun x=>by kernel_rfl
def yeD (a0:dS):Bool :=let r1:=yi a0.1 1 60000;bif r1 then let r2:=yi a0.2.1 0 60000;bif r2 then let r3:=yi a0.2.2.2.2.2.1 0 60000;bif r3 then let r4:=ybG (a0.2.2.2.1,a0.2.2.2.2.1);bif r4 then let r5:=yi a0.2.2.1 0 (i64.wrap (a0.2.2.2.1-1));bif r5 then let r6:=yfN (a0.2.2.2.1,a0.2.2.2.2.1) a0.2.2.2.2.2.2.1 a0.2.2.2.2.2.2.2;r6 else false else false else false else false else false
def yrw:Con:=⟨ywm,ywB,fun x=>(fun n=>some ((n,()),())) (yeD x.1)⟩
theorem yUb (a0:dS):yEo a0=(fun n=>some ((n,()),())) (yeD a0):=zkT (p:=fun(n:Bool)=>((n,()),())) (zkE (p:=fun(n:Bool)=>((n,()),())) (zkE (p:=fun(n:Bool)=>((n,()),())) (zkE (p:=fun(n:Bool)=>((n,()),())) (zkE (p:=fun(n:Bool)=>((n,()),())) (zkE (p:=fun(n:Bool)=>((n,()),())) rfl rfl) rfl) rfl) rfl) rfl)
theorem yFS:ConOk prog 212 yrw:=(yQ2).mono (fun x r _ h=>(yUb x.1).trans h)
theorem yIH (s:dS):yeD s=yH s:=by
 rw[Bool.eq_iff_iff,yxF];unfold yeD yfN;simp only[yKA,yao];cases hg:yd (s.2.2.2.1,s.2.2.2.2.1)
 ·cases yb s.1 1 60000<;>cases yb s.2.1 0 60000<;>cases yb s.2.2.2.2.2.1 0 60000<;>simp
 have hg2:=yl.1 hg;simp only at hg2;rw[wq (s.2.2.2.1-1) (by omega) (by omega)];simp only[← yuB];cases yb s.1 1 60000
 ·simp
 cases yb s.2.1 0 60000
 ·simp
 cases yb s.2.2.2.2.2.1 0 60000
 ·simp
 cases yb s.2.2.1 0 (s.2.2.2.1-1)
 ·simp
 cases hl:yb s.2.2.2.2.2.2.1 (-1) (s.2.2.2.1-1)
 ·simp
 cases yb s.2.2.2.2.2.2.2 0 s.2.2.2.2.1
 ·simp
 have:=yuB.1 hl;by_cases h0:s.2.2.2.2.2.2.2=0
 ·simp[h0]
 ·simp[h0]; omega
def yR1:Code:=(f198.body).getD .skip
def ySv:Env:=zku TT [(212,yrw)] []
theorem yKa:FrOk prog ⟨ySv,46,fun _=>none⟩ yR1:=zky yf yg ⟨yFS,trivial⟩
abbrev ymt:List Par:= [.rd tL]
abbrev ytE:List OT:= [⟨false,tS,(.pr .fz (.pr .fz (.pr .fz (.pr .fz (.pr .fz (.pr .fz (.pr .fz .fz)))))))⟩,⟨false,tB,.fz⟩]
def ypU (a0:List Int):Option (zaY ytE×zak ymt) :=bif(!((a0.length:Int) !=9))then bif(inb 0 a0.length)then bif((nth a0 0 0) !=21317)then some (((0,0,0,0,0,0,0,0),false,()),()) else bif(inb 1 a0.length)then bif(inb 2 a0.length)then bif(inb 3 a0.length)then bif(inb 4 a0.length)then bif(inb 5 a0.length)then bif(inb 6 a0.length)then bif(inb 7 a0.length)then bif(inb 8 a0.length)then let r1:=yeD ((nth a0 1 0),(nth a0 2 0),(nth a0 3 0),(nth a0 4 0),(nth a0 5 0),(nth a0 6 0),(i64.wrap ((nth a0 7 0)-1)),(nth a0 8 0));bif(!r1)then some (((0,0,0,0,0,0,0,0),false,()),()) else some ((((nth a0 1 0),(nth a0 2 0),(nth a0 3 0),(nth a0 4 0),(nth a0 5 0),(nth a0 6 0),(i64.wrap ((nth a0 7 0)-1)),(nth a0 8 0)),true,()),()) else none else none else none else none else none else none else none else none else none else some (((0,0,0,0,0,0,0,0),false,()),())
theorem yNB:ConOk prog 198 ⟨ymt,ytE,fun x=>ypU x.1⟩:=zkG (yKa) func198 ntmps198.symm fun x=>by kernel_rfl
def yiU (a0:List Int):dS×Bool:=yeB a0
theorem yQC (a0:List Int) (hk:zjw ymt (a0,())):ypU a0=(fun n=>some ((n.1,n.2,()),())) (yiU a0):=by
 unfold ypU yiU yeB;by_cases h:(a0.length:Int)=9
 ·simp only[bne,h,yIH,beq_self_eq_true,zj4.2 (show(0:Int)≤0∧(0:Int)<a0.length by omega),zj4.2 (show(0:Int)≤1∧(1:Int)<a0.length by omega),zj4.2 (show(0:Int)≤2∧(2:Int)<a0.length by omega),zj4.2 (show(0:Int)≤3∧(3:Int)<a0.length by omega),zj4.2 (show(0:Int)≤4∧(4:Int)<a0.length by omega),zj4.2 (show(0:Int)≤5∧(5:Int)<a0.length by omega),zj4.2 (show(0:Int)≤6∧(6:Int)<a0.length by omega),zj4.2 (show(0:Int)≤7∧(7:Int)<a0.length by omega),zj4.2 (show(0:Int)≤8∧(8:Int)<a0.length by omega)]
  rw[show yH (nth a0 1 0,nth a0 2 0,nth a0 3 0,nth a0 4 0,nth a0 5 0,nth a0 6 0,i64.wrap (nth a0 7 0-1),nth a0 8 0)=yH (yHN a0)from rfl];cases(nth a0 0 0==21317)<;>cases yH (yHN a0)<;>rfl
 ·rw[show((a0.length:Int) !=9)=true from bne_iff_ne.2 h,show((a0.length:Int)==9)=false from beq_eq_false_iff_ne.2 h]; rfl
def yAM:Con:=⟨ymt,ytE,fun x=>(fun n=>some ((n.1,n.2,()),())) (yiU x.1)⟩
theorem yRr:ConOk prog 198 yAM:=(yNB).mono (fun x r hk h=>(yQC x.1 hk).trans h)
def ykE:Code:=(f148.body).getD .skip
def yrg:Env:=zku TT [(87,ykV),(198,yAM)] []
theorem yI3:FrOk prog ⟨yrg,60,fun _=>none⟩ ykE:=zky yf yg ⟨yuP,yRr,trivial⟩
def yxH:Nat→Option Seg:=fun _=>none
def ybf:Shape:=⟨[(1,false,[.int .i64]),(2,false,[.ptr 0 0]),(4,false,[.ptr 64 0]),(6,false,[.ptr 4160 0]),(7,false,[.bool]),(14,false,[.int .i64])],[(0,[.br tL,.br tW,.bool,.br tI]),(64,[.int .i64,.int .i64,.int .i64,.int .i64,.int .i64,.int .i64,.int .i64,.int .i64]),(4160,[.int .i64,.int .i64,.int .i64,.int .i64,.int .i64,.int .i64,.int .i64,.int .i64])],[]⟩
def yen:Shape:=⟨[(1,false,[.int .i64]),(2,false,[.ptr 0 0]),(4,false,[.ptr 64 0]),(6,false,[.ptr 4160 0]),(7,false,[.cb false]),(14,false,[.ci .i64 0])],[(0,[.br tL,.br tW,.bool,.br tI]),(64,[.int .i64,.int .i64,.int .i64,.int .i64,.int .i64,.int .i64,.int .i64,.int .i64]),(4160,[.int .i64,.int .i64,.int .i64,.int .i64,.int .i64,.int .i64,.int .i64,.int .i64])],[]⟩
def yeh:Shape:=⟨[(4,false,[.ptr 64 0]),(6,false,[.ptr 4160 0]),(7,false,[.bool])],[(64,[.int .i64,.int .i64,.int .i64,.int .i64,.int .i64,.int .i64,.int .i64,.int .i64]),(4160,[.int .i64,.int .i64,.int .i64,.int .i64,.int .i64,.int .i64,.int .i64,.int .i64])],[]⟩
def yhx:Shape:=⟨[],[],[]⟩
abbrev yk2 (v0:Int) (v1:Bool) (v2:Int) (v3:dM) (v4 v5:dS):(ybf).X:=(((v0,()),((),()),((),()),((),()),(v1,()),(v2,()),()),((v3.1,v3.2.1,v3.2.2.1,v3.2.2.2,()),(v4.1,v4.2.1,v4.2.2.1,v4.2.2.2.1,v4.2.2.2.2.1,v4.2.2.2.2.2.1,v4.2.2.2.2.2.2.1,v4.2.2.2.2.2.2.2,()),(v5.1,v5.2.1,v5.2.2.1,v5.2.2.2.1,v5.2.2.2.2.1,v5.2.2.2.2.2.1,v5.2.2.2.2.2.2.1,v5.2.2.2.2.2.2.2,()),()),())
abbrev yId (v0:Int) (v1:dM) (v2 v3:dS):(yen).X:=(((v0,()),((),()),((),()),((),()),((),()),((),()),()),((v1.1,v1.2.1,v1.2.2.1,v1.2.2.2,()),(v2.1,v2.2.1,v2.2.2.1,v2.2.2.2.1,v2.2.2.2.2.1,v2.2.2.2.2.2.1,v2.2.2.2.2.2.2.1,v2.2.2.2.2.2.2.2,()),(v3.1,v3.2.1,v3.2.2.1,v3.2.2.2.1,v3.2.2.2.2.1,v3.2.2.2.2.2.1,v3.2.2.2.2.2.2.1,v3.2.2.2.2.2.2.2,()),()),())
abbrev yH8 (v0:Bool) (v1 v2:dS):(yeh).X:=((((),()),((),()),(v0,()),()),((v1.1,v1.2.1,v1.2.2.1,v1.2.2.2.1,v1.2.2.2.2.1,v1.2.2.2.2.2.1,v1.2.2.2.2.2.2.1,v1.2.2.2.2.2.2.2,()),(v2.1,v2.2.1,v2.2.2.1,v2.2.2.2.1,v2.2.2.2.2.1,v2.2.2.2.2.2.1,v2.2.2.2.2.2.2.1,v2.2.2.2.2.2.2.2,()),()),())
def yle (v0:Int) (v1:Bool) (v2:Int) (v3:List (List Int)) (v4:List dW) (v5:Bool) (v6:List Int) (v7 v8 v9 v10 v11 v12 v13 v14 v15 v16 v17 v18 v19 v20 v21 v22:Int):Option ((ybf).X ⊕ ((yeh).X ⊕ (yhx).X)) :=bif(ltb v2 2)then let r3:=ybO (v3,v4,v5,v6) v2;let r4:=yiU r3.1;bif r3.2 then bif r4.2 then bif(r4.1.1==v0)then bif((r4.1.2.1.tmod 2)==v2)then bif(!(!v1))then bif(ltb v16 r4.1.2.1)then some (.inl (((v0,()),((),()),((),()),((),()),(true,()),((i64.wrap (v2+1)),()),()),((v3,v4,v5,v6,()),(v7,v8,v9,v10,v11,v12,v13,v14,()),(r4.1.1,r4.1.2.1,r4.1.2.2.1,r4.1.2.2.2.1,r4.1.2.2.2.2.1,r4.1.2.2.2.2.2.1,r4.1.2.2.2.2.2.2.1,r4.1.2.2.2.2.2.2.2,()),()),())) else some (.inl (((v0,()),((),()),((),()),((),()),(v1,()),((i64.wrap (v2+1)),()),()),((v3,v4,v5,v6,()),(v7,v8,v9,v10,v11,v12,v13,v14,()),(v15,v16,v17,v18,v19,v20,v21,v22,()),()),())) else some (.inl (((v0,()),((),()),((),()),((),()),(true,()),((i64.wrap (v2+1)),()),()),((v3,v4,v5,v6,()),(v7,v8,v9,v10,v11,v12,v13,v14,()),(r4.1.1,r4.1.2.1,r4.1.2.2.1,r4.1.2.2.2.1,r4.1.2.2.2.2.1,r4.1.2.2.2.2.2.1,r4.1.2.2.2.2.2.2.1,r4.1.2.2.2.2.2.2.2,()),()),())) else some (.inl (((v0,()),((),()),((),()),((),()),(v1,()),((i64.wrap (v2+1)),()),()),((v3,v4,v5,v6,()),(v7,v8,v9,v10,v11,v12,v13,v14,()),(v15,v16,v17,v18,v19,v20,v21,v22,()),()),())) else some (.inl (((v0,()),((),()),((),()),((),()),(v1,()),((i64.wrap (v2+1)),()),()),((v3,v4,v5,v6,()),(v7,v8,v9,v10,v11,v12,v13,v14,()),(v15,v16,v17,v18,v19,v20,v21,v22,()),()),())) else some (.inl (((v0,()),((),()),((),()),((),()),(v1,()),((i64.wrap (v2+1)),()),()),((v3,v4,v5,v6,()),(v7,v8,v9,v10,v11,v12,v13,v14,()),(v15,v16,v17,v18,v19,v20,v21,v22,()),()),())) else some (.inl (((v0,()),((),()),((),()),((),()),(v1,()),((i64.wrap (v2+1)),()),()),((v3,v4,v5,v6,()),(v7,v8,v9,v10,v11,v12,v13,v14,()),(v15,v16,v17,v18,v19,v20,v21,v22,()),()),())) else some (.inr (.inl ((((),()),((),()),(v1,()),()),((v7,v8,v9,v10,v11,v12,v13,v14,()),(v15,v16,v17,v18,v19,v20,v21,v22,()),()),())))
def ybt (x:(ybf).X):=yle x.1.1.1 x.1.2.2.2.2.1.1 x.1.2.2.2.2.2.1.1 x.2.1.1.1 x.2.1.1.2.1 x.2.1.1.2.2.1 x.2.1.1.2.2.2.1 x.2.1.2.1.1 x.2.1.2.1.2.1 x.2.1.2.1.2.2.1 x.2.1.2.1.2.2.2.1 x.2.1.2.1.2.2.2.2.1 x.2.1.2.1.2.2.2.2.2.1 x.2.1.2.1.2.2.2.2.2.2.1 x.2.1.2.1.2.2.2.2.2.2.2.1 x.2.1.2.2.1.1 x.2.1.2.2.1.2.1 x.2.1.2.2.1.2.2.1 x.2.1.2.2.1.2.2.2.1 x.2.1.2.2.1.2.2.2.2.1 x.2.1.2.2.1.2.2.2.2.2.1 x.2.1.2.2.1.2.2.2.2.2.2.1 x.2.1.2.2.1.2.2.2.2.2.2.2.1
def yuo (x:(yen).X):(ybf).X:=(((x.1.1.1,()),((),()),((),()),((),()),(false,()),(0,()),()),((x.2.1.1.1,x.2.1.1.2.1,x.2.1.1.2.2.1,x.2.1.1.2.2.2.1,()),(x.2.1.2.1.1,x.2.1.2.1.2.1,x.2.1.2.1.2.2.1,x.2.1.2.1.2.2.2.1,x.2.1.2.1.2.2.2.2.1,x.2.1.2.1.2.2.2.2.2.1,x.2.1.2.1.2.2.2.2.2.2.1,x.2.1.2.1.2.2.2.2.2.2.2.1,()),(x.2.1.2.2.1.1,x.2.1.2.2.1.2.1,x.2.1.2.2.1.2.2.1,x.2.1.2.2.1.2.2.2.1,x.2.1.2.2.1.2.2.2.2.1,x.2.1.2.2.1.2.2.2.2.2.1,x.2.1.2.2.1.2.2.2.2.2.2.1,x.2.1.2.2.1.2.2.2.2.2.2.2.1,()),()),())
def yvq:Code:=(zeJ ykE 64 116).getD .skip
theorem yIU:zeJ ykE 64 29=some (.block 0 (.loop yvq)):=by kernel_rfl
theorem yJx (x:(ybf).X):zhu ⟨yrg,60,yxH⟩ 0 yvq 116 ybf yeh yhx x=ybt x:=by kernel_rfl
def yuw (x:(yen).X):Nat:=18446744073709551616
def ylT (x:(yen).X):Option ((yeh).X ⊕ (yhx).X):=zF ybt (yuw x) (yuo x)
def yvf:Seg:=⟨yen,yeh,yhx,ylT⟩
def yJE:Nat→Option Seg:=fun q=>bif Nat.beq q 29 then some yvf else yxH q
theorem yI4:FrOk prog ⟨yrg,60,yJE⟩ ykE:=(yI3).loop (sg:=yvf) ybf yuo (by decide) yIU ybt yuw (by decide) (fun _=>rfl) (fun x r _ h=>h) yJx
abbrev ykJ:List Par:= [.rd tM,.rd tI]
abbrev yrt:List OT:= [⟨false,tS,(.pr .fz (.pr .fz (.pr .fz (.pr .fz (.pr .fz (.pr .fz (.pr .fz .fz)))))))⟩,⟨false,tB,.fz⟩]
def ynZ (a0:dM) (a1:Int):Option (zaY yrt×zak ykJ) :=zkr (ylT (((a1,()),((),()),((),()),((),()),((),()),((),()),()),((a0.1,a0.2.1,a0.2.2.1,a0.2.2.2,()),(0,0,0,0,0,0,0,0,()),(0,0,0,0,0,0,0,0,()),()),())) (fun y4 =>some (((y4.2.1.2.1.1,y4.2.1.2.1.2.1,y4.2.1.2.1.2.2.1,y4.2.1.2.1.2.2.2.1,y4.2.1.2.1.2.2.2.2.1,y4.2.1.2.1.2.2.2.2.2.1,y4.2.1.2.1.2.2.2.2.2.2.1,y4.2.1.2.1.2.2.2.2.2.2.2.1),y4.1.2.2.1.1,()),())) (fun y4 =>none)
theorem yLe:ConOk prog 148 ⟨ykJ,yrt,fun x=>ynZ x.1 x.2.1⟩:=zkG (yI4) func148 ntmps148.symm fun x=>by kernel_rfl
def yhi (a0:dM) (a1:Int):dS×Bool:=yaq a0 a1
theorem yNu (a0:dM) (a1:Int) (hk:zjw ykJ (a0,a1,())):ynZ a0 a1=(fun n=>some ((n.1,n.2,()),())) (yhi a0 a1):=by
 have h1:=zkB (step:=ybt) 2 (fun i s=>yk2 a1 s.2 i a0 yeE s.1) (fun(s:dS×Bool) (i:Nat)=>ylq s (yql a0 a1 i) (yGu a0 i)) (fun _ _=>True) (fun s=> .inl (yH8 s.2 yeE s.1)) (fun i s hi _=>⟨by
  simp only[ybt,yk2,yle,zkw (show(i:Int)<2 by omega),cond_true,wq ((i:Int)+1) (by omega) (by omega),Int.natCast_add,Int.natCast_one,Int.toNat_natCast,zkV,ybO,yiU];unfold yql ylq yGu
  cases(yR a0 i).2<;>cases(yeB (yR a0 i).1).2<;>cases((yeB (yR a0 i).1).1.1==a1)<;>cases((yeB (yR a0 i).1).1.2.1.tmod 2==(i:Int))<;>cases hf:s.2<;>cases ltb s.1.2.1 (yeB (yR a0 i).1).1.2.1<;>simp only[Bool.not_true,Bool.not_false,cond_true,cond_false,Bool.and_true,Bool.true_and,Bool.false_and,Bool.and_false,Bool.or_true,Bool.true_or,Bool.false_or,Bool.or_false,hf],trivial⟩) (fun s _=>by simp only[ybt,yk2,yle]; rfl) (yeE,false) trivial 18446744073709551616 (by omega)
 unfold ynZ yhi;rw[show ylT (yId a1 a0 yeE yeE)=_ from h1]; rfl
def yxV:Con:=⟨ykJ,yrt,fun x=>(fun n=>some ((n.1,n.2,()),())) (yhi x.1 x.2.1)⟩
theorem yNX:ConOk prog 148 yxV:=(yLe).mono (fun x r hk h=>(yNu x.1 x.2.1 hk).trans h)
def ySa:Code:=(f73.body).getD .skip
def ySE:Env:=zku TT [(127,yeA),(148,yxV)] []
theorem yKl:FrOk prog ⟨ySE,35,fun _=>none⟩ ySa:=zky yf yg ⟨yhQ,yNX,trivial⟩
abbrev ymA:List Par:= [.rd tM,.rd tI,.rd tI]
abbrev ytO:List OT:= [⟨false,tS,(.pr .fz (.pr .fz (.pr .fz (.pr .fz (.pr .fz (.pr .fz (.pr .fz .fz)))))))⟩,⟨false,tB,.fz⟩]
def yp1 (a0:dM) (a1 a2:Int):Option (zaY ytO×zak ymA) :=let r1:=yhi a0 a2;let r2:=yav a0;bif(!(!r2))then bif(!a0.2.2.1)then bif(!(!r1.2))then bif(r1.1.2.2.1 !=a1)then some (((0,0,0,0,0,0,0,0),false,()),()) else some ((r1.1,true,()),()) else some (((0,0,0,0,0,0,0,0),false,()),()) else some (((0,0,0,0,0,0,0,0),false,()),()) else some (((0,0,0,0,0,0,0,0),false,()),())
theorem yNL:ConOk prog 73 ⟨ymA,ytO,fun x=>yp1 x.1 x.2.1 x.2.2.1⟩:=zkG (yKl) func73 ntmps73.symm fun x=>by kernel_rfl
def ydJ (a0:dM) (a1 a2:Int):dS×Bool:=bif yhC a0 a1 a2 then((yaq a0 a2).1,true)else(yeE,false)
theorem yQM (a0:dM) (a1 a2:Int) (hk:zjw ymA (a0,a1,a2,())):yp1 a0 a1 a2=(fun n=>some ((n.1,n.2,()),())) (ydJ a0 a1 a2):=by
 unfold yp1 ydJ yhC;simp only[yhi,yav,bne];cases hb:(yaq a0 a2).2
 ·cases yw a0<;>cases a0.2.2.1<;>rfl
 ·rw[y4e hb]
  cases a0.2.2.1<;>cases((yaq a0 a2).1.2.2.1==a1)<;>rfl
def yAS:Con:=⟨ymA,ytO,fun x=>(fun n=>some ((n.1,n.2,()),())) (ydJ x.1 x.2.1 x.2.2.1)⟩
theorem yRx:ConOk prog 73 yAS:=(yNL).mono (fun x r hk h=>(yQM x.1 x.2.1 x.2.2.1 hk).trans h)
def yet:Code:=(f133.body).getD .skip
def yjG:Env:=zku TT [(158,yaG)] []
theorem yMF:FrOk prog ⟨yjG,49,fun _=>none⟩ yet:=zky yf yg ⟨ybH,trivial⟩
def yCc:Nat→Option Seg:=fun _=>none
def yb3:Shape:=⟨[(1,false,[.ptr 0 0]),(2,false,[.ptr 64 0]),(3,false,[.ptr 4480 0]),(15,false,[.br tL]),(16,false,[.int .i64]),(17,false,[.int .i64])],[(0,[.br tL,.br tW,.bool,.br tI]),(64,[.nil,.nil,.bool,.nil]),(4480,[.at 800000001,.nil,.bool,.at 800000000])],[(800000001,tL,(.ow .fz)),(800000000,tI,.fz)]⟩
def yf8:Shape:=⟨[(1,false,[.ptr 0 0]),(2,false,[.ptr 64 0]),(3,false,[.ptr 4480 0]),(15,false,[.br tL]),(16,false,[.int .i64]),(17,false,[.ci .i64 0])],[(0,[.br tL,.br tW,.bool,.br tI]),(64,[.nil,.nil,.bool,.nil]),(4480,[.at 800000001,.nil,.bool,.at 800000000])],[(800000001,tL,(.ow .fz)),(800000000,tI,.fz)]⟩
def yfV:Shape:=⟨[(1,false,[.ptr 0 0]),(2,false,[.ptr 64 0]),(3,false,[.ptr 4480 0])],[(0,[.br tL,.br tW,.bool,.br tI]),(64,[.nil,.nil,.bool,.nil]),(4480,[.at 800000000,.nil,.bool,.at 800000001])],[(800000000,tL,(.ow .fz)),(800000001,tI,.fz)]⟩
def yjt:Shape:=⟨[],[],[]⟩
abbrev ynI (v0:List (List Int)) (v1 v2:Int) (v3 v4 v5:dM):(yb3).X:=((((),()),((),()),((),()),(v0,()),(v1,()),(v2,()),()),((v3.1,v3.2.1,v3.2.2.1,v3.2.2.2,()),((),(),v4.2.2.1,(),()),((),(),v5.2.2.1,(),()),()),(v5.1,v5.2.2.2,()))
abbrev yKT (v0:List (List Int)) (v1:Int) (v2 v3 v4:dM):(yf8).X:=((((),()),((),()),((),()),(v0,()),(v1,()),((),()),()),((v2.1,v2.2.1,v2.2.2.1,v2.2.2.2,()),((),(),v3.2.2.1,(),()),((),(),v4.2.2.1,(),()),()),(v4.1,v4.2.2.2,()))
abbrev yyy (v0 v1 v2:dM):(yfV).X:=((((),()),((),()),((),()),()),((v0.1,v0.2.1,v0.2.2.1,v0.2.2.2,()),((),(),v1.2.2.1,(),()),((),(),v2.2.2.1,(),()),()),(v2.1,v2.2.2.2,()))
def yn8 (v0:List (List Int)) (v1 v2:Int) (v3:List (List Int)) (v4:List dW) (v5:Bool) (v6:List Int) (v7 v8:Bool) (v9:List (List Int)) (v10:List Int):Option ((yb3).X ⊕ ((yfV).X ⊕ (yjt).X)) :=bif(ltb v2 v1)then bif(inb v2 v0.length)then let r4:=yx (nth v0 v2 []);bif(zkj v9.length ([r4]:List (List Int)).length 24)then some (.inl ((((),()),((),()),((),()),(v0,()),(v1,()),((i64.wrap (v2+1)),()),()),((v3,v4,v5,v6,()),((),(),v7,(),()),((),(),v8,(),()),()),((v9++([r4]:List (List Int))),v10,()))) else none else none else some (.inr (.inl ((((),()),((),()),((),()),()),((v3,v4,v5,v6,()),((),(),v7,(),()),((),(),v8,(),()),()),(v9,v10,()))))
def yco (x:(yb3).X):=yn8 x.1.2.2.2.1.1 x.1.2.2.2.2.1.1 x.1.2.2.2.2.2.1.1 x.2.1.1.1 x.2.1.1.2.1 x.2.1.1.2.2.1 x.2.1.1.2.2.2.1 x.2.1.2.1.2.2.1 x.2.1.2.2.1.2.2.1 x.2.2.1 x.2.2.2.1
def yx4 (x:(yf8).X):(yb3).X:=((((),()),((),()),((),()),(x.1.2.2.2.1.1,()),(x.1.2.2.2.2.1.1,()),(0,()),()),((x.2.1.1.1,x.2.1.1.2.1,x.2.1.1.2.2.1,x.2.1.1.2.2.2.1,()),((),(),x.2.1.2.1.2.2.1,(),()),((),(),x.2.1.2.2.1.2.2.1,(),()),()),(x.2.2.1,x.2.2.2.1,()))
def yAz:Code:=(zeJ yet 64 116).getD .skip
theorem yMi:zeJ yet 64 29=some (.block 0 (.loop yAz)):=by kernel_rfl
theorem yN4 (x:(yb3).X):zhu ⟨yjG,49,yCc⟩ 0 yAz 116 yb3 yfV yjt x=yco x:=by kernel_rfl
def yyk (x:(yf8).X):Nat:=18446744073709551616
def yph (x:(yf8).X):Option ((yfV).X ⊕ (yjt).X):=zF yco (yyk x) (yx4 x)
def yyO:Seg:=⟨yf8,yfV,yjt,yph⟩
def yrf:Nat→Option Seg:=fun q=>bif Nat.beq q 29 then some yyO else yCc q
theorem yMG:FrOk prog ⟨yjG,49,yrf⟩ yet:=(yMF).loop (sg:=yyO) yb3 yx4 (by decide) yMi yco yyk (by decide) (fun _=>rfl) (fun x r _ h=>h) yN4
def yb4:Shape:=⟨[(2,false,[.ptr 64 0]),(3,false,[.ptr 4480 0]),(30,false,[.br tW]),(31,false,[.int .i64]),(32,false,[.int .i64])],[(64,[.nil,.nil,.bool,.nil]),(4480,[.at 800000000,.at 800000002,.bool,.at 800000001])],[(800000000,tL,(.ow .fz)),(800000002,tW,(.pr .fz (.ow .fz))),(800000001,tI,.fz)]⟩
def yf9:Shape:=⟨[(2,false,[.ptr 64 0]),(3,false,[.ptr 4480 0]),(30,false,[.br tW]),(31,false,[.int .i64]),(32,false,[.ci .i64 0])],[(64,[.nil,.nil,.bool,.nil]),(4480,[.at 800000000,.at 800000002,.bool,.at 800000001])],[(800000000,tL,(.ow .fz)),(800000002,tW,(.pr .fz (.ow .fz))),(800000001,tI,.fz)]⟩
def yfW:Shape:=⟨[(2,false,[.ptr 64 0]),(3,false,[.ptr 4480 0])],[(64,[.nil,.nil,.bool,.nil]),(4480,[.at 800000000,.at 800000001,.bool,.at 800000002])],[(800000000,tL,(.ow .fz)),(800000001,tW,(.pr .fz (.ow .fz))),(800000002,tI,.fz)]⟩
def yju:Shape:=⟨[],[],[]⟩
abbrev ynJ (v0:List dW) (v1 v2:Int) (v3 v4:dM):(yb4).X:=((((),()),((),()),(v0,()),(v1,()),(v2,()),()),(((),(),v3.2.2.1,(),()),((),(),v4.2.2.1,(),()),()),(v4.1,v4.2.1,v4.2.2.2,()))
abbrev yKU (v0:List dW) (v1:Int) (v2 v3:dM):(yf9).X:=((((),()),((),()),(v0,()),(v1,()),((),()),()),(((),(),v2.2.2.1,(),()),((),(),v3.2.2.1,(),()),()),(v3.1,v3.2.1,v3.2.2.2,()))
abbrev yyz (v0 v1:dM):(yfW).X:=((((),()),((),()),()),(((),(),v0.2.2.1,(),()),((),(),v1.2.2.1,(),()),()),(v1.1,v1.2.1,v1.2.2.2,()))
def yn9 (v0:List dW) (v1 v2:Int) (v3 v4:Bool) (v5:List (List Int)) (v6:List dW) (v7:List Int):Option ((yb4).X ⊕ ((yfW).X ⊕ (yju).X)) :=bif(ltb v2 v1)then bif(inb v2 v0.length)then let r8:=yx ((nth v0 v2 (0,[])).2);bif(zkj v6.length ([((nth v0 v2 (0,[])).1,r8)]:List dW).length 32)then some (.inl ((((),()),((),()),(v0,()),(v1,()),((i64.wrap (v2+1)),()),()),(((),(),v3,(),()),((),(),v4,(),()),()),(v5,(v6++([((nth v0 v2 (0,[])).1,r8)]:List dW)),v7,()))) else none else none else some (.inr (.inl ((((),()),((),()),()),(((),(),v3,(),()),((),(),v4,(),()),()),(v5,v6,v7,()))))
def ycp (x:(yb4).X):=yn9 x.1.2.2.1.1 x.1.2.2.2.1.1 x.1.2.2.2.2.1.1 x.2.1.1.2.2.1 x.2.1.2.1.2.2.1 x.2.2.1 x.2.2.2.1 x.2.2.2.2.1
def yx5 (x:(yf9).X):(yb4).X:=((((),()),((),()),(x.1.2.2.1.1,()),(x.1.2.2.2.1.1,()),(0,()),()),(((),(),x.2.1.1.2.2.1,(),()),((),(),x.2.1.2.1.2.2.1,(),()),()),(x.2.2.1,x.2.2.2.1,x.2.2.2.2.1,()))
def yAA:Code:=(zeJ yet 64 244).getD .skip
theorem yMj:zeJ yet 64 61=some (.block 2 (.loop yAA)):=by kernel_rfl
theorem yN5 (x:(yb4).X):zhu ⟨yjG,49,yrf⟩ 2 yAA 244 yb4 yfW yju x=ycp x:=by kernel_rfl
def yyl (x:(yf9).X):Nat:=18446744073709551616
def ypi (x:(yf9).X):Option ((yfW).X ⊕ (yju).X):=zF ycp (yyl x) (yx5 x)
def yyP:Seg:=⟨yf9,yfW,yju,ypi⟩
def yOE:Nat→Option Seg:=fun q=>bif Nat.beq q 61 then some yyP else yrf q
theorem yMH:FrOk prog ⟨yjG,49,yOE⟩ yet:=(yMG).loop (sg:=yyP) yb4 yx5 (by decide) yMj ycp yyl (by decide) (fun _=>rfl) (fun x r _ h=>h) yN5
abbrev yoB:List Par:= [.rd tM]
abbrev ywD:List OT:= [⟨false,tM,(.pr (.ow (.ow .fz)) (.pr (.ow (.pr .fz (.ow .fz))) (.pr .fz (.ow .fz))))⟩]
def yr0 (a0:dM):Option (zaY ywD×zak yoB) :=let r1:=yx a0.2.2.2;zkr (yph ((((),()),((),()),((),()),(a0.1,()),((a0.1.length:Int),()),((),()),()),((a0.1,a0.2.1,a0.2.2.1,a0.2.2.2,()),((),(),false,(),()),((),(),a0.2.2.1,(),()),()),([],r1,()))) (fun y4 =>zkr (ypi ((((),()),((),()),(y4.2.1.1.2.1,()),((y4.2.1.1.2.1.length:Int),()),((),()),()),(((),(),y4.2.1.2.1.2.2.1,(),()),((),(),y4.2.1.2.2.1.2.2.1,(),()),()),(y4.2.2.1,[],y4.2.2.2.1,()))) (fun y8 =>some (((y8.2.2.1,y8.2.2.2.1,y8.2.1.2.1.2.2.1,y8.2.2.2.2.1),()),())) (fun y8 =>none)) (fun y4 =>none)
theorem yQ4:ConOk prog 133 ⟨yoB,ywD,fun x=>yr0 x.1⟩:=zkG (yMH) func133 ntmps133.symm fun x=>by kernel_rfl
def yaN (a0:dM):dM:=a0
theorem yUd (a0:dM) (hk:zjw yoB (a0,())):yr0 a0=(fun n=>some ((n,()),())) (yaN a0):=by
 have hb1:a0.1.length*24≤2^47:=hk.1.1.1;have hb2:a0.2.1.length*32≤2^47:=hk.1.2.1.1
 have h1:yph (yKT a0.1 a0.1.length a0 yc ([],[],a0.2.2.1,a0.2.2.2))=some (.inl (yyy a0 yc (a0.1,[],a0.2.2.1,a0.2.2.2))):=by
  have:=zkv (step:=yco) a0.1 [] (fun i s=>ynI a0.1 a0.1.length i a0 yc (s,[],a0.2.2.1,a0.2.2.2)) (fun s x=>s++ [x]) (fun i s=>s.length=i) (fun s=> .inl (yyy a0 yc (s,[],a0.2.2.1,a0.2.2.2))) (fun i s hi hs2=>⟨by
   simp only[yco,ynI,yn8,zkw (show(i:Int)<a0.1.length by omega),cond_true,wq ((i:Int)+1) (by omega) (by omega),Int.natCast_add,Int.natCast_one,Int.toNat_natCast,zkP hi,zkQ,yx]
   rw[zkD.2 (show(s.length+ [a0.1.getD i []].length)*24≤140737488355328 by simp only[List.length_cons,List.length_nil]; omega)]; rfl,by simp[hs2]⟩) (fun s _=>by simp only[yco,ynI,yn8,zk1 (Int.le_refl _),cond_false]) [] rfl 18446744073709551616 (by omega)
  rw[ywX]at this;exact this
 have h2:ypi (yKU a0.2.1 a0.2.1.length yc (a0.1,[],a0.2.2.1,a0.2.2.2))=some (.inl (yyz yc a0)):=by
  have:=zkv (step:=ycp) a0.2.1 (0,[]) (fun i s=>ynJ a0.2.1 a0.2.1.length i yc (a0.1,s,a0.2.2.1,a0.2.2.2)) (fun s x=>s++ [x]) (fun i s=>s.length=i) (fun s=> .inl (yyz yc (a0.1,s,a0.2.2.1,a0.2.2.2))) (fun i s hi hs2=>⟨by
   simp only[ycp,ynJ,yn9,zkw (show(i:Int)<a0.2.1.length by omega),cond_true,wq ((i:Int)+1) (by omega) (by omega),Int.natCast_add,Int.natCast_one,Int.toNat_natCast,zkP hi,zkQ,yx,zkV]
   rw[zkD.2 (show(s.length+ [a0.2.1.getD i (0,[])].length)*32≤140737488355328 by simp only[List.length_cons,List.length_nil]; omega)]; rfl,by simp[hs2]⟩) (fun s _=>by simp only[ycp,ynJ,yn9,zk1 (Int.le_refl _),cond_false]) [] rfl 18446744073709551616 (by omega)
  rw[ywX]at this;exact this
 unfold yr0 yaN;simp only[yx,h1,zkL,h2]
def yhe:Con:=⟨yoB,ywD,fun x=>(fun n=>some ((n,()),())) (yaN x.1)⟩
theorem ym6:ConOk prog 133 yhe:=(yQ4).mono (fun x r hk h=>(yUd x.1 hk).trans h)
def ymm:Code:=(f74.body).getD .skip
def ys1:Env:=zku TT [(133,yhe)] []
theorem yKh:FrOk prog ⟨ys1,20,fun _=>none⟩ ymm:=zky yf yg ⟨ym6,trivial⟩
def yAq:Nat→Option Seg:=fun _=>none
def ybD:Shape:=⟨[(3,false,[.at 800000000]),(7,false,[.br tM]),(8,false,[.int .i64]),(9,false,[.int .i64])],[],[(800000000,tM,(.pr (.ow (.ow .fz)) (.pr (.ow (.pr .fz (.ow .fz))) (.pr .fz (.ow .fz)))))]⟩
def ye5:Shape:=⟨[(3,false,[.at 800000000]),(7,false,[.br tM]),(8,false,[.int .i64]),(9,false,[.ci .i64 0])],[],[(800000000,tM,(.pr (.ow (.ow .fz)) (.pr (.ow (.pr .fz (.ow .fz))) (.pr .fz (.ow .fz)))))]⟩
def yeX:Shape:=⟨[(3,false,[.at 800000000])],[],[(800000000,tM,(.pr (.ow (.ow .fz)) (.pr (.ow (.pr .fz (.ow .fz))) (.pr .fz (.ow .fz)))))]⟩
def yiE:Shape:=⟨[],[],[]⟩
abbrev yl4 (v0:List dM) (v1 v2:Int) (v3:List dM):(ybD).X:=((((),()),(v0,()),(v1,()),(v2,()),()),(),(v3,()))
abbrev yJf (v0:List dM) (v1:Int) (v2:List dM):(ye5).X:=((((),()),(v0,()),(v1,()),((),()),()),(),(v2,()))
abbrev yI8 (v0:List dM):(yeX).X:=((((),()),()),(),(v0,()))
def ymh (v0:List dM) (v1 v2:Int) (v3:List dM):Option ((ybD).X ⊕ ((yeX).X ⊕ (yiE).X)) :=bif(ltb v2 v1)then bif(inb v2 v0.length)then let r2:=yaN ((nth v0 v2 ([],[],false,[])).1,((nth v0 v2 ([],[],false,[])).2).1,(((nth v0 v2 ([],[],false,[])).2).2));bif(zkj v3.length ([r2]:List dM).length 80)then some (.inl ((((),()),(v0,()),(v1,()),((i64.wrap (v2+1)),()),()),(),((v3++([r2]:List dM)),()))) else none else none else some (.inr (.inl ((((),()),()),(),(v3,()))))
def ybV (x:(ybD).X):=ymh x.1.2.1.1 x.1.2.2.1.1 x.1.2.2.2.1.1 x.2.2.1
def yvC (x:(ye5).X):(ybD).X:=((((),()),(x.1.2.1.1,()),(x.1.2.2.1.1,()),(0,()),()),(),(x.2.2.1,()))
def yxQ:Code:=(zeJ ymm 64 116).getD .skip
theorem yJP:zeJ ymm 64 29=some (.block 0 (.loop yxQ)):=by kernel_rfl
theorem yLu (x:(ybD).X):zhu ⟨ys1,20,yAq⟩ 0 yxQ 116 ybD yeX yiE x=ybV x:=by kernel_rfl
def yvK (x:(ye5).X):Nat:=18446744073709551616
def yng (x:(ye5).X):Option ((yeX).X ⊕ (yiE).X):=zF ybV (yvK x) (yvC x)
def yvZ:Seg:=⟨ye5,yeX,yiE,yng⟩
def yL5:Nat→Option Seg:=fun q=>bif Nat.beq q 29 then some yvZ else yAq q
theorem yKi:FrOk prog ⟨ys1,20,yL5⟩ ymm:=(yKh).loop (sg:=yvZ) ybD yvC (by decide) yJP ybV yvK (by decide) (fun _=>rfl) (fun x r _ h=>h) yLu
abbrev ymz:List Par:= [.rd tMs]
abbrev ytL:List OT:= [⟨false,tMs,(.ow (.pr (.ow (.ow .fz)) (.pr (.ow (.pr .fz (.ow .fz))) (.pr .fz (.ow .fz)))))⟩]
def yp0 (a0:List dM):Option (zaY ytL×zak ymz) :=zkr (yng ((((),()),(a0,()),((a0.length:Int),()),((),()),()),(),(([]:List dM),()))) (fun y2 =>some ((y2.2.2.1,()),())) (fun y2 =>none)
theorem yNI:ConOk prog 74 ⟨ymz,ytL,fun x=>yp0 x.1⟩:=zkG (yKi) func74 ntmps74.symm fun x=>by kernel_rfl
def yfv (a0:List dM):List dM:=a0
theorem yQJ (a0:List dM) (hk:zjw ymz (a0,())):yp0 a0=(fun n=>some ((n,()),())) (yfv a0):=by
 have hb:a0.length*80≤2^47:=hk.1.1
 have h1:=zkv (step:=ybV) a0 yc (fun i s=>yl4 a0 a0.length i s) (fun s x=>s++ [x]) (fun i s=>s.length=i) (fun s=> .inl (yI8 s)) (fun i s hi hs=>⟨by
   simp only[ybV,yl4,ymh,zkw (show(i:Int)<a0.length by omega),cond_true,wq ((i:Int)+1) (by omega) (by omega),Int.natCast_add,Int.natCast_one,Int.toNat_natCast,zkP hi,zkQ,yaN,zkV]
   rw[zkD.2 (show(s.length+ [a0.getD i ([],[],false,[])].length)*80≤140737488355328 by simp only[List.length_cons,List.length_nil]; omega)]; rfl,by simp[hs]⟩) (fun s hs=>by simp only[ybV,yl4,ymh,zk1 (Int.le_refl _),cond_false]) [] rfl 18446744073709551616 (by omega)
 rw[ywX]at h1;unfold yp0 yfv;rw[show yng (yJf a0 a0.length [])=_ from h1]; rfl
def ypy:Con:=⟨ymz,ytL,fun x=>(fun n=>some ((n,()),())) (yfv x.1)⟩
theorem yEf:ConOk prog 74 ypy:=(yNI).mono (fun x r hk h=>(yQJ x.1 hk).trans h)
end
end Go.Tf
