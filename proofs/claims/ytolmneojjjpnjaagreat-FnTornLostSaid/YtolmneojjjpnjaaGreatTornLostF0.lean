/- Functions of the program, and what they come to. -/
import Derived.Test.YtolmneojjjpnjaaGreatTornLostTt
namespace Go.Tf
noncomputable section
open Go.Proofs Go.Proofs.Tryz IntKind
set_option synthInstance.maxHeartbeats 400000
set_option synthInstance.maxSize 10000
set_option linter.unusedVariables false
set_option linter.unusedSimpArgs false
set_option maxRecDepth 100000
def y3Y:Code:=(f14.body).getD .skip
def y3Z:Env:=zku TT [] []
theorem y1i:FrOk prog ⟨y3Z,6,fun _=>none⟩ y3Y:=zky yf yg trivial
abbrev yIA:List Par:= [.rd tYs]
abbrev yIB:List OT:= [⟨false,tB,.fz⟩]
def yMB (a0:List Int):Option (zaY yIB×zak yIA) :=some (((ltb 1048576 (a0.length:Int)),()),())
theorem y2T:ConOk prog 14 ⟨yIA,yIB,fun x=>yMB x.1⟩:=zkG (y1i) func14 ntmps14.symm fun x=>by kernel_rfl
def yCW (a0:List Int):Bool :=(ltb 1048576 (a0.length:Int))
def yKP:Con:=⟨yIA,yIB,fun x=>(fun n=>some ((n,()),())) (yCW x.1)⟩
theorem y3p (a0:List Int):yMB a0=(fun n=>some ((n,()),())) (yCW a0):=zkT (p:=fun(n:Bool)=>((n,()),())) rfl
theorem y3r:ConOk prog 14 yKP:=(y2T).mono (fun x r _ h=>(y3p x.1).trans h)
def yaj {α:Type} (p:α→Bool) (l:List α):Int:=bif l.any p then((l.takeWhile (fun x=> !p x)).length:Int)else -1
theorem yZW {α:Type} (p:α→Bool):yaj p []= -1:=rfl
theorem yCS {α:Type} (p:α→Bool) (x:α) (l:List α):yaj p (x::l)=bif p x then 0 else bif leb 0 (yaj p l)then yaj p l+1 else -1:=by
 unfold yaj;rw[List.any_cons,List.takeWhile_cons];cases p x
 ·cases l.any p
  ·rfl
  ·simp only[Bool.false_or,Bool.not_false,if_true,cond_true,cond_false,List.length_cons]
   rw[zk0 (show(0:Int)≤((l.takeWhile (fun x=> !p x)).length:Int)by omega),cond_true]; omega
 ·simp
theorem yn8 {α:Type} {p:α→Bool} {d:α}: ∀{l:List α},leb 0 (yaj p l)=true→inb (yaj p l) l.length=true∧p (nth l (yaj p l) d)=true
 | [],h=>by rw[yZW]at h; cases h
 | x::l,h=>by
  rw[yCS]at h ⊢;cases hx:p x
  ·rw[hx]at h
   cases hl:leb 0 (yaj p l)
   ·rw[hl]at h; cases h
   ·obtain⟨h1,h2⟩:=yn8 (d:=d) hl
    have h3:=zj4.1 h1;have h4:=zj5.1 hl;simp only[cond_false,cond_true,List.length_cons];refine⟨zj4.2 (by omega),?_⟩;unfold nth at h2 ⊢;rw[show(yaj p l+1).toNat=(yaj p l).toNat+1 by omega,List.getD_cons_succ];exact h2
  ·simp only[cond_true,List.length_cons]
   refine⟨zj4.2 (by omega),?_⟩;exact hx
theorem yLA {A B α:Type} {step:A→Option (A ⊕ B)} (l:List α) (d:α) (f:Nat→A) (p:α→Bool) (b:Int→B) (c:B)
  (h: ∀i,i<l.length→step (f i)=some (bif p (l.getD i d)then .inr (b i)else .inl (f (i+1)))) (e:step (f l.length)=some (.inr c)) (fuel:Nat) (hf:l.length<fuel) :
  zF step fuel (f 0)=some (bif leb 0 (yaj p l)then b (yaj p l)else c):=by
 have: ∀(t q:List α) (fuel:Nat),q++t=l→t.length<fuel→zF step fuel (f q.length)=some (bif leb 0 (yaj p t)then b (q.length+yaj p t)else c):=by
  intro t
  induction t with
  | nil =>
   intro q fuel hq hf;obtain⟨fuel,rfl⟩: ∃m,fuel=m+1:=⟨fuel-1,by omega⟩;rw[List.append_nil]at hq;subst hq;simp only[zF,e]; rfl
  | cons x t ih =>
   intro q fuel hq hf;obtain⟨fuel,rfl⟩: ∃m,fuel=m+1:=⟨fuel-1,by omega⟩
   have hx:l.getD q.length d=x:=by
    subst hq;rw[zkH (by simp)]; simp
   have hs:=h q.length (by rw[← hq]; simp);rw[hx]at hs;rw[yCS];cases hp:p x
   ·rw[hp]at hs
    have:=ih (q++ [x]) fuel (by rw[← hq]; simp) (by simp at hf; omega);simp only[List.length_append,List.length_cons,List.length_nil]at this;simp only[zF,hs,cond_false];rw[show q.length+1=q.length+(0+1)by omega,this];cases hl:leb 0 (yaj p t)
    ·rfl
    ·have:=zj5.1 hl
     rw[cond_true,cond_true,zk0 (show 0≤yaj p t+1 by omega),cond_true];congr 2; omega
   ·rw[hp]at hs
    simp only[zF,hs,cond_true];rw[zk0 (Int.le_refl 0),cond_true,Int.add_zero]
 have:=this l [] fuel rfl hf;simpa using this
theorem yps {α β:Type} (f:α→β): ∀(l:List α) (s:List β),l.foldl (fun s i=>s++ [f i]) s=s++l.map f
 | [],s=>by simp
 | x::l,s=>by rw[List.foldl_cons,yps f l]; simp
theorem yxQ {α:Type} (l:List α):l.foldl (fun s i=>s++ [i]) []=l:=by
 have:=yps id l [];simpa using this
theorem y47 {α:Type} (l:List α) (d:α) {i:Nat} (h:i<l.length):l.take i++ [nth l i d]=l.take (i+1):=by rw[zkQ,zkH h,List.take_append_getElem h]
def ycU (e:dW) (s:Bool×List dW) (x:dW):Bool×List dW:=(s.1||leb e.1 x.1,(bif !s.1&&leb e.1 x.1 then s.2++ [e]else s.2)++(bif x.1 !=e.1 then[x]else[]))
def yMq (l:List dW) (e:dW):List dW:=bif(l.foldl (ycU e) (false,[])).1 then(l.foldl (ycU e) (false,[])).2 else(l.foldl (ycU e) (false,[])).2++ [e]
def yym (a:dA) (l:List dW):dA:=(a.1,a.2.1,a.2.2.1,a.2.2.2.1,a.2.2.2.2.1,a.2.2.2.2.2.1,a.2.2.2.2.2.2.1,a.2.2.2.2.2.2.2.1,l,a.2.2.2.2.2.2.2.2.2)
def y6Y (a:dA):dA:=(a.1,a.2.1,a.2.2.1,a.2.2.2.1,a.2.2.2.2.1,a.2.2.2.2.2.1,a.2.2.2.2.2.2.1,a.2.2.2.2.2.2.2.1,a.2.2.2.2.2.2.2.2.1,-1,true,a.2.2.2.2.2.2.2.2.2.2.2)
abbrev yc:dM:=([],[],false,[])
def isW (x:Int):Bool:=leb 0 x&&leb x 65535
def yaz (s:List Int):Bool:=leb (s.length:Int) 12&&s.all isW
theorem ypu {x:Int}:isW x=true↔0≤x∧x≤65535:=by simp[isW,zj5]
theorem yzE {s:List Int}:yaz s=true↔s.length≤12∧ ∀x∈s,0≤x∧x≤65535:=by
 simp only[yaz,Bool.and_eq_true,zj5,List.all_eq_true,ypu];constructor
 ·rintro⟨h1,h2⟩; exact⟨by omega,h2⟩
 ·rintro⟨h1,h2⟩; exact⟨by omega,h2⟩
theorem y3x: ∀{l:List Int},l.Pairwise (· < ·)↔ ∀i,i+1<l.length→l.getD i 0<l.getD (i+1) 0
 | []=>by simp
 | [x]=>by simp
 | x::y::l=>by
  have ih:=y3x (l:=y::l);constructor
  ·intro h i hi
   cases h with
   | cons h1 h2 =>
    cases i with
    | zero=>exact h1 y List.mem_cons_self
    | succ i=>exact ih.1 h2 i (by simpa using hi)
  ·intro h
   have h2:(y::l).Pairwise (· < ·):=ih.2 fun i hi=>h (i+1) (by simpa using hi)
   refine .cons (fun z hz=> ?_) h2;have h3:x<y:=h 0 (by simp);rcases List.mem_cons.1 hz with rfl | hz
   ·exact h3
   ·cases h2 with
    | cons h4 _=>exact Int.lt_trans h3 (h4 z hz)
def ypq (n:Nat) (l:List Int):Bool:=l.all (fun x=>inb x n)&&decide (l.Pairwise (· < ·))
def ys6 (n:Nat) (w:dW):Bool:=inb w.1 n&&yaz w.2
def yv (m:dM):Bool:=m.1.all yaz&&m.2.1.all (ys6 m.1.length)&&ypq m.1.length m.2.2.2&&leb 1 (m.1.length:Int)&&leb (m.1.length:Int) 20&&leb (m.2.1.length:Int) 60
def yFZ (n:Nat) (l:List Int) (i:Nat):Bool:= !(inb (l.getD i 0) n)||(decide (0<i)&&leb (l.getD i 0) (l.getD (i-1) 0))
theorem yZF (n:Nat) (l:List Int):(List.range l.length).any (yFZ n l)= !(ypq n l):=by
 rw[Bool.eq_iff_iff,List.any_eq_true,Bool.not_eq_true',ypq,Bool.and_eq_false_iff,decide_eq_false_iff_not,y3x,List.all_eq_false];simp only[List.mem_range,yFZ,Bool.or_eq_true,Bool.not_eq_true',Bool.and_eq_true,decide_eq_true_eq,zj5];constructor
 ·rintro⟨i,hi,h | ⟨h1,h2⟩⟩
  ·exact .inl ⟨l[i],List.getElem_mem hi,by rw[zkH hi]at h; simp[h]⟩
  ·refine .inr fun h3=> ?_
   have:=h3 (i-1) (by omega);rw[show i-1+1=i by omega]at this;omega
 ·rintro(⟨x,hx,h⟩ | h)
  ·obtain⟨i,hi,rfl⟩:=List.getElem_of_mem hx
   exact⟨i,hi,.inl (by rw[zkH hi]; simpa using h)⟩
  ·refine Classical.byContradiction fun hc=>h fun i hi=> ?_
   refine Classical.byContradiction fun h4=>hc ⟨i+1,hi,.inr ⟨by omega,?_⟩⟩
   rw[Nat.add_sub_cancel]; omega
def yhL (n:Int) (c:List dW) (s:List Int):List Int:=c.foldl (fun s w=>bif w.1==n then w.2 else s) s
def yta (m:dM) (n:Int):Bool:=yv m&&(!m.2.2.1&&(inb n m.1.length&& !(m.2.2.2.any (· ==n))))
def yQ (m:dM) (n:Int):List Int×Bool:=bif yta m n then(yhL n m.2.1 (nth m.1 n []),true)else([],false)
theorem yI2 {P:List Int→Prop} {n:Int}: ∀{c:List dW} {s:List Int},P s→(∀w∈c,P w.2)→P (yhL n c s)
 | [],_,h,_=>h
 | w::c,s,h,hc=>yI2 (c:=c) (zkO (hc w List.mem_cons_self) h) (fun x hx=>hc x (List.mem_cons_of_mem _ hx))
theorem yxU {α:Type} {P:α→Prop} {l:List α} {i:Int} {d:α} (h:inb i l.length=true) (hl: ∀x∈l,P x):P (nth l i d):=by
 obtain⟨h1,h2⟩:=zj4.1 h;unfold nth;rw[zkH (show i.toNat<l.length by omega)];exact hl _ (List.getElem_mem _)
theorem yX7 {α:Type} {p:α→Bool} {l:List α} (h:leb 0 (yaj p l)=false):yaj p l= -1:=by
 unfold yaj at h ⊢;cases ha:l.any p
 ·rfl
 ·rw[ha,cond_true,zk0 (show(0:Int)≤((l.takeWhile (fun x=> !p x)).length:Int)by omega)]at h; cases h
theorem yZX {α:Type} {p:α→Bool}: ∀{l:List α},leb 0 (yaj p l)=true→(l.take ((yaj p l).toNat+1)).filter (fun x=> !p x)=l.take (yaj p l).toNat
 | [],h=>by rw[yZW]at h; cases h
 | x::l,h=>by
  rw[yCS]at h ⊢;cases hx:p x
  ·rw[hx]at h
   cases hl:leb 0 (yaj p l)
   ·rw[hl]at h; cases h
   ·have h4:=zj5.1 hl
    simp only[cond_false,cond_true];rw[show(yaj p l+1).toNat=(yaj p l).toNat+1 by omega,List.take_succ_cons,List.take_succ_cons,List.filter_cons,hx,yZX hl]; rfl
  ·simp only[cond_true]
   show List.filter (fun x=> !p x) [x]= [];rw[List.filter_cons,hx]; rfl
theorem y5v {α:Type} {p:α→Bool} {l:List α} (h:leb 0 (yaj p l)=false):l.filter (fun x=> !p x)=l:=by
 rw[List.filter_eq_self];intro x hx;unfold yaj at h;cases ha:l.any p
 ·have:=List.any_eq_false.1 ha x hx
  simpa using this
 ·rw[ha,cond_true,zk0 (show(0:Int)≤((l.takeWhile (fun x=> !p x)).length:Int)by omega)]at h; cases h
def yC (a:dA):dA:=(a.1,a.2.1,a.2.2.1,a.2.2.2.1,a.2.2.2.2.1,i64.wrap (a.2.2.2.2.2.1+1),a.2.2.2.2.2.2)
def yy (s:Int):Int:=bif leb 0 s&&leb s 1099511627776 then s+6 else -1
def ycQ (a:dA) (m s:Int):Bool:=inb m a.2.2.1.length&&(!(nth a.2.2.1 m yc).2.2.1&&(m !=a.2.2.2.1||ltb s a.2.2.2.2.1))
def ydw (a:dA) (m s:Int):List Int×Bool:=yQ (nth a.2.2.1 m yc) (yy s)
def yG (a:dA) (m s:Int):Bool:=ycQ a m s&&((ydw a m s).2&&((ydw a m s).1.length:Int)==1)
def yq2 (a:dA) (m s:Int):Int:=bif yG a m s then nth (ydw a m s).1 0 0 else 0
def xw (a b:Int):Int:=i64.wrap ((BitVec.ofInt IntKind.i64.bits a ^^^ BitVec.ofInt IntKind.i64.bits b).toNat:Int)
def yaG (l:List Int):Int:=l.foldl xw 0
def bv (x:Int):BitVec 64:=BitVec.ofInt 64 x
theorem y1Y (a b:Int):xw a b=(bv a ^^^ bv b).toInt:=by
 show i64.wrap ((bv a ^^^ bv b).toNat:Int)=_;rw[IntKind.wrap_i64,BitVec.toInt_eq_toNat_cond];have:=(bv a ^^^ bv b).isLt;split<;>omega
theorem yxG (v:BitVec 64):bv v.toInt=v:=by unfold bv; simp
theorem y5N {x:Int} (h: -9223372036854775808≤x) (h2:x≤9223372036854775807):(bv x).toInt=x:=by
 unfold bv;rw[BitVec.toInt_ofInt,Int.bmod_def];simp only[Nat.reducePow]at *;omega
def yfH (l:List Int):BitVec 64:=l.foldl (fun v x=>v ^^^ bv x) 0#64
theorem yoQ (l:List Int):yaG l=(yfH l).toInt:=by
 have: ∀(l:List Int) (v:BitVec 64),l.foldl xw v.toInt=(l.foldl (fun v x=>v ^^^ bv x) v).toInt:=by
  intro l
  induction l with
  | nil=>intro _; rfl
  | cons x l ih =>
   intro v;rw[List.foldl_cons,List.foldl_cons,y1Y,yxG,ih]
 have h:=this l 0#64;rwa[show(0#64:BitVec 64).toInt=0 from by decide]at h
theorem y5i (l:List Int) (x:Int):yfH (l++ [x])=yfH l ^^^ bv x:=by unfold yfH; rw[List.foldl_append]; rfl
theorem y50 {i:Int} {n:Nat} (h: ¬(0≤i∧i<(n:Int))):inb i n=false:=by
 cases e:inb i n
 ·rfl
 ·exact absurd (zj4.1 e) h
def yoa (l:List Int) (k:Int):Int:=bif inb k l.length then xw (yaG l) (nth l k 0)else yaG l
theorem y0h (u v:BitVec 64):u ^^^ v ^^^ v=u:=by rw[BitVec.xor_assoc,BitVec.xor_self,BitVec.xor_zero]
theorem y40 (l:List Int) (k:Int):(List.range l.length).foldl (fun n (i:Nat)=>bif(i:Int) !=k then xw n (nth l i 0)else n) 0=yoa l k:=by
 have: ∀n,n≤l.length→(List.range n).foldl (fun n (i:Nat)=>bif(i:Int) !=k then xw n (nth l i 0)else n) 0=(bif inb k n then yfH (l.take n) ^^^ bv (nth l k 0)else yfH (l.take n)).toInt:=by
  intro n
  induction n with
  | zero =>
   intro _;rw[y50 (show ¬(0≤k∧k<((0:Nat):Int))by omega)];rfl
  | succ n ih =>
   intro hn;rw[List.range_succ,List.foldl_append,List.foldl_cons,List.foldl_nil,ih (by omega),← y47 l 0 (show n<l.length by omega),y5i];by_cases hk:(n:Int)=k
   ·subst hk
    rw[show((n:Int) !=n)=false by simp,cond_false,y50 (show ¬(0≤(n:Int)∧(n:Int)<(n:Int))by omega),show inb (n:Int) (n+1)=true from zkP (Nat.lt_succ_self n),cond_false,cond_true,y0h]
   ·rw[show((n:Int) !=k)=true from bne_iff_ne.2 hk,cond_true,show inb k (n+1)=inb k n by rw[Bool.eq_iff_iff,zj4,zj4]; omega,y1Y,yxG]
    cases inb k n
    ·rfl
    ·rw[cond_true,cond_true,BitVec.xor_assoc,BitVec.xor_comm (bv (nth l k 0)),← BitVec.xor_assoc]
 rw[this l.length (Nat.le_refl _),List.take_length];unfold yoa;rw[y1Y,yoQ,yxG];cases inb k l.length<;>rfl
theorem y4Z {l:List Int} {k:Int} (h:inb k l.length=true) (h0:nth l k 0=0):yoa l k=yaG l:=by
 unfold yoa;rw[h,h0,cond_true,y1Y,yoQ,yxG,show bv 0=0#64 by decide,BitVec.xor_zero]
theorem yZT {α β:Type} (f:α→List β): ∀(l:List α) (s:List β),l.foldl (fun s i=>s++f i) s=s++l.flatMap f
 | [],s=>by simp
 | x::l,s=>by rw[List.foldl_cons,yZT f l]; simp
abbrev yaJ:dA:=(0,(0,0),[],0,0,0,0,0,[],0,false,false)
def yMM (k:Int) (i:Nat):Bool:=i64.wrap ((BitVec.ofInt IntKind.i64.bits (k.fdiv (2^(min (i:Int).toNat IntKind.i64.bits))) &&& BitVec.ofInt IntKind.i64.bits 1).toNat:Int)==1
def yU2 (k:Int):Int:=bif leb 0 k&&leb k 1048575 then k else 0
def yfw (b:Nat→Bool) (c:List dW) (l:List (List Int)) (i:Nat):List (List Int):=bif b i then l.set (nth c i (0,[])).1.toNat (nth c i (0,[])).2 else l
def ygY (b:Nat→Bool) (c:List dW) (l:List (List Int)):List (List Int):=(List.range c.length).foldl (yfw b c) l
def yd2 (m:dM) (k:Int):dM:=bif yv m then(ygY (fun i=>decide (i<20)&&yMM (yU2 k) i) m.2.1 m.1,[],m.2.2.1,m.2.2.2)else m
def yH6 (ks:List Int) (i:Nat):Int:=bif decide (i<ks.length)then nth ks i 0 else 0
def yaf (l:List dM) (ks:List Int):List dM:=(List.range l.length).map (fun(i:Nat)=>yd2 (nth l i yc) (yH6 ks i))
theorem ycR {m:dM} (h:yv m=true):m.1.all yaz=true∧m.2.1.all (ys6 m.1.length)=true∧ypq m.1.length m.2.2.2=true∧1≤m.1.length∧m.1.length≤20∧m.2.1.length≤60:=by
 simp only[yv,Bool.and_eq_true,zj5]at h;exact⟨h.1.1.1.1.1,h.1.1.1.1.2,h.1.1.1.2,by omega,by omega,by omega⟩
theorem yRh {m:dM} (h:yv m=true) {i:Nat} (hi:i<m.2.1.length):inb (nth m.2.1 i (0,[])).1 m.1.length=true∧yaz (nth m.2.1 i (0,[])).2=true:=by
 have h1:=List.all_eq_true.1 (ycR h).2.1 m.2.1[i] (List.getElem_mem hi);rw[zkQ,zkH hi];exact Bool.and_eq_true_iff.1 h1
theorem yvg {b:Nat→Bool} {c:List dW} {l:List (List Int)} {i:Nat}:(yfw b c l i).length=l.length:=by
 unfold yfw; cases b i
 ·rfl
 ·exact List.length_set
theorem yUo {α β:Type} (P:β→Prop) (f:β→α→β) (h: ∀s x,P s→P (f s x)): ∀(l:List α) (s:β),P s→P (l.foldl f s)
 | [],_,hs=>hs
 | x::l,s,hs=>yUo P f h l (f s x) (h s x hs)
theorem yrc {b:Nat→Bool} {c:List dW} {l:List (List Int)}:(ygY b c l).length=l.length :=
 yUo (fun x=>x.length=l.length) _ (fun s x hs=>by rw[yvg]; exact hs) _ l rfl
theorem y3o {P:List Int→Prop} {b:Nat→Bool} {c:List dW} {l:List (List Int)} (hl: ∀x∈l,P x) (hc: ∀w∈c,P w.2): ∀x∈ygY b c l,P x:=by
 have: ∀(n:Nat),n≤c.length→ ∀x∈(List.range n).foldl (yfw b c) l,P x:=by
  intro n
  induction n with
  | zero=>intro _; exact hl
  | succ n ih =>
   intro hn x hx;rw[List.range_succ,List.foldl_append,List.foldl_cons,List.foldl_nil,yfw]at hx;cases hb:b n
   ·rw[hb]at hx; exact ih (by omega) x hx
   ·rw[hb,cond_true]at hx
    rcases List.mem_or_eq_of_mem_set hx with h | h
    ·exact ih (by omega) x h
    ·rw[h,zkQ,zkH (show n<c.length by omega)]
     exact hc _ (List.getElem_mem _)
 exact this _ (Nat.le_refl _)
def ybp (m:dM) (n:Int) (s:List Int):Bool:=yv m&&(!m.2.2.1&&(inb n m.1.length&&(yaz s&&ltb (m.2.1.length:Int) 60)))
def yJb (l:List Int) (n:Int):List Int:=l.filter (· !=n)
def yZ (m:dM) (n:Int) (s:List Int):dM×Bool:=bif ybp m n s then((m.1,m.2.1++ [(n,s)],m.2.2.1,yJb m.2.2.2 n),true)else(m,false)
def yE (m:dM):dM:=bif yv m&& !m.2.2.1 then(ygY (fun _=>true) m.2.1 m.1,[],m.2.2.1,m.2.2.2)else m
def yao (m:dM):dM:=(m.1,[],true,m.2.2.2)
def y0v:Code:=(f81.body).getD .skip
def y01:Env:=zku TT [] []
theorem yQE:FrOk prog ⟨y01,15,fun _=>none⟩ y0v:=zky yf yg trivial
abbrev yAe:List Par:= [.rd tI,.rd tI,.rd tI]
abbrev yAF:List OT:= [⟨false,tB,.fz⟩]
def yGZ (a0 a1 a2:Int):Option (zaY yAF×zak yAe) :=bif(leb a1 a0)then some (((leb a0 a2),()),()) else some ((false,()),())
theorem yVY:ConOk prog 81 ⟨yAe,yAF,fun x=>yGZ x.1 x.2.1 x.2.2.1⟩:=zkG (yQE) func81 ntmps81.symm fun x=>by kernel_rfl
def yj (a0 a1 a2:Int):Bool :=bif(leb a1 a0)then (leb a0 a2) else false
def yM:Con:=⟨yAe,yAF,fun x=>(fun n=>some ((n,()),())) (yj x.1 x.2.1 x.2.2.1)⟩
theorem yYq (a0 a1 a2:Int):yGZ a0 a1 a2=(fun n=>some ((n,()),())) (yj a0 a1 a2):=zkT (p:=fun(n:Bool)=>((n,()),())) (zkE (p:=fun(n:Bool)=>((n,()),())) rfl rfl)
theorem yS:ConOk prog 81 yM:=(yVY).mono (fun x r _ h=>(yYq x.1 x.2.1 x.2.2.1).trans h)
def y3b:Code:=(f82.body).getD .skip
def y3d:Env:=zku TT [] []
theorem yX3:FrOk prog ⟨y3d,15,fun _=>none⟩ y3b:=zky yf yg trivial
abbrev yHc:List Par:= [.rd tI,.rd tI,.rd tI]
abbrev yHf:List OT:= [⟨false,tB,.fz⟩]
def yJy (a0 a1 a2:Int):Option (zaY yHf×zak yHc) :=bif(leb a1 a0)then some (((leb a0 a2),()),()) else some ((false,()),())
theorem y1G:ConOk prog 82 ⟨yHc,yHf,fun x=>yJy x.1 x.2.1 x.2.2.1⟩:=zkG (yX3) func82 ntmps82.symm fun x=>by kernel_rfl
def yb (a0 a1 a2:Int):Bool :=bif(leb a1 a0)then (leb a0 a2) else false
def yL:Con:=⟨yHc,yHf,fun x=>(fun n=>some ((n,()),())) (yb x.1 x.2.1 x.2.2.1)⟩
theorem y2Q (a0 a1 a2:Int):yJy a0 a1 a2=(fun n=>some ((n,()),())) (yb a0 a1 a2):=zkT (p:=fun(n:Bool)=>((n,()),())) (zkE (p:=fun(n:Bool)=>((n,()),())) rfl rfl)
theorem yT:ConOk prog 82 yL:=(y1G).mono (fun x r _ h=>(y2Q x.1 x.2.1 x.2.2.1).trans h)
theorem yve {a b c:Int}:yb a b c=true↔b≤a∧a≤c:=by
 unfold yb;cases h:leb b a
 ·have:=mt zk0 (by rw[h]; simp: ¬leb b a=true)
  simp[this]
 ·simp[zj5,zj5.1 h]
theorem y6X {a b c:Int} (h:b≤a) (h2:a≤c):yb a b c=true:=yve.2 ⟨h,h2⟩
theorem yal (a b c:Int):yj a b c=yb a b c:=by kernel_rfl
theorem ybU (x a b:Int):yb x a b=(leb a x&&leb x b):=by
 unfold yb; cases leb a x<;>rfl
theorem ykt {x:Int} {n:Nat} (h:n≤1152921504606846976):yb x 0 (i64.wrap ((n:Int)-1))=inb x n:=by
 rw[wr (by omega) (by omega),Bool.eq_iff_iff,yve,zj4]; omega
def y1Z:Code:=(f123.body).getD .skip
def y2f:Env:=zku TT [(81,yM)] []
theorem yUr:FrOk prog ⟨y2f,11,fun _=>none⟩ y1Z:=zky yf yg ⟨yS,trivial⟩
abbrev yDu:List Par:= [.rd tG]
abbrev yDE:List OT:= [⟨false,tB,.fz⟩]
def yIo (a0:dG):Option (zaY yDE×zak yDu) :=let r1:=yj a0.1 3 5;bif r1 then let r2:=yj a0.2 1 8;some ((r2,()),()) else some ((false,()),())
theorem yYN:ConOk prog 123 ⟨yDu,yDE,fun x=>yIo x.1⟩:=zkG (yUr) func123 ntmps123.symm fun x=>by kernel_rfl
def ybP (a0:dG):Bool :=let r1:=yj a0.1 3 5;bif r1 then let r2:=yj a0.2 1 8;r2 else false
def ygV:Con:=⟨yDu,yDE,fun x=>(fun n=>some ((n,()),())) (ybP x.1)⟩
theorem y1m (a0:dG):yIo a0=(fun n=>some ((n,()),())) (ybP a0):=zkT (p:=fun(n:Bool)=>((n,()),())) (zkE (p:=fun(n:Bool)=>((n,()),())) rfl rfl)
theorem yl9:ConOk prog 123 ygV:=(yYN).mono (fun x r _ h=>(y1m x.1).trans h)
def y0u:Code:=(f125.body).getD .skip
def y00:Env:=zku TT [(81,yM)] []
theorem yQD:FrOk prog ⟨y00,26,fun _=>none⟩ y0u:=zky yf yg ⟨yS,trivial⟩
abbrev yAd:List Par:= [.rd tG,.rd tI,.rd tI]
abbrev yAE:List OT:= [⟨false,tB,.fz⟩]
def yGY (a0:dG) (a1 a2:Int):Option (zaY yAE×zak yAd) :=let r1:=yj a1 (-1) (i64.wrap (a0.1-1));bif r1 then let r2:=yj a2 0 a0.2;bif r2 then bif(!(a2==0))then some (((a1 !=(-1)),()),()) else some ((true,()),()) else some ((false,()),()) else some ((false,()),())
theorem yVX:ConOk prog 125 ⟨yAd,yAE,fun x=>yGY x.1 x.2.1 x.2.2.1⟩:=zkG (yQD) func125 ntmps125.symm fun x=>by kernel_rfl
def yf4 (a0:dG) (a1 a2:Int):Bool :=let r1:=yj a1 (-1) (i64.wrap (a0.1-1));bif r1 then let r2:=yj a2 0 a0.2;bif r2 then bif(!(a2==0))then (a1 !=(-1)) else true else false else false
def yuP:Con:=⟨yAd,yAE,fun x=>(fun n=>some ((n,()),())) (yf4 x.1 x.2.1 x.2.2.1)⟩
theorem yYp (a0:dG) (a1 a2:Int):yGY a0 a1 a2=(fun n=>some ((n,()),())) (yf4 a0 a1 a2):=zkT (p:=fun(n:Bool)=>((n,()),())) (zkE (p:=fun(n:Bool)=>((n,()),())) (zkE (p:=fun(n:Bool)=>((n,()),())) (zkE (p:=fun(n:Bool)=>((n,()),())) rfl rfl) rfl) rfl)
theorem yIf:ConOk prog 125 yuP:=(yVX).mono (fun x r _ h=>(yYp x.1 x.2.1 x.2.2.1).trans h)
def yPM:Code:=(f109.body).getD .skip
def yP4:Env:=zku TT [(81,yM),(123,ygV)] []
theorem yJT:FrOk prog ⟨yP4,14,fun _=>none⟩ yPM:=zky yf yg ⟨yS,yl9,trivial⟩
abbrev yr8:List Par:= [.rd tG,.rd tI]
abbrev ysa:List OT:= [⟨false,tB,.fz⟩]
def yzD (a0:dG) (a1:Int):Option (zaY ysa×zak yr8) :=let r1:=ybP a0;bif r1 then let r2:=yj a1 0 (i64.wrap (a0.2-1));some ((r2,()),()) else some ((false,()),())
theorem yMh:ConOk prog 109 ⟨yr8,ysa,fun x=>yzD x.1 x.2.1⟩:=zkG (yJT) func109 ntmps109.symm fun x=>by kernel_rfl
def yaI (a0:dG) (a1:Int):Bool :=let r1:=ybP a0;bif r1 then let r2:=yj a1 0 (i64.wrap (a0.2-1));r2 else false
def ydi:Con:=⟨yr8,ysa,fun x=>(fun n=>some ((n,()),())) (yaI x.1 x.2.1)⟩
theorem yOI (a0:dG) (a1:Int):yzD a0 a1=(fun n=>some ((n,()),())) (yaI a0 a1):=zkT (p:=fun(n:Bool)=>((n,()),())) (zkE (p:=fun(n:Bool)=>((n,()),())) rfl rfl)
theorem ygM:ConOk prog 109 ydi:=(yMh).mono (fun x r _ h=>(yOI x.1 x.2.1).trans h)
def y0t:Code:=(f135.body).getD .skip
def y0Z:Env:=zku TT [(81,yM)] []
theorem yQC:FrOk prog ⟨y0Z,5,fun _=>none⟩ y0t:=zky yf yg ⟨yS,trivial⟩
abbrev yAc:List Par:= [.rd tI]
abbrev yAD:List OT:= [⟨false,tB,.fz⟩]
def yGX (a0:Int):Option (zaY yAD×zak yAc) :=let r1:=yj a0 0 65535;some ((r1,()),())
theorem yVW:ConOk prog 135 ⟨yAc,yAD,fun x=>yGX x.1⟩:=zkG (yQC) func135 ntmps135.symm fun x=>by kernel_rfl
def yaN (a0:Int):Bool :=let r1:=yj a0 0 65535;r1
def yGj:Con:=⟨yAc,yAD,fun x=>(fun n=>some ((n,()),())) (yaN x.1)⟩
theorem yYo (a0:Int):yGX a0=(fun n=>some ((n,()),())) (yaN a0):=zkT (p:=fun(n:Bool)=>((n,()),())) rfl
theorem yZd:ConOk prog 135 yGj:=(yVW).mono (fun x r _ h=>(yYo x.1).trans h)
def yoY:Code:=(f187.body).getD .skip
def ywW:Env:=zku TT [(135,yGj)] []
theorem yNW:FrOk prog ⟨ywW,15,fun _=>none⟩ yoY:=zky yf yg ⟨yZd,trivial⟩
def yDd:Nat→Option Seg:=fun _=>none
def yd0:Shape:=⟨[(5,false,[.br tI]),(6,false,[.int .i64]),(7,false,[.int .i64])],[],[]⟩
def yjN:Shape:=⟨[(5,false,[.br tI]),(6,false,[.int .i64]),(7,false,[.ci .i64 0])],[],[]⟩
def yjL:Shape:=⟨[],[],[]⟩
def yjV:Shape:=⟨[(2,false,[.bool])],[],[]⟩
def yoJ (v0:List Int) (v1 v2:Int):Option ((yd0).X ⊕ ((yjL).X ⊕ (yjV).X)) :=bif(ltb v2 v1)then bif(inb v2 v0.length)then let r2:=yaN (nth v0 v2 0);bif(!r2)then some (.inr (.inr (((false,()),()),(),()))) else some (.inl (((v0,()),(v1,()),((i64.wrap (v2+1)),()),()),(),())) else none else some (.inr (.inl ((),(),())))
def ycD (x:(yd0).X):=yoJ x.1.1.1 x.1.2.1.1 x.1.2.2.1.1
def yy3 (x:(yjN).X):(yd0).X:=(((x.1.1.1,()),(x.1.2.1.1,()),(0,()),()),(),())
def yBz:Code:=(zeJ yoY 64 52).getD .skip
theorem yNr:zeJ yoY 64 13=some (.block 0 (.loop yBz)):=by kernel_rfl
theorem yPm (x:(yd0).X):zhu ⟨ywW,15,yDd⟩ 0 yBz 52 yd0 yjL yjV x=ycD x:=by kernel_rfl
def yzk (x:(yjN).X):Nat:=18446744073709551616
def yp0 (x:(yjN).X):Option ((yjL).X ⊕ (yjV).X):=zF ycD (yzk x) (yy3 x)
def yzO:Seg:=⟨yjN,yjL,yjV,yp0⟩
def yPV:Nat→Option Seg:=fun q=>bif Nat.beq q 13 then some yzO else yDd q
theorem yNX:FrOk prog ⟨ywW,15,yPV⟩ yoY:=(yNW).loop (sg:=yzO) yd0 yy3 (by decide) yNr ycD yzk (by decide) (fun _=>rfl) (fun x r _ h=>h) yPm
abbrev ypc:List Par:= [.rd tL]
abbrev yxu:List OT:= [⟨false,tB,.fz⟩]
def ysI (a0:List Int):Option (zaY yxu×zak ypc) :=zkr (yp0 (((a0,()),((a0.length:Int),()),((),()),()),(),())) (fun y2 =>some ((true,()),())) (fun y2 =>some ((y2.1.1.1,()),()))
theorem ySo:ConOk prog 187 ⟨ypc,yxu,fun x=>ysI x.1⟩:=zkG (yNX) func187 ntmps187.symm fun x=>by kernel_rfl
def yaD (a0:List Int):Bool:=a0.all yaN
theorem yVv (a0:List Int) (hk:zjw ypc (a0,())):ysI a0=(fun n=>some ((n,()),())) (yaD a0):=by
 have hb:a0.length*8≤2^47:=hk.1.1
 have hl:yp0 (((a0,()),((a0.length:Int),()),((),()),()),(),())=some (bif a0.all yaN then .inl ((),(),())else .inr (((false,()),()),(),())) :=
  zj7 (step:=ycD) a0 0 (fun i=>(((a0,()),((a0.length:Int),()),((i:Int),()),()),(),())) yaN _ _ (fun i hi=>by
   simp only[ycD,yoJ,zkP hi,zkQ,zkw (show(i:Int)<a0.length by omega),cond_true,wq ((i:Int)+1) (by omega) (by omega),Int.natCast_add,Int.natCast_one]
   cases yaN (a0.getD i 0)<;>rfl) (by simp only[ycD,yoJ,zk1 (Int.le_refl _),cond_false]) _ (by show _<18446744073709551616; omega)
 unfold ysI yaD;rw[hl];cases a0.all yaN<;>rfl
def yln:Con:=⟨ypc,yxu,fun x=>(fun n=>some ((n,()),())) (yaD x.1)⟩
theorem yvw:ConOk prog 187 yln:=(ySo).mono (fun x r hk h=>(yVv x.1 hk).trans h)
def y0q:Code:=(f129.body).getD .skip
def y0W:Env:=zku TT [(187,yln)] []
theorem yQz:FrOk prog ⟨y0W,15,fun _=>none⟩ y0q:=zky yf yg ⟨yvw,trivial⟩
abbrev yz9:List Par:= [.rd tG,.rd tL]
abbrev yAA:List OT:= [⟨false,tB,.fz⟩]
def yGU (a0:dG) (a1:List Int):Option (zaY yAA×zak yz9) :=bif((a1.length:Int)==(i64.wrap (a0.1-1)))then let r1:=yaD a1;some ((r1,()),()) else some ((false,()),())
theorem yVT:ConOk prog 129 ⟨yz9,yAA,fun x=>yGU x.1 x.2.1⟩:=zkG (yQz) func129 ntmps129.symm fun x=>by kernel_rfl
def yek (a0:dG) (a1:List Int):Bool :=bif((a1.length:Int)==(i64.wrap (a0.1-1)))then let r1:=yaD a1;r1 else false
def yuO:Con:=⟨yz9,yAA,fun x=>(fun n=>some ((n,()),())) (yek x.1 x.2.1)⟩
theorem yYl (a0:dG) (a1:List Int):yGU a0 a1=(fun n=>some ((n,()),())) (yek a0 a1):=zkT (p:=fun(n:Bool)=>((n,()),())) (zkE (p:=fun(n:Bool)=>((n,()),())) rfl rfl)
theorem yIe:ConOk prog 129 yuO:=(yVT).mono (fun x r _ h=>(yYl x.1 x.2.1).trans h)
def y16:Code:=(f150.body).getD .skip
def y2j:Env:=zku TT [(82,yL)] []
theorem yUD:FrOk prog ⟨y2j,11,fun _=>none⟩ y16:=zky yf yg ⟨yT,trivial⟩
abbrev yDx:List Par:= [.rd tG]
abbrev yDL:List OT:= [⟨false,tB,.fz⟩]
def yIr (a0:dG):Option (zaY yDL×zak yDx) :=let r1:=yb a0.1 3 5;bif r1 then let r2:=yb a0.2 1 8;some ((r2,()),()) else some ((false,()),())
theorem yYU:ConOk prog 150 ⟨yDx,yDL,fun x=>yIr x.1⟩:=zkG (yUD) func150 ntmps150.symm fun x=>by kernel_rfl
def yd (a0:dG):Bool :=let r1:=yb a0.1 3 5;bif r1 then let r2:=yb a0.2 1 8;r2 else false
def ygW:Con:=⟨yDx,yDL,fun x=>(fun n=>some ((n,()),())) (yd x.1)⟩
theorem y1t (a0:dG):yIr a0=(fun n=>some ((n,()),())) (yd a0):=zkT (p:=fun(n:Bool)=>((n,()),())) (zkE (p:=fun(n:Bool)=>((n,()),())) rfl rfl)
theorem yma:ConOk prog 150 ygW:=(yYU).mono (fun x r _ h=>(y1t x.1).trans h)
theorem yl {a:Int×Int}:yd a=true↔(3≤a.1∧a.1≤5)∧1≤a.2∧a.2≤8:=by
 unfold yd;cases h:yb a.1 3 5
 ·have: ¬(3≤a.1∧a.1≤5):=fun e=>by rw[yve.2 e]at h; simp at h
  simp[this]
 ·simp only[cond_true,yve]
  exact⟨fun e=>⟨yve.1 h,e⟩,fun e=>e.2⟩
def yhD (a:dA) (i:Nat):Bool:= !(yv (nth a.2.2.1 i yc))||((((nth a.2.2.1 i yc).1.length:Int) !=6+a.2.1.2)||((nth a.2.2.1 i yc).2.2.1&&(((i:Int) !=a.2.2.2.1)&& !a.2.2.2.2.2.2.2.2.2.2.2)))
def ylW (a:dA):Bool:= !((List.range a.2.2.1.length).any (yhD a))&&(a.2.2.1.length:Int)==a.2.1.1
def yh9 (g:dG) (l:List dW) (i:Nat):Bool:= !(leb 0 (nth l i (0,[])).1&&leb (nth l i (0,[])).1 (g.2-1))||(((nth l i (0,[])).2.length:Int) !=g.1-1||(!((nth l i (0,[])).2.all isW)||(decide (0<i)&&leb (nth l i (0,[])).1 (nth l ((i-1:Nat):Int) (0,[])).1)))
def yaY (g:dG) (l:List dW):Bool:= !((List.range l.length).any (yh9 g l))
def yae (a:dA):Bool :=yd a.2.1&&((leb 1 a.1&&leb a.1 60000)&&(ylW a&&(yaY a.2.1 a.2.2.2.2.2.2.2.2.1&&((leb (-1) a.2.2.2.1&&leb a.2.2.2.1 (a.2.1.1-1))&&((leb 0 a.2.2.2.2.1&&leb a.2.2.2.2.1 a.2.1.2)&&(!(a.2.2.2.1== -1&&a.2.2.2.2.1 !=0) && ((leb 0 a.2.2.2.2.2.2.1&&leb a.2.2.2.2.2.2.1 60000)&&((leb a.2.2.2.2.2.2.1 a.2.2.2.2.2.1&&leb a.2.2.2.2.2.1 60000)&&(leb a.2.2.2.2.2.1 (a.2.2.2.2.2.2.1+4)&&((leb 0 a.2.2.2.2.2.2.2.1&&leb a.2.2.2.2.2.2.2.1 60000)&&(leb (-1) a.2.2.2.2.2.2.2.2.2.1&&leb a.2.2.2.2.2.2.2.2.2.1 1000)))))))))))
theorem yi7 {a:dA} (h:yae a=true):yd a.2.1=true:=(Bool.and_eq_true_iff.1 h).1
theorem y31 {a:dA} (h:yae a=true):ylW a=true:=by simp only[yae,Bool.and_eq_true]at h; exact h.2.2.1
theorem yFY {a:dA} (h:yae a=true):(a.2.2.1.length:Int)=a.2.1.1:=by have:=y31 h; simp only[ylW,Bool.and_eq_true,beq_iff_eq]at this; exact this.2
theorem y4Y {a:dA} (h:ylW a=true) {i:Nat} (hi:i<a.2.2.1.length):yv (nth a.2.2.1 i yc)=true∧((nth a.2.2.1 i yc).1.length:Int)=6+a.2.1.2∧((nth a.2.2.1 i yc).2.2.1=true→(i:Int)=a.2.2.2.1∨a.2.2.2.2.2.2.2.2.2.2.2=true):=by
 simp only[ylW,Bool.and_eq_true,Bool.not_eq_true',List.any_eq_false,List.mem_range]at h;have:=h.1 i hi;simp only[yhD,Bool.not_eq_true,Bool.or_eq_false_iff,Bool.not_eq_false',bne_eq_false_iff_eq,Bool.and_eq_false_iff]at this;refine⟨this.1,this.2.1,fun hf=> ?_⟩;rcases this.2.2 with h1 | h1 | h1
 ·rw[hf]at h1; cases h1
 ·exact .inl h1
 ·exact .inr h1
theorem yLx (a:Int×Int):ybP a=yd a:=by kernel_rfl
theorem yXX: ∀{l:List Int} {lo n:Int},l.Pairwise (· < ·)→(∀x∈l,lo≤x∧x<n)→lo≤n→(l.length:Int)≤n-lo
 | [],lo,n,_,_,h=>by simp; omega
 | x::l,lo,n,hp,hx,h=>by
  cases hp with
  | cons h1 h2 =>
   have h3:=hx x List.mem_cons_self;have:=yXX (l:=l) (lo:=x+1) (n:=n) h2 (fun y hy=>⟨h1 y hy,(hx y (List.mem_cons_of_mem _ hy)).2⟩) (by omega);rw[List.length_cons]; omega
theorem ys7 {n:Nat} {l:List Int}:ypq n l=true↔(∀x∈l,0≤x∧x<n)∧l.Pairwise (· < ·):=by
 simp only[ypq,Bool.and_eq_true,List.all_eq_true,zj4,decide_eq_true_eq]
theorem ysi {m:dM} (h1:m.1.all yaz=true) (h2:m.2.1.all (ys6 m.1.length)=true) (h3:ypq m.1.length m.2.2.2=true) (h4:1≤m.1.length) (h5:m.1.length≤20) (h6:m.2.1.length≤60):yv m=true:=by
 simp only[yv,h1,h2,h3,Bool.true_and,Bool.and_eq_true,zj5];omega
theorem yU6 {m:dM} (b:Nat→Bool) (h:yv m=true):(ygY b m.2.1 m.1).all yaz=true:=by
 obtain⟨h1,h2,_⟩:=ycR h;rw[List.all_eq_true];exact y3o (P:=fun x=>yaz x=true) (fun x hx=>List.all_eq_true.1 h1 x hx) (fun w hw=>(Bool.and_eq_true_iff.1 (List.all_eq_true.1 h2 w hw)).2)
theorem y3a {m:dM} (n:Int) (s:List Int) (h:yv m=true):yv (yZ m n s).1=true:=by
 unfold yZ;cases hc:ybp m n s
 ·exact h
 ·simp only[ybp,Bool.and_eq_true,Bool.not_eq_true',zj8]at hc
  obtain⟨h1,h2,h3,h4,h5,h6⟩:=ycR h;refine ysi h1 ?_ ?_ h4 h5 (by show(m.2.1++ [(n,s)]).length≤60; rw[List.length_append]; simp only[List.length_cons,List.length_nil]; omega)
  ·show(m.2.1++ [(n,s)]).all (ys6 m.1.length)=true
   rw[List.all_append,h2];simp[ys6,hc.2.2.1,hc.2.2.2.1]
  ·show ypq m.1.length (yJb m.2.2.2 n)=true
   obtain⟨b1,b2⟩:=ys7.1 h3;exact ys7.2 ⟨fun x hx=>b1 x (List.mem_filter.1 hx).1,b2.filter _⟩
theorem yzV (m:dM) (n:Int) (s:List Int):(yZ m n s).1.1=m.1∧(yZ m n s).1.2.2.1=m.2.2.1:=by
 unfold yZ;cases ybp m n s<;>exact⟨rfl,rfl⟩
theorem y5u {m:dM} (h:yv m=true):yv (yE m)=true:=by
 unfold yE;cases hc:(yv m&& !m.2.2.1)
 ·exact h
 ·obtain⟨h1,h2,h3,h4,h5,h6⟩:=ycR h
  refine ysi (yU6 _ h) rfl ?_ ?_ ?_ (Nat.zero_le _)
  ·show ypq (ygY _ m.2.1 m.1).length m.2.2.2=true; rw[yrc]; exact h3
  ·show 1≤(ygY _ m.2.1 m.1).length; rw[yrc]; exact h4
  ·show(ygY _ m.2.1 m.1).length≤20; rw[yrc]; exact h5
theorem ytd (m:dM):(yE m).1.length=m.1.length∧(yE m).2.2.1=m.2.2.1:=by
 unfold yE;cases(yv m&& !m.2.2.1)
 ·exact⟨rfl,rfl⟩
 ·exact⟨yrc,rfl⟩
theorem yMS {m:dM} (h:yv m=true):yv (yao m)=true:=by
 obtain⟨h1,h2,h3,h4,h5,h6⟩:=ycR h;exact ysi h1 rfl h3 h4 h5 (Nat.zero_le _)
def y4Q (g:dG):Bool:=decide ((-1000≤g.1∧g.1≤1000)∧ -1000≤g.2∧g.2≤1000)
theorem y4S {g:dG} (h:(yd g||y4Q g)=true):(-1000≤g.1∧g.1≤1000)∧ -1000≤g.2∧g.2≤1000:=by
 rcases Bool.or_eq_true_iff.1 h with h | h
 ·have:=yl.1 h; omega
 ·exact of_decide_eq_true h
def ynB (p:Nat→Bool) (n:Nat):Nat:=((List.range n).filter (fun i=> !p i)).length
theorem yCU (p:Nat→Bool) (n:Nat):ynB p (n+1)=bif p n then ynB p n else ynB p n+1:=by
 unfold ynB;rw[List.range_succ,List.filter_append,List.length_append,List.filter_cons];cases p n<;>simp
theorem y3N {α:Type} (A:List α) (y:α) (t:List α) (d:α):(A++y::t).getD A.length d=y:=by
 rw[List.getD_eq_getElem?_getD,List.getElem?_append_right (Nat.le_refl _),Nat.sub_self]; rfl
theorem y3T {α:Type} (A:List α) (y z:α) (t:List α):(A++y::t).set A.length z=A++z::t:=by
 rw[List.set_append_right _ _ (Nat.le_refl _),Nat.sub_self]; rfl
def yvf (l:List Int) (n:Int):List Int:=l.filter (fun x=>ltb x n)++n::l.filter (fun x=>ltb n x)
def spoil (m:dM) (n:Int):dM:=bif yv m&&(inb n m.1.length&& !(m.2.2.2.any (· ==n)))then(m.1,m.2.1,m.2.2.1,yvf m.2.2.2 n)else m
theorem y21 {l:List Int} {n:Int} (h:l.Pairwise (· < ·)) (hn:n∉l):l=l.filter (fun x=>ltb x n)++l.filter (fun x=>ltb n x):=by
 induction l with
 | nil=>rfl
 | cons x t ih =>
  obtain⟨hx,ht⟩:=List.pairwise_cons.1 h;simp only[List.mem_cons,not_or]at hn;rw[List.filter_cons,List.filter_cons];by_cases hlt:x<n
  ·rw[zkw hlt,zk1 (show x≤n by omega)]
   simp only[if_true,Bool.false_eq_true,if_false,List.cons_append];rw[← ih ht hn.2]
  ·have h3:t.filter (fun x=>ltb x n)= []:=List.filter_eq_nil_iff.2 (fun y hy=>by rw[zk1 (by have:=hx y hy; omega)]; simp)
   have h4:t.filter (fun x=>ltb n x)=t:=List.filter_eq_self.2 (fun y hy=>zkw (by have:=hx y hy; omega));rw[zk1 (show n≤x by omega),zkw (show n<x by omega),h3,h4]; rfl
theorem yTe {m:dM} (n:Int) (h:yv m=true):yv (spoil m n)=true:=by
 unfold spoil;cases hc:(yv m&&(inb n m.1.length&& !(m.2.2.2.any (· ==n))))
 ·exact h
 ·simp only[Bool.and_eq_true]at hc
  have hi:=zj4.1 hc.2.1;obtain⟨h1,h2,h3,h4,h5,h6⟩:=ycR h;rw[ys7]at h3;refine ysi h1 h2 ?_ h4 h5 h6;show ypq m.1.length (yvf m.2.2.2 n)=true;rw[ys7];unfold yvf;refine⟨fun x hx=> ?_,?_⟩
  ·rcases List.mem_append.1 hx with g | g
   ·exact h3.1 x (List.mem_filter.1 g).1
   ·rcases List.mem_cons.1 g with rfl | g
    ·exact hi
    ·exact h3.1 x (List.mem_filter.1 g).1
  ·rw[List.pairwise_append,List.pairwise_cons]
   refine⟨h3.2.filter _,⟨fun y hy=>zj8.1 (List.mem_filter.1 hy).2,h3.2.filter _⟩,fun x hx y hy=> ?_⟩;have g1:=zj8.1 (List.mem_filter.1 hx).2;rcases List.mem_cons.1 hy with rfl | hy
   ·exact g1
   ·exact Int.lt_trans g1 (zj8.1 (List.mem_filter.1 hy).2)
theorem yoz (m:dM) (n:Int):(spoil m n).1=m.1∧(spoil m n).2.2.1=m.2.2.1:=by
 unfold spoil;cases(yv m&&(inb n m.1.length&& !(m.2.2.2.any (· ==n))))<;>exact⟨rfl,rfl⟩
def yN (g:dG) (s:Int):Bool:=yd g&&(leb 0 s&&leb s (g.2-1))
def yk (g:dG) (s:Int):Int:=bif yN g s then g.1-1-s.tmod g.1 else -1
def yaV (g:dG) (s i:Int):Int:=bif yN g s&&(leb 0 i&&leb i (g.1-2))then(yk g s+1+i).tmod g.1 else -1
theorem yW {g:dG} {s:Int}:yN g s=true↔yd g=true∧0≤s∧s≤g.2-1:=by simp[yN,zj5]
theorem yju {g:dG} {s:Int} (h:yN g s=true):0≤yk g s∧yk g s≤g.1-1:=by
 have h1:=yW.1 h;have h2:=yl.1 h1.1;unfold yk;rw[h,cond_true,Int.tmod_eq_emod_of_nonneg h1.2.1];have:=Int.emod_nonneg s (show g.1≠0 by omega);have:=Int.emod_lt_of_pos s (show 0<g.1 by omega);omega
theorem yMP {g:dG} {s i:Int} (h:yN g s=true) (h1:0≤i) (h2:i≤g.1-2):0≤yaV g s i∧yaV g s i≤g.1-1:=by
 have h3:=yl.1 (yW.1 h).1;have h4:=yju h;unfold yaV;rw[h,zk0 h1,zk0 h2,Bool.and_self,Bool.and_self,cond_true,Int.tmod_eq_emod_of_nonneg (by omega)];have:=Int.emod_nonneg (yk g s+1+i) (show g.1≠0 by omega);have:=Int.emod_lt_of_pos (yk g s+1+i) (show 0<g.1 by omega);omega
def yK (p:Nat→Bool):Nat→Int
 | 0=> -1
 | n+1=>bif p n then yK p n else n
def ye8 (p:Nat→Bool) (n:Nat):Bool:=(List.range n).any (fun i=> !p i&&leb 0 (yK p i))
theorem yLD (p:Nat→Bool): ∀n,yK p n= -1∨(0≤yK p n∧yK p n<n∧p (yK p n).toNat=false)
 | 0=> .inl rfl
 | n+1=>by
  unfold yK;cases h:p n
  ·exact .inr ⟨by show(0:Int)≤n; omega,by show(n:Int)<_; omega,h⟩
  ·rcases yLD p n with h1 | h1
   ·exact .inl h1
   ·exact .inr ⟨h1.1,by show yK p n<_; omega,h1.2.2⟩
def yai (a:dA) (s:Int) (n:Nat):List Int:=(List.range n).map (fun(i:Nat)=>yq2 a i s)
theorem yfG (a:dA) (s:Int) (n:Nat):(yai a s n).length=n:=by unfold yai; rw[List.length_map,List.length_range]
theorem yJB (a:dA) (s:Int) (n:Nat):yai a s n++ [yq2 a n s]=yai a s (n+1):=by unfold yai; rw[List.range_succ,List.map_append]; rfl
theorem y3v (a:dA) (s:Int) {i n:Nat} (h:i<n):nth (yai a s n) i 0=yq2 a i s:=by
 unfold yai;rw[zkQ,zkH (by rw[List.length_map,List.length_range]; exact h)]; simp
def yR (a:dA) (s:Int):List Int×Bool :=bif ye8 (fun(i:Nat)=>yG a i s) a.2.1.1.toNat then([],false) else bif leb 0 (yK (fun(i:Nat)=>yG a i s) a.2.1.1.toNat)then((yai a s a.2.1.1.toNat).set (yK (fun(i:Nat)=>yG a i s) a.2.1.1.toNat).toNat (yaG (yai a s a.2.1.1.toNat)),true) else(yai a s a.2.1.1.toNat,true)
theorem yMK {a:dA} {s:Int} (h:(yR a s).2=true):(yR a s).1.length=a.2.1.1.toNat:=by
 unfold yR at h ⊢;cases h1:ye8 (fun(i:Nat)=>yG a i s) a.2.1.1.toNat
 ·cases leb 0 (yK (fun(i:Nat)=>yG a i s) a.2.1.1.toNat)
  ·exact yfG _ _ _
  ·simp only[cond_false,cond_true,List.length_set]; exact yfG _ _ _
 ·rw[h1]at h; cases h
theorem yZ4 (a:dA) (s:Int) (n:Nat) (h:leb 0 (yK (fun(i:Nat)=>yG a i s) n)=true):inb (yK (fun(i:Nat)=>yG a i s) n) (yai a s n).length=true∧yoa (yai a s n) (yK (fun(i:Nat)=>yG a i s) n)=yaG (yai a s n):=by
 rcases yLD (fun(i:Nat)=>yG a i s) n with h1 | h1
 ·rw[h1]at h; cases h
 ·have h2:inb (yK (fun(i:Nat)=>yG a i s) n) (yai a s n).length=true:=by rw[yfG,zj4]; exact⟨h1.1,h1.2.1⟩
  refine⟨h2,y4Z h2 ?_⟩;have h3:=y3v a s (show(yK (fun(i:Nat)=>yG a i s) n).toNat<n by omega);rw[show(((yK (fun(i:Nat)=>yG a i s) n).toNat:Nat):Int)=yK (fun(i:Nat)=>yG a i s) n by omega]at h3;rw[h3];unfold yq2
  have h4:yG a (yK (fun(i:Nat)=>yG a i s) n) s=false:=by
   have:=h1.2.2;have this:yG a ((yK (fun(i:Nat)=>yG a i s) n).toNat:Nat) s=false:=h1.2.2;rwa[show(((yK (fun(i:Nat)=>yG a i s) n).toNat:Nat):Int)=yK (fun(i:Nat)=>yG a i s) n by omega]at this
  rw[h4]; rfl
def yrL (a:dA) (s:Int):List Int×Bool:=bif(yR a s).2 then((List.range (a.2.1.1-1).toNat).map (fun(i:Nat)=>nth (yR a s).1 (yaV a.2.1 s i) 0),true)else([],false)
def ydU (a:dA) (s:Int):List Int×Bool:=bif yae a&&(!a.2.2.2.2.2.2.2.2.2.2.2&&yN a.2.1 s)then yrL a s else([],false)
theorem y4I (a:dA) (s:Int):(yrL a s).1.length≤(a.2.1.1-1).toNat:=by
 unfold yrL;cases(yR a s).2
 ·exact Nat.zero_le _
 ·simp
def yxP (a:dA):List Int:=bif yae a&&(List.range a.2.1.2.toNat).all (fun(s:Nat)=>(ydU a s).2)then(List.range a.2.1.2.toNat).flatMap (fun(s:Nat)=>(ydU a s).1)else[]
theorem yyy (g:dG) (s:Int):yaI g s=yN g s:=by
 unfold yaI yN;rw[yLx];cases hg:yd g
 ·rfl
 have:=yl.1 hg;rw[yal,ybU,wr (by omega) (by omega)]; rfl
theorem y37 {a:dA} (s:Int) (hg:yd a.2.1=true):(ydU a s).1.length≤4:=by
 have:=yl.1 hg;unfold ydU;cases(yae a&&(!a.2.2.2.2.2.2.2.2.2.2.2&&yN a.2.1 s))
 ·exact Nat.zero_le _
 ·have:=y4I a s
  show(yrL a s).1.length≤4;omega
theorem yU7 (p:Nat→Bool): ∀n,leb 0 (yK p n)=decide (1≤ynB p n)∧ye8 p n=decide (2≤ynB p n)
 | 0=>⟨rfl,rfl⟩
 | n+1=>by
  obtain⟨h1,h2⟩:=yU7 p n
  have e:ye8 p (n+1)=(ye8 p n||(!p n&&leb 0 (yK p n))):=by
   unfold ye8;rw[List.range_succ,List.any_append]; simp
  have e2:yK p (n+1)=bif p n then yK p n else n:=rfl;rw[e,e2,yCU,h2,h1];cases hp:p n
  ·simp only[cond_false,Bool.not_false,Bool.true_and]
   refine⟨by rw[zk0 (show(0:Int)≤n by omega)]; simp,?_⟩;rw[Bool.eq_iff_iff,Bool.or_eq_true,decide_eq_true_eq,decide_eq_true_eq,decide_eq_true_eq]; omega
  ·simp[h1]
def ycn (m:dM) (n:Int):List Int:=yhL n m.2.1 (nth m.1 n [])
def ya3 (m:dM) (n:Int):Bool:=m.2.2.2.any (· ==n)
def yla (m:dM) (n:Int) (v:List Int):Prop:=v=nth m.1 n []∨ ∃w∈m.2.1,w.1=n∧w.2=v
theorem yVf (n:Int): ∀(c:List dW) (s:List Int),yhL n c s=s∨ ∃w∈c,w.1=n∧w.2=yhL n c s
 | [],s=> .inl rfl
 | w::c,s=>by
  show yhL n c (bif w.1==n then w.2 else s)=s∨ ∃x∈w::c,x.1=n∧x.2=yhL n c (bif w.1==n then w.2 else s);rcases yVf n c (bif w.1==n then w.2 else s)with h | ⟨x,hx,h1,h2⟩
  ·rw[h]
   cases hw:(w.1==n)
   ·exact .inl rfl
   ·exact .inr ⟨w,List.mem_cons_self,beq_iff_eq.1 hw,rfl⟩
  ·exact .inr ⟨x,List.mem_cons_of_mem _ hx,h1,h2⟩
theorem yxO (m:dM) (n:Int):yla m n (ycn m n):=yVf n m.2.1 _
theorem yPF (n:Int) (c:List dW) (w:dW) (s:List Int):yhL n (c++ [w]) s=bif w.1==n then w.2 else yhL n c s:=by
 unfold yhL; rw[List.foldl_append]; rfl
theorem yTd {m:dM} {n:Int} (h:yv m=true) (h1:m.2.2.1=false) (h2:inb n m.1.length=true):yQ m n=bif ya3 m n then([],false)else(ycn m n,true):=by
 unfold yQ yta;rw[h,h1,h2];show(bif !(ya3 m n)then(ycn m n,true)else([],false))=_;cases ya3 m n<;>rfl
theorem yq4 {m:dM} {n:Int} {s:List Int} (h:yv m=true) (h1:m.2.2.1=false) (h2:inb n m.1.length=true) (h3:yaz s=true) (h4:m.2.1.length<60):ybp m n s=true:=by
 unfold ybp;rw[h,h1,h2,h3,zkw (by omega)]; rfl
theorem yJl {m:dM} {n:Int} {s:List Int} (h:ybp m n s=true):(yZ m n s).1=(m.1,m.2.1++ [(n,s)],m.2.2.1,yJb m.2.2.2 n):=by unfold yZ; rw[h]; rfl
theorem yn6 {m:dM} {n:Int} {s:List Int} (h:ybp m n s=true) (k:Int):ycn (yZ m n s).1 k=bif n==k then s else ycn m k:=by
 rw[yJl h]; exact yPF _ _ _ _
theorem y5j (l:List Int) (n k:Int):(yJb l n).any (· ==k)=(l.any (· ==k)&&k !=n):=by
 rw[Bool.eq_iff_iff];simp only[yJb,List.any_eq_true,List.mem_filter,Bool.and_eq_true,beq_iff_eq,bne_iff_ne];constructor
 ·rintro⟨x,⟨h1,h2⟩,rfl⟩; exact⟨⟨x,h1,rfl⟩,h2⟩
 ·rintro⟨⟨x,h1,rfl⟩,h2⟩; exact⟨x,⟨h1,h2⟩,rfl⟩
theorem yyE {m:dM} {n:Int} {s:List Int} (h:ybp m n s=true) (k:Int):ya3 (yZ m n s).1 k=(ya3 m k&&k !=n):=by
 rw[yJl h]; exact y5j _ _ _
theorem y4q {m:dM} {n:Int} {s:List Int} {k:Int} {v:List Int} (h:yla (yZ m n s).1 k v):yla m k v∨(k=n∧v=s):=by
 cases hc:ybp m n s
 ·unfold yZ at h; rw[hc]at h; exact .inl h
 ·rw[yJl hc]at h
  rcases h with h | ⟨w,hw,h1,h2⟩
  ·exact .inl (.inl h)
  ·rcases List.mem_append.1 hw with hw | hw
   ·exact .inl (.inr ⟨w,hw,h1,h2⟩)
   ·rw[List.mem_singleton.1 hw]at h1 h2; exact .inr ⟨h1.symm,h2.symm⟩
theorem yxV {α:Type} {l:List α} {i k:Int} {x d:α} (hi:inb i l.length=true) (hk:0≤k):nth (l.set i.toNat x) k d=bif i==k then x else nth l k d:=by
 have h1:=zj4.1 hi;unfold nth;rw[List.getD_eq_getElem?_getD,List.getD_eq_getElem?_getD,List.getElem?_set];by_cases h:i=k
 ·subst h; simp[show i.toNat<l.length by omega]
 ·rw[if_neg (by omega),show(i==k)=false from beq_eq_false_iff_ne.2 h]; rfl
theorem y3H (b:Nat→Bool) {c:List dW} {l:List (List Int)} {k:Int} (hk:0≤k) (hc: ∀w∈c,inb w.1 l.length=true) :
  ∀n,n≤c.length→((List.range n).foldl (yfw b c) l).length=l.length∧(nth ((List.range n).foldl (yfw b c) l) k []=nth l k []∨ ∃w∈c,w.1=k∧w.2=nth ((List.range n).foldl (yfw b c) l) k []) ∧
   ((∀i,b i=true)→nth ((List.range n).foldl (yfw b c) l) k []=yhL k (c.take n) (nth l k [])):=by
 intro n
 induction n with
 | zero=>intro _; exact⟨rfl,.inl rfl,fun _=>rfl⟩
 | succ n ih =>
  intro hn;obtain⟨h1,h2,h3⟩:=ih (by omega);rw[List.range_succ,List.foldl_append,List.foldl_cons,List.foldl_nil];have hnc:n<c.length:=by omega
  generalize (List.range n).foldl (yfw b c) l=L at h1 h2 h3 ⊢;refine⟨yvg.trans h1,?_⟩;unfold yfw;rw[zkQ,zkH hnc];have hw:inb c[n].1 L.length=true:=by rw[h1]; exact hc _ (List.getElem_mem hnc)
  cases hb:b n
  ·refine⟨h2,fun h=> ?_⟩
   rw[h n]at hb; cases hb
  ·simp only[cond_true,yxV hw hk]
   constructor
   ·cases he:(c[n].1==k)
    ·exact h2
    ·exact .inr ⟨c[n],List.getElem_mem hnc,beq_iff_eq.1 he,rfl⟩
   ·intro h
    rw[h3 h,List.take_add_one,List.getElem?_eq_getElem hnc];exact(yPF k _ _ _).symm
theorem y2N {m:dM} (h:yv m=true): ∀w∈m.2.1,inb w.1 m.1.length=true:=fun w hw=>by
 have:=List.all_eq_true.1 (ycR h).2.1 w hw;simp only[ys6,Bool.and_eq_true]at this; exact this.1
theorem y4P {m:dM} {k:Int} (h:yv m=true) (h1:m.2.2.1=false) (hk:0≤k):nth (yE m).1 k []=ycn m k:=by
 have:=(y3H (fun _=>true) hk (y2N h) m.2.1.length (Nat.le_refl _)).2.2 (fun _=>rfl);rw[List.take_length]at this;unfold yE;rw[h,h1]; exact this
theorem yCO {m:dM} (h:yv m=true) (h1:m.2.2.1=false):(yE m).2.1= []∧(yE m).2.2=m.2.2:=by
 unfold yE;rw[h,h1];refine⟨rfl,?_⟩;show(false,m.2.2.2)=m.2.2;rw[← h1]
theorem yu4 {m:dM} {k:Int} {v:List Int} (h:yv m=true) (h1:m.2.2.1=false) (hk:0≤k) (hv:yla (yE m) k v):v=ycn m k:=by
 rcases hv with hv | ⟨w,hw,_⟩
 ·rw[hv,y4P h h1 hk]
 ·rw[(yCO h h1).1]at hw; cases hw
theorem y4O {m:dM} {k:Int} (h:yv m=true) (h1:m.2.2.1=false) (hk:0≤k):ycn (yE m) k=ycn m k:=yu4 h h1 hk (yxO _ _)
theorem yKT (m:dM) (k:Int):ya3 (yE m) k=ya3 m k:=by
 unfold yE;cases(yv m&& !m.2.2.1)<;>rfl
theorem y5t {m:dM} (h:yv m=true) (ks:Int) {k:Int} (hk:0≤k):yla m k (nth (yd2 m ks).1 k []):=by
 have:=(y3H (fun i=>decide (i<20)&&yMM (yU2 ks) i) hk (y2N h) m.2.1.length (Nat.le_refl _)).2.1;unfold yd2;rw[h];rcases this with h1 | ⟨w,hw,h1,h2⟩
 ·exact .inl h1
 ·exact .inr ⟨w,hw,h1,h2⟩
theorem yZS {m:dM} (h:yv m=true) (ks:Int):(yd2 m ks).2.1= []∧(yd2 m ks).2.2=m.2.2∧(yd2 m ks).1.length=m.1.length:=by
 unfold yd2;rw[h];exact⟨rfl,rfl,yrc⟩
theorem y58 {m:dM} (h:yv m=true) (ks:Int):yv (yd2 m ks)=true:=by
 obtain⟨h1,h2,h3,h4,h5,h6⟩:=ycR h;obtain⟨e1,e2,e3⟩:=yZS h ks;refine ysi ?_ (by rw[e1]; rfl) (by rw[e2,e3]; exact h3) (by omega) (by omega) (by rw[e1]; exact Nat.zero_le _);have:=yU6 (fun i=>decide (i<20)&&yMM (yU2 ks) i) h;unfold yd2;rw[h]; exact this
theorem y6p {x:Int} (h:isW x=true):(bv x).toNat<2^16:=by
 have:=ypu.1 h;unfold bv;rw[BitVec.toNat_ofInt];omega
theorem y6s {v:BitVec 64} (h:v.toNat<2^16):isW v.toInt=true:=by
 rw[BitVec.toInt_eq_toNat_of_lt (by omega)];exact ypu.2 (by omega)
theorem y6n: ∀(l:List Int),l.all isW=true→(yfH l).toNat<2^16:=by
 intro l h
 have: ∀(l:List Int) (v:BitVec 64),v.toNat<2^16→l.all isW=true→(l.foldl (fun v x=>v ^^^ bv x) v).toNat<2^16:=by
  intro l
  induction l with
  | nil=>intro v hv _; exact hv
  | cons x t ih =>
   intro v hv h;simp only[List.all_cons,Bool.and_eq_true]at h;refine ih _ ?_ h.2;rw[BitVec.toNat_xor];exact Nat.xor_lt_two_pow hv (y6p h.1)
 exact this l 0#64 (by decide) h
theorem y0g {l:List Int} (h:l.all isW=true):isW (yaG l)=true:=by
 rw[yoQ]; exact y6s (y6n l h)
theorem yC0 {l:List Int}:l.all isW=true↔ ∀x∈l,isW x=true:=by simp
theorem yYL {l:List Int} {i:Int} (h:l.all isW=true):isW (nth l i 0)=true:=by
 unfold nth;rw[List.getD_eq_getElem?_getD];cases e:l[i.toNat]? with
 | none=>rfl
 | some x=>exact yC0.1 h x (List.mem_of_getElem? e)
theorem yZB {l:List Int} {i:Nat} {x:Int} (h:l.all isW=true) (hx:isW x=true):(l.set i x).all isW=true:=by
 rw[yC0]at h ⊢;intro y hy;rcases List.mem_or_eq_of_mem_set hy with h1 | rfl
 ·exact h y h1
 ·exact hx
theorem y4r {m:dM} {n:Int} (h:(yQ m n).2=true):yaz (yQ m n).1=true:=by
 unfold yQ at h ⊢;cases hc:yta m n
 ·rw[hc]at h; cases h
 ·simp only[yta,Bool.and_eq_true]at hc
  obtain⟨h1,h2,h3,_,_,_⟩:=ycR hc.1;refine yI2 (P:=fun s=>yaz s=true) ?_ fun w hw=> ?_
  ·exact yxU (P:=fun s=>yaz s=true) hc.2.2.1 (fun x hx=>List.all_eq_true.1 h1 x hx)
  ·have:=List.all_eq_true.1 h2 w hw
   simp only[ys6,Bool.and_eq_true]at this;exact this.2
theorem y5W (a:dA) (m s:Int):isW (yq2 a m s)=true:=by
 unfold yq2;cases h:yG a m s
 ·rfl
 ·simp only[yG,Bool.and_eq_true]at h
  have:=y4r (m:=nth a.2.2.1 m yc) (n:=yy s) h.2.1;simp only[yaz,Bool.and_eq_true]at this;exact yYL this.2
theorem yFH (a:dA) (s:Int) (n:Nat):(yai a s n).all isW=true:=by
 rw[yC0];unfold yai;intro x hx;obtain⟨i,_,rfl⟩:=List.mem_map.1 hx;exact y5W a i s
theorem y5f (a:dA) (s:Int):(yR a s).1.all isW=true:=by
 unfold yR;cases ye8 (fun(i:Nat)=>yG a i s) a.2.1.1.toNat
 ·cases leb 0 (yK (fun(i:Nat)=>yG a i s) a.2.1.1.toNat)
  ·exact yFH _ _ _
  ·exact yZB (yFH _ _ _) (y0g (yFH _ _ _))
 ·rfl
theorem yZN (a:dA) (s:Int):(yrL a s).1.all isW=true:=by
 unfold yrL;cases(yR a s).2
 ·rfl
 ·rw[yC0]
  intro x hx;obtain⟨i,_,rfl⟩:=List.mem_map.1 hx;exact yYL (y5f a s)
def yoX:Code:=(f126.body).getD .skip
def ywV:Env:=zku TT [(109,ydi),(129,yuO)] []
theorem yNR:FrOk prog ⟨ywV,44,fun _=>none⟩ yoX:=zky yf yg ⟨ygM,yIe,trivial⟩
def yDc:Nat→Option Seg:=fun _=>none
def ych:Shape:=⟨[(1,false,[.ptr 0 0]),(6,false,[.br tW]),(7,false,[.int .i64]),(8,false,[.int .i64])],[(0,[.int .i64,.int .i64,.int .i64,.br tM,.int .i64,.int .i64,.int .i64,.int .i64,.int .i64,.br tW,.int .i64,.bool,.bool])],[]⟩
def ygv:Shape:=⟨[(1,false,[.ptr 0 0]),(6,false,[.br tW]),(7,false,[.int .i64]),(8,false,[.ci .i64 0])],[(0,[.int .i64,.int .i64,.int .i64,.br tM,.int .i64,.int .i64,.int .i64,.int .i64,.int .i64,.br tW,.int .i64,.bool,.bool])],[]⟩
def ygh:Shape:=⟨[],[],[]⟩
def ygF:Shape:=⟨[(2,false,[.bool])],[],[]⟩
abbrev yoj (v0:List dW) (v1 v2:Int) (v3:dA):(ych).X:=((((),()),(v0,()),(v1,()),(v2,()),()),((v3.1,v3.2.1.1,v3.2.1.2,v3.2.2.1,v3.2.2.2.1,v3.2.2.2.2.1,v3.2.2.2.2.2.1,v3.2.2.2.2.2.2.1,v3.2.2.2.2.2.2.2.1,v3.2.2.2.2.2.2.2.2.1,v3.2.2.2.2.2.2.2.2.2.1,v3.2.2.2.2.2.2.2.2.2.2.1,v3.2.2.2.2.2.2.2.2.2.2.2,()),()),())
abbrev yLU (v0:List dW) (v1:Int) (v2:dA):(ygv).X:=((((),()),(v0,()),(v1,()),((),()),()),((v2.1,v2.2.1.1,v2.2.1.2,v2.2.2.1,v2.2.2.2.1,v2.2.2.2.2.1,v2.2.2.2.2.2.1,v2.2.2.2.2.2.2.1,v2.2.2.2.2.2.2.2.1,v2.2.2.2.2.2.2.2.2.1,v2.2.2.2.2.2.2.2.2.2.1,v2.2.2.2.2.2.2.2.2.2.2.1,v2.2.2.2.2.2.2.2.2.2.2.2,()),()),())
abbrev yLH  :(ygh).X:=((),(),())
abbrev yL3 (v0:Bool):(ygF).X:=(((v0,()),()),(),())
def yoI (v0:List dW) (v1 v2 v3 v4 v5:Int) (v6:List dM) (v7 v8 v9 v10 v11:Int) (v12:List dW) (v13:Int) (v14 v15:Bool):Option ((ych).X ⊕ ((ygh).X ⊕ (ygF).X)) :=bif(ltb v2 v1)then bif(inb v2 v0.length)then let r4:=yaI (v4,v5) ((nth v0 v2 (0,[])).1);bif(!(!r4))then bif(ltb 0 v2)then bif(inb (i64.wrap (v2-1)) v12.length)then bif(!(leb ((nth v0 v2 (0,[])).1) ((nth v12 (i64.wrap (v2-1)) (0,[])).1)))then let r5:=yek (v4,v5) ((nth v0 v2 (0,[])).2);bif(!r5)then some (.inr (.inr (((false,()),()),(),()))) else some (.inl ((((),()),(v0,()),(v1,()),((i64.wrap (v2+1)),()),()),((v3,v4,v5,v6,v7,v8,v9,v10,v11,v12,v13,v14,v15,()),()),())) else some (.inr (.inr (((false,()),()),(),()))) else none else let r6:=yek (v4,v5) ((nth v0 v2 (0,[])).2);bif(!r6)then some (.inr (.inr (((false,()),()),(),()))) else some (.inl ((((),()),(v0,()),(v1,()),((i64.wrap (v2+1)),()),()),((v3,v4,v5,v6,v7,v8,v9,v10,v11,v12,v13,v14,v15,()),()),())) else some (.inr (.inr (((false,()),()),(),()))) else none else some (.inr (.inl ((),(),())))
def ycC (x:(ych).X):=yoI x.1.2.1.1 x.1.2.2.1.1 x.1.2.2.2.1.1 x.2.1.1.1 x.2.1.1.2.1 x.2.1.1.2.2.1 x.2.1.1.2.2.2.1 x.2.1.1.2.2.2.2.1 x.2.1.1.2.2.2.2.2.1 x.2.1.1.2.2.2.2.2.2.1 x.2.1.1.2.2.2.2.2.2.2.1 x.2.1.1.2.2.2.2.2.2.2.2.1 x.2.1.1.2.2.2.2.2.2.2.2.2.1 x.2.1.1.2.2.2.2.2.2.2.2.2.2.1 x.2.1.1.2.2.2.2.2.2.2.2.2.2.2.1 x.2.1.1.2.2.2.2.2.2.2.2.2.2.2.2.1
def yy2 (x:(ygv).X):(ych).X:=((((),()),(x.1.2.1.1,()),(x.1.2.2.1.1,()),(0,()),()),((x.2.1.1.1,x.2.1.1.2.1,x.2.1.1.2.2.1,x.2.1.1.2.2.2.1,x.2.1.1.2.2.2.2.1,x.2.1.1.2.2.2.2.2.1,x.2.1.1.2.2.2.2.2.2.1,x.2.1.1.2.2.2.2.2.2.2.1,x.2.1.1.2.2.2.2.2.2.2.2.1,x.2.1.1.2.2.2.2.2.2.2.2.2.1,x.2.1.1.2.2.2.2.2.2.2.2.2.2.1,x.2.1.1.2.2.2.2.2.2.2.2.2.2.2.1,x.2.1.1.2.2.2.2.2.2.2.2.2.2.2.2.1,()),()),())
def yBy:Code:=(zeJ yoX 64 52).getD .skip
theorem yNq:zeJ yoX 64 13=some (.block 0 (.loop yBy)):=by kernel_rfl
theorem yPl (x:(ych).X):zhu ⟨ywV,44,yDc⟩ 0 yBy 52 ych ygh ygF x=ycC x:=by kernel_rfl
def yzj (x:(ygv).X):Nat:=18446744073709551616
def ypZ (x:(ygv).X):Option ((ygh).X ⊕ (ygF).X):=zF ycC (yzj x) (yy2 x)
def yzN:Seg:=⟨ygv,ygh,ygF,ypZ⟩
def yPU:Nat→Option Seg:=fun q=>bif Nat.beq q 13 then some yzN else yDc q
theorem yNS:FrOk prog ⟨ywV,44,yPU⟩ yoX:=(yNR).loop (sg:=yzN) ych yy2 (by decide) yNq ycC yzj (by decide) (fun _=>rfl) (fun x r _ h=>h) yPl
abbrev ykb:List Par:= [.rd tA]
abbrev ypi:List OT:= [⟨false,tB,.fz⟩]
def ysH (a0:dA):Option (zaY ypi×zak ykb) :=zkr (ypZ ((((),()),(a0.2.2.2.2.2.2.2.2.1,()),((a0.2.2.2.2.2.2.2.2.1.length:Int),()),((),()),()),((a0.1,a0.2.1.1,a0.2.1.2,a0.2.2.1,a0.2.2.2.1,a0.2.2.2.2.1,a0.2.2.2.2.2.1,a0.2.2.2.2.2.2.1,a0.2.2.2.2.2.2.2.1,a0.2.2.2.2.2.2.2.2.1,a0.2.2.2.2.2.2.2.2.2.1,a0.2.2.2.2.2.2.2.2.2.2.1,a0.2.2.2.2.2.2.2.2.2.2.2,()),()),())) (fun y6 =>some ((true,()),())) (fun y6 =>some ((y6.1.1.1,()),()))
theorem ySk:ConOk prog 126 ⟨ykb,ypi,fun x=>ysH x.1⟩:=zkG (yNS) func126 ntmps126.symm fun x=>by kernel_rfl
def ykD (a0:dA):Bool:=yaY a0.2.1 a0.2.2.2.2.2.2.2.2.1
def yx2 (a0:dA):Bool:=yd a0.2.1
theorem yvd (l:List Int):yaD l=l.all isW:=by
 unfold yaD;rw[show yaN=isW from funext fun x=>by unfold yaN; rw[yal,ybU]; rfl]
theorem yVr (a0:dA) (hk:zjw ykb (a0,())) (hq:yx2 a0=true):ysH a0=(fun n=>some ((n,()),())) (ykD a0):=by
 have hb:a0.2.2.2.2.2.2.2.2.1.length*32≤2^47:=hk.1.2.2.2.2.2.2.2.2.1.1;have hg:=yl.1 hq;have hq':yd a0.2.1=true:=hq
 have h1:ypZ (yLU a0.2.2.2.2.2.2.2.2.1 a0.2.2.2.2.2.2.2.2.1.length a0)=some (bif(List.range a0.2.2.2.2.2.2.2.2.1.length).any (yh9 a0.2.1 a0.2.2.2.2.2.2.2.2.1)then .inr (yL3 false)else .inl yLH) :=
  zjh (step:=ycC) (fun i=>yoj a0.2.2.2.2.2.2.2.2.1 a0.2.2.2.2.2.2.2.2.1.length i a0) a0.2.2.2.2.2.2.2.2.1.length (yh9 a0.2.1 a0.2.2.2.2.2.2.2.2.1) _ _ (fun i hi=>by
   simp only[ycC,yoj,yoI,zkw (show(i:Int)<a0.2.2.2.2.2.2.2.2.1.length by omega),cond_true,wq ((i:Int)+1) (by omega) (by omega),Int.natCast_add,Int.natCast_one,Int.toNat_natCast,zkP hi,zkV,yaI,yek,yLx,hq',yal,ybU,yvd,wq (a0.2.1.2-1) (by omega) (by omega),wq (a0.2.1.1-1) (by omega) (by omega),yh9,bne];rcases Nat.eq_zero_or_pos i with rfl | h0
   ·cases(leb 0 (nth a0.2.2.2.2.2.2.2.2.1 ((0:Nat):Int) (0,[])).1&&leb (nth a0.2.2.2.2.2.2.2.2.1 ((0:Nat):Int) (0,[])).1 (a0.2.1.2-1))<;>cases(((nth a0.2.2.2.2.2.2.2.2.1 ((0:Nat):Int) (0,[])).2.length:Int)==a0.2.1.1-1)<;>cases((nth a0.2.2.2.2.2.2.2.2.1 ((0:Nat):Int) (0,[])).2.all isW)<;>rfl
   ·rw[show i64.wrap ((i:Int)-1)=((i-1:Nat):Int)by rw[wr (by omega) (by omega)]; omega,zkP (show i-1<a0.2.2.2.2.2.2.2.2.1.length by omega),zkw (show(0:Int)<i by omega),decide_eq_true h0]
    cases(leb 0 (nth a0.2.2.2.2.2.2.2.2.1 (i:Int) (0,[])).1&&leb (nth a0.2.2.2.2.2.2.2.2.1 (i:Int) (0,[])).1 (a0.2.1.2-1))<;>cases(((nth a0.2.2.2.2.2.2.2.2.1 (i:Int) (0,[])).2.length:Int)==a0.2.1.1-1)<;>cases((nth a0.2.2.2.2.2.2.2.2.1 (i:Int) (0,[])).2.all isW)<;>cases leb (nth a0.2.2.2.2.2.2.2.2.1 (i:Int) (0,[])).1 (nth a0.2.2.2.2.2.2.2.2.1 ((i-1:Nat):Int) (0,[])).1<;>rfl) (by simp only[ycC,yoj,yoI,zk1 (Int.le_refl _),cond_false]) _ (by show _<18446744073709551616; omega)
 unfold ysH ykD yaY;rw[h1];cases(List.range a0.2.2.2.2.2.2.2.2.1.length).any (yh9 a0.2.1 a0.2.2.2.2.2.2.2.2.1)<;>rfl
def ypF (a0:dA):Option (zaY ypi×zak ykb):=bif yx2 a0 then(fun n=>some ((n,()),())) (ykD a0)else none
theorem yWL (a0:dA) (h:yx2 a0=true):ypF a0=(fun n=>some ((n,()),())) (ykD a0):=by unfold ypF; rw[h]; rfl
def yEi:Con:=⟨ykb,ypi,fun x=>ypF x.1⟩
theorem yWv:ConOk prog 126 yEi:=(ySk).mono (fun x r hk h=>zkW h (fun hq=>yVr x.1 hk hq))
def y0s:Code:=(f156.body).getD .skip
def y0Y:Env:=zku TT [(81,yM)] []
theorem yQB:FrOk prog ⟨y0Y,11,fun _=>none⟩ y0s:=zky yf yg ⟨yS,trivial⟩
abbrev yAb:List Par:= [.rd tM,.rd tI]
abbrev yAC:List OT:= [⟨false,tB,.fz⟩]
def yGW (a0:dM) (a1:Int):Option (zaY yAC×zak yAb) :=let r1:=yj a1 0 (i64.wrap ((a0.1.length:Int)-1));some ((r1,()),())
theorem yVV:ConOk prog 156 ⟨yAb,yAC,fun x=>yGW x.1 x.2.1⟩:=zkG (yQB) func156 ntmps156.symm fun x=>by kernel_rfl
def ybS (a0:dM) (a1:Int):Bool :=let r1:=yj a1 0 (i64.wrap ((a0.1.length:Int)-1));r1
def ynv:Con:=⟨yAb,yAC,fun x=>(fun n=>some ((n,()),())) (ybS x.1 x.2.1)⟩
theorem yYn (a0:dM) (a1:Int):yGW a0 a1=(fun n=>some ((n,()),())) (ybS a0 a1):=zkT (p:=fun(n:Bool)=>((n,()),())) rfl
theorem yxX:ConOk prog 156 ynv:=(yVV).mono (fun x r _ h=>(yYn x.1 x.2.1).trans h)
def y13:Code:=(f186.body).getD .skip
def y2h:Env:=zku TT [(187,yln)] []
theorem yUx:FrOk prog ⟨y2h,10,fun _=>none⟩ y13:=zky yf yg ⟨yvw,trivial⟩
abbrev yDw:List Par:= [.rd tL]
abbrev yDH:List OT:= [⟨false,tB,.fz⟩]
def yIq (a0:List Int):Option (zaY yDH×zak yDw) :=bif(leb (a0.length:Int) 12)then let r1:=yaD a0;some ((r1,()),()) else some ((false,()),())
theorem yYQ:ConOk prog 186 ⟨yDw,yDH,fun x=>yIq x.1⟩:=zkG (yUx) func186 ntmps186.symm fun x=>by kernel_rfl
def yhG (a0:List Int):Bool :=bif(leb (a0.length:Int) 12)then let r1:=yaD a0;r1 else false
def yxI:Con:=⟨yDw,yDH,fun x=>(fun n=>some ((n,()),())) (yhG x.1)⟩
theorem y1p (a0:List Int):yIq a0=(fun n=>some ((n,()),())) (yhG a0):=zkT (p:=fun(n:Bool)=>((n,()),())) (zkE (p:=fun(n:Bool)=>((n,()),())) rfl rfl)
theorem yJs:ConOk prog 186 yxI:=(yYQ).mono (fun x r _ h=>(y1p x.1).trans h)
theorem yHm:yhG=yaz:=funext fun s=>by
 unfold yhG yaz yaD;rw[show yaN=isW from funext fun x=>by unfold yaN; rw[yal,ybU]; rfl];cases leb (s.length:Int) 12<;>rfl
def ycK:Code:=(f127.body).getD .skip
def yg7:Env:=zku TT [(81,yM),(156,ynv),(186,yxI)] []
theorem yUs:FrOk prog ⟨yg7,76,fun _=>none⟩ ycK:=zky yf yg ⟨yS,yxX,yJs,trivial⟩
def yHy:Nat→Option Seg:=fun _=>none
def ydA:Shape:=⟨[(1,false,[.ptr 0 0]),(10,false,[.br tL]),(11,false,[.int .i64]),(12,false,[.int .i64])],[(0,[.br tL,.br tW,.bool,.br tI])],[]⟩
def yiI:Shape:=⟨[(1,false,[.ptr 0 0]),(10,false,[.br tL]),(11,false,[.int .i64]),(12,false,[.ci .i64 0])],[(0,[.br tL,.br tW,.bool,.br tI])],[]⟩
def yiv:Shape:=⟨[(1,false,[.ptr 0 0])],[(0,[.br tL,.br tW,.bool,.br tI])],[]⟩
def yiY:Shape:=⟨[(2,false,[.bool])],[],[]⟩
abbrev ysk (v0:List (List Int)) (v1 v2:Int) (v3:dM):(ydA).X:=((((),()),(v0,()),(v1,()),(v2,()),()),((v3.1,v3.2.1,v3.2.2.1,v3.2.2.2,()),()),())
abbrev yRr (v0:List (List Int)) (v1:Int) (v2:dM):(yiI).X:=((((),()),(v0,()),(v1,()),((),()),()),((v2.1,v2.2.1,v2.2.2.1,v2.2.2.2,()),()),())
abbrev yRj (v0:dM):(yiv).X:=((((),()),()),((v0.1,v0.2.1,v0.2.2.1,v0.2.2.2,()),()),())
abbrev yRE (v0:Bool):(yiY).X:=(((v0,()),()),(),())
def ysU (v0:List (List Int)) (v1 v2:Int) (v3:List (List Int)) (v4:List dW) (v5:Bool) (v6:List Int):Option ((ydA).X ⊕ ((yiv).X ⊕ (yiY).X)) :=bif(ltb v2 v1)then bif(inb v2 v0.length)then let r2:=yhG (nth v0 v2 []);bif(!r2)then some (.inr (.inr (((false,()),()),(),()))) else some (.inl ((((),()),(v0,()),(v1,()),((i64.wrap (v2+1)),()),()),((v3,v4,v5,v6,()),()),())) else none else some (.inr (.inl ((((),()),()),((v3,v4,v5,v6,()),()),())))
def yd6 (x:(ydA).X):=ysU x.1.2.1.1 x.1.2.2.1.1 x.1.2.2.2.1.1 x.2.1.1.1 x.2.1.1.2.1 x.2.1.1.2.2.1 x.2.1.1.2.2.2.1
def yEz (x:(yiI).X):(ydA).X:=((((),()),(x.1.2.1.1,()),(x.1.2.2.1.1,()),(0,()),()),((x.2.1.1.1,x.2.1.1.2.1,x.2.1.1.2.2.1,x.2.1.1.2.2.2.1,()),()),())
def yF1:Code:=(zeJ ycK 64 52).getD .skip
theorem yT5:zeJ ycK 64 13=some (.block 0 (.loop yF1)):=by kernel_rfl
theorem yWR (x:(ydA).X):zhu ⟨yg7,76,yHy⟩ 0 yF1 52 ydA yiv yiY x=yd6 x:=by kernel_rfl
def yEO (x:(yiI).X):Nat:=18446744073709551616
def ytJ (x:(yiI).X):Option ((yiv).X ⊕ (yiY).X):=zF yd6 (yEO x) (yEz x)
def yFs:Seg:=⟨yiI,yiv,yiY,ytJ⟩
def ywL:Nat→Option Seg:=fun q=>bif Nat.beq q 13 then some yFs else yHy q
theorem yUt:FrOk prog ⟨yg7,76,ywL⟩ ycK:=(yUs).loop (sg:=yFs) ydA yEz (by decide) yT5 yd6 yEO (by decide) (fun _=>rfl) (fun x r _ h=>h) yWR
def ydB:Shape:=⟨[(1,false,[.ptr 0 0]),(21,false,[.br tW]),(22,false,[.int .i64]),(23,false,[.int .i64])],[(0,[.br tL,.br tW,.bool,.br tI])],[]⟩
def yiJ:Shape:=⟨[(1,false,[.ptr 0 0]),(21,false,[.br tW]),(22,false,[.int .i64]),(23,false,[.ci .i64 0])],[(0,[.br tL,.br tW,.bool,.br tI])],[]⟩
def yiw:Shape:=⟨[(1,false,[.ptr 0 0])],[(0,[.br tL,.br tW,.bool,.br tI])],[]⟩
def yiZ:Shape:=⟨[(2,false,[.bool])],[],[]⟩
abbrev ysl (v0:List dW) (v1 v2:Int) (v3:dM):(ydB).X:=((((),()),(v0,()),(v1,()),(v2,()),()),((v3.1,v3.2.1,v3.2.2.1,v3.2.2.2,()),()),())
abbrev yRs (v0:List dW) (v1:Int) (v2:dM):(yiJ).X:=((((),()),(v0,()),(v1,()),((),()),()),((v2.1,v2.2.1,v2.2.2.1,v2.2.2.2,()),()),())
abbrev yRk (v0:dM):(yiw).X:=((((),()),()),((v0.1,v0.2.1,v0.2.2.1,v0.2.2.2,()),()),())
abbrev yRF (v0:Bool):(yiZ).X:=(((v0,()),()),(),())
def ysV (v0:List dW) (v1 v2:Int) (v3:List (List Int)) (v4:List dW) (v5:Bool) (v6:List Int):Option ((ydB).X ⊕ ((yiw).X ⊕ (yiZ).X)) :=bif(ltb v2 v1)then bif(inb v2 v0.length)then let r6:=ybS (v3,v4,v5,v6) ((nth v0 v2 (0,[])).1);bif(!(!r6))then let r7:=yhG ((nth v0 v2 (0,[])).2);bif(!r7)then some (.inr (.inr (((false,()),()),(),()))) else some (.inl ((((),()),(v0,()),(v1,()),((i64.wrap (v2+1)),()),()),((v3,v4,v5,v6,()),()),())) else some (.inr (.inr (((false,()),()),(),()))) else none else some (.inr (.inl ((((),()),()),((v3,v4,v5,v6,()),()),())))
def yd7 (x:(ydB).X):=ysV x.1.2.1.1 x.1.2.2.1.1 x.1.2.2.2.1.1 x.2.1.1.1 x.2.1.1.2.1 x.2.1.1.2.2.1 x.2.1.1.2.2.2.1
def yEA (x:(yiJ).X):(ydB).X:=((((),()),(x.1.2.1.1,()),(x.1.2.2.1.1,()),(0,()),()),((x.2.1.1.1,x.2.1.1.2.1,x.2.1.1.2.2.1,x.2.1.1.2.2.2.1,()),()),())
def yF2:Code:=(zeJ ycK 64 116).getD .skip
theorem yT6:zeJ ycK 64 29=some (.block 2 (.loop yF2)):=by kernel_rfl
theorem yWS (x:(ydB).X):zhu ⟨yg7,76,ywL⟩ 2 yF2 116 ydB yiw yiZ x=yd7 x:=by kernel_rfl
def yEP (x:(yiJ).X):Nat:=18446744073709551616
def ytK (x:(yiJ).X):Option ((yiw).X ⊕ (yiZ).X):=zF yd7 (yEP x) (yEA x)
def yFt:Seg:=⟨yiJ,yiw,yiZ,ytK⟩
def ywM:Nat→Option Seg:=fun q=>bif Nat.beq q 29 then some yFt else ywL q
theorem yUu:FrOk prog ⟨yg7,76,ywM⟩ ycK:=(yUt).loop (sg:=yFt) ydB yEA (by decide) yT6 yd7 yEP (by decide) (fun _=>rfl) (fun x r _ h=>h) yWS
def ydC:Shape:=⟨[(1,false,[.ptr 0 0]),(40,false,[.br tI]),(41,false,[.int .i64]),(42,false,[.int .i64])],[(0,[.br tL,.br tW,.bool,.br tI])],[]⟩
def yiK:Shape:=⟨[(1,false,[.ptr 0 0]),(40,false,[.br tI]),(41,false,[.int .i64]),(42,false,[.ci .i64 0])],[(0,[.br tL,.br tW,.bool,.br tI])],[]⟩
def yix:Shape:=⟨[(1,false,[.ptr 0 0])],[(0,[.br tL,.br tW,.bool,.br tI])],[]⟩
def yi0:Shape:=⟨[(2,false,[.bool])],[],[]⟩
abbrev ysm (v0:List Int) (v1 v2:Int) (v3:dM):(ydC).X:=((((),()),(v0,()),(v1,()),(v2,()),()),((v3.1,v3.2.1,v3.2.2.1,v3.2.2.2,()),()),())
abbrev yRt (v0:List Int) (v1:Int) (v2:dM):(yiK).X:=((((),()),(v0,()),(v1,()),((),()),()),((v2.1,v2.2.1,v2.2.2.1,v2.2.2.2,()),()),())
abbrev yRl (v0:dM):(yix).X:=((((),()),()),((v0.1,v0.2.1,v0.2.2.1,v0.2.2.2,()),()),())
abbrev yRG (v0:Bool):(yi0).X:=(((v0,()),()),(),())
def ysW (v0:List Int) (v1 v2:Int) (v3:List (List Int)) (v4:List dW) (v5:Bool) (v6:List Int):Option ((ydC).X ⊕ ((yix).X ⊕ (yi0).X)) :=bif(ltb v2 v1)then bif(inb v2 v0.length)then let r10:=ybS (v3,v4,v5,v6) (nth v0 v2 0);bif(!(!r10))then bif(ltb 0 v2)then bif(inb (i64.wrap (v2-1)) v6.length)then bif(leb (nth v0 v2 0) (nth v6 (i64.wrap (v2-1)) 0))then some (.inr (.inr (((false,()),()),(),()))) else some (.inl ((((),()),(v0,()),(v1,()),((i64.wrap (v2+1)),()),()),((v3,v4,v5,v6,()),()),())) else none else some (.inl ((((),()),(v0,()),(v1,()),((i64.wrap (v2+1)),()),()),((v3,v4,v5,v6,()),()),())) else some (.inr (.inr (((false,()),()),(),()))) else none else some (.inr (.inl ((((),()),()),((v3,v4,v5,v6,()),()),())))
def yd8 (x:(ydC).X):=ysW x.1.2.1.1 x.1.2.2.1.1 x.1.2.2.2.1.1 x.2.1.1.1 x.2.1.1.2.1 x.2.1.1.2.2.1 x.2.1.1.2.2.2.1
def yEB (x:(yiK).X):(ydC).X:=((((),()),(x.1.2.1.1,()),(x.1.2.2.1.1,()),(0,()),()),((x.2.1.1.1,x.2.1.1.2.1,x.2.1.1.2.2.1,x.2.1.1.2.2.2.1,()),()),())
def yF3:Code:=(zeJ ycK 64 244).getD .skip
theorem yT7:zeJ ycK 64 61=some (.block 4 (.loop yF3)):=by kernel_rfl
theorem yWT (x:(ydC).X):zhu ⟨yg7,76,ywM⟩ 4 yF3 244 ydC yix yi0 x=yd8 x:=by kernel_rfl
def yEQ (x:(yiK).X):Nat:=18446744073709551616
def ytL (x:(yiK).X):Option ((yix).X ⊕ (yi0).X):=zF yd8 (yEQ x) (yEB x)
def yFu:Seg:=⟨yiK,yix,yi0,ytL⟩
def yXt:Nat→Option Seg:=fun q=>bif Nat.beq q 61 then some yFu else ywM q
theorem yUv:FrOk prog ⟨yg7,76,yXt⟩ ycK:=(yUu).loop (sg:=yFu) ydC yEB (by decide) yT7 yd8 yEQ (by decide) (fun _=>rfl) (fun x r _ h=>h) yWT
abbrev ytX:List Par:= [.rd tM]
abbrev yDF:List OT:= [⟨false,tB,.fz⟩]
def yx8 (a0:dM):Option (zaY yDF×zak ytX) :=zkr (ytJ ((((),()),(a0.1,()),((a0.1.length:Int),()),((),()),()),((a0.1,a0.2.1,a0.2.2.1,a0.2.2.2,()),()),())) (fun y2 =>zkr (ytK ((((),()),(y2.2.1.1.2.1,()),((y2.2.1.1.2.1.length:Int),()),((),()),()),((y2.2.1.1.1,y2.2.1.1.2.1,y2.2.1.1.2.2.1,y2.2.1.1.2.2.2.1,()),()),())) (fun y7 =>zkr (ytL ((((),()),(y7.2.1.1.2.2.2.1,()),((y7.2.1.1.2.2.2.1.length:Int),()),((),()),()),((y7.2.1.1.1,y7.2.1.1.2.1,y7.2.1.1.2.2.1,y7.2.1.1.2.2.2.1,()),()),())) (fun y10 =>let r12:=yj (y10.2.1.1.1.length:Int) 1 20;bif r12 then some (((leb (y10.2.1.1.2.1.length:Int) 60),()),()) else some ((false,()),())) (fun y10 =>some ((y10.1.1.1,()),()))) (fun y7 =>some ((y7.1.1.1,()),()))) (fun y2 =>some ((y2.1.1.1,()),()))
theorem yYO:ConOk prog 127 ⟨ytX,yDF,fun x=>yx8 x.1⟩:=zkG (yUv) func127 ntmps127.symm fun x=>by kernel_rfl
def yay (a0:dM):Bool:=yv a0
theorem y1n (a0:dM) (hk:zjw ytX (a0,())):yx8 a0=(fun n=>some ((n,()),())) (yay a0):=by
 have hb1:a0.1.length*24≤2^47:=hk.1.1.1;have hb2:a0.2.1.length*32≤2^47:=hk.1.2.1.1;have hb3:a0.2.2.2.length*8≤2^47:=hk.1.2.2.2.1
 have h1:ytJ (yRr a0.1 a0.1.length a0)=some (bif a0.1.all yaz then .inl (yRj a0)else .inr (yRE false)) :=
  zj7 (step:=yd6) a0.1 [] (fun i=>ysk a0.1 a0.1.length i a0) yaz _ _ (fun i hi=>by
   simp only[yd6,ysk,ysU,zkw (show(i:Int)<a0.1.length by omega),cond_true,wq ((i:Int)+1) (by omega) (by omega),Int.natCast_add,Int.natCast_one,Int.toNat_natCast,zkP hi,zkQ,yHm]
   cases yaz (a0.1.getD i [])<;>rfl) (by simp only[yd6,ysk,ysU,zk1 (Int.le_refl _),cond_false]) _ (by show _<18446744073709551616; omega)
 have h2:ytK (yRs a0.2.1 a0.2.1.length a0)=some (bif a0.2.1.all (ys6 a0.1.length)then .inl (yRk a0)else .inr (yRF false)) :=
  zj7 (step:=yd7) a0.2.1 (0,[]) (fun i=>ysl a0.2.1 a0.2.1.length i a0) (ys6 a0.1.length) _ _ (fun i hi=>by
   simp only[yd7,ysl,ysV,zkw (show(i:Int)<a0.2.1.length by omega),cond_true,wq ((i:Int)+1) (by omega) (by omega),Int.natCast_add,Int.natCast_one,Int.toNat_natCast,zkP hi,zkQ,yHm,ybS,yal,ykt (show a0.1.length≤1152921504606846976 by omega),ys6]
   cases inb (a0.2.1.getD i (0,[])).1 a0.1.length<;>cases yaz (a0.2.1.getD i (0,[])).2<;>rfl) (by simp only[yd7,ysl,ysV,zk1 (Int.le_refl _),cond_false]) _ (by show _<18446744073709551616; omega)
 have h3:ytL (yRt a0.2.2.2 a0.2.2.2.length a0)=some (bif(List.range a0.2.2.2.length).any (yFZ a0.1.length a0.2.2.2)then .inr (yRG false)else .inl (yRl a0)) :=
  zjh (step:=yd8) (fun i=>ysm a0.2.2.2 a0.2.2.2.length i a0) a0.2.2.2.length (yFZ a0.1.length a0.2.2.2) _ _ (fun i hi=>by
   simp only[yd8,ysm,ysW,zkw (show(i:Int)<a0.2.2.2.length by omega),cond_true,wq ((i:Int)+1) (by omega) (by omega),Int.natCast_add,Int.natCast_one,Int.toNat_natCast,zkP hi,zkQ,ybS,yal,ykt (show a0.1.length≤1152921504606846976 by omega),yFZ];rcases Nat.eq_zero_or_pos i with rfl | h0
   ·cases inb (a0.2.2.2.getD 0 0) a0.1.length<;>rfl
   ·rw[show i64.wrap ((i:Int)-1)=((i-1:Nat):Int)by rw[wr (by omega) (by omega)]; omega,zkP (show i-1<a0.2.2.2.length by omega),zkQ,zkw (show(0:Int)<i by omega),decide_eq_true h0]
    cases inb (a0.2.2.2.getD i 0) a0.1.length<;>cases leb (a0.2.2.2.getD i 0) (a0.2.2.2.getD (i-1) 0)<;>rfl) (by simp only[yd8,ysm,ysW,zk1 (Int.le_refl _),cond_false]) _ (by show _<18446744073709551616; omega)
 unfold yx8 yay yv;rw[h1];cases a0.1.all yaz
 ·rfl
 simp only[cond_true,zkL,h2];cases a0.2.1.all (ys6 a0.1.length)
 ·rfl
 simp only[cond_true,zkL,h3,yZF,yal,ybU];cases ypq a0.1.length a0.2.2.2
 ·rfl
 simp only[Bool.not_true,cond_false,zkL];cases leb 1 (a0.1.length:Int)<;>cases leb (a0.1.length:Int) 20<;>rfl
def yeQ:Con:=⟨ytX,yDF,fun x=>(fun n=>some ((n,()),())) (yay x.1)⟩
theorem yig:ConOk prog 127 yeQ:=(yYO).mono (fun x r hk h=>(y1n x.1 hk).trans h)
def yXg:Code:=(f128.body).getD .skip
def yXI:Env:=zku TT [] []
theorem yNU:FrOk prog ⟨yXI,6,fun _=>none⟩ yXg:=zky yf yg trivial
abbrev yw8:List Par:= [.rd tG]
abbrev yxs:List OT:= [⟨false,tI,.fz⟩]
def yFm (a0:dG):Option (zaY yxs×zak yw8) :=some (((i64.wrap (6+a0.2)),()),())
theorem ySm:ConOk prog 128 ⟨yw8,yxs,fun x=>yFm x.1⟩:=zkG (yNU) func128 ntmps128.symm fun x=>by kernel_rfl
def ypx (a0:dG):Int :=(i64.wrap (6+a0.2))
def yEk:Con:=⟨yw8,yxs,fun x=>(fun n=>some ((n,()),())) (ypx x.1)⟩
theorem yVt (a0:dG):yFm a0=(fun n=>some ((n,()),())) (ypx a0):=zkT (p:=fun(n:Int)=>((n,()),())) rfl
theorem yWx:ConOk prog 128 yEk:=(ySm).mono (fun x r _ h=>(yVt x.1).trans h)
def ytn:Code:=(f55.body).getD .skip
def yDl:Env:=zku TT [(81,yM),(123,ygV),(125,yuP),(126,yEi),(127,yeQ),(128,yEk)] []
theorem yUp:FrOk prog ⟨yDl,103,fun _=>none⟩ ytn:=zky yf yg ⟨yS,yl9,yIf,yWv,yig,yWx,trivial⟩
def yHx:Nat→Option Seg:=fun _=>none
def ydz:Shape:=⟨[(1,false,[.ptr 0 0]),(41,false,[.br tM]),(42,false,[.int .i64]),(43,false,[.int .i64])],[(0,[.int .i64,.int .i64,.int .i64,.br tM,.int .i64,.int .i64,.int .i64,.int .i64,.int .i64,.br tW,.int .i64,.bool,.bool])],[]⟩
def yiH:Shape:=⟨[(1,false,[.ptr 0 0]),(41,false,[.br tM]),(42,false,[.int .i64]),(43,false,[.ci .i64 0])],[(0,[.int .i64,.int .i64,.int .i64,.br tM,.int .i64,.int .i64,.int .i64,.int .i64,.int .i64,.br tW,.int .i64,.bool,.bool])],[]⟩
def yiu:Shape:=⟨[(1,false,[.ptr 0 0])],[(0,[.int .i64,.int .i64,.int .i64,.br tM,.int .i64,.int .i64,.int .i64,.int .i64,.int .i64,.br tW,.int .i64,.bool,.bool])],[]⟩
def yiU:Shape:=⟨[(2,false,[.bool])],[],[]⟩
abbrev ysj (v0:List dM) (v1 v2:Int) (v3:dA):(ydz).X:=((((),()),(v0,()),(v1,()),(v2,()),()),((v3.1,v3.2.1.1,v3.2.1.2,v3.2.2.1,v3.2.2.2.1,v3.2.2.2.2.1,v3.2.2.2.2.2.1,v3.2.2.2.2.2.2.1,v3.2.2.2.2.2.2.2.1,v3.2.2.2.2.2.2.2.2.1,v3.2.2.2.2.2.2.2.2.2.1,v3.2.2.2.2.2.2.2.2.2.2.1,v3.2.2.2.2.2.2.2.2.2.2.2,()),()),())
abbrev yRq (v0:List dM) (v1:Int) (v2:dA):(yiH).X:=((((),()),(v0,()),(v1,()),((),()),()),((v2.1,v2.2.1.1,v2.2.1.2,v2.2.2.1,v2.2.2.2.1,v2.2.2.2.2.1,v2.2.2.2.2.2.1,v2.2.2.2.2.2.2.1,v2.2.2.2.2.2.2.2.1,v2.2.2.2.2.2.2.2.2.1,v2.2.2.2.2.2.2.2.2.2.1,v2.2.2.2.2.2.2.2.2.2.2.1,v2.2.2.2.2.2.2.2.2.2.2.2,()),()),())
abbrev yRi (v0:dA):(yiu).X:=((((),()),()),((v0.1,v0.2.1.1,v0.2.1.2,v0.2.2.1,v0.2.2.2.1,v0.2.2.2.2.1,v0.2.2.2.2.2.1,v0.2.2.2.2.2.2.1,v0.2.2.2.2.2.2.2.1,v0.2.2.2.2.2.2.2.2.1,v0.2.2.2.2.2.2.2.2.2.1,v0.2.2.2.2.2.2.2.2.2.2.1,v0.2.2.2.2.2.2.2.2.2.2.2,()),()),())
abbrev yRD (v0:Bool):(yiU).X:=(((v0,()),()),(),())
def ysT (v0:List dM) (v1 v2 v3 v4 v5:Int) (v6:List dM) (v7 v8 v9 v10 v11:Int) (v12:List dW) (v13:Int) (v14 v15:Bool):Option ((ydz).X ⊕ ((yiu).X ⊕ (yiU).X)) :=bif(ltb v2 v1)then bif(inb v2 v0.length)then let r7:=yay ((nth v0 v2 ([],[],false,[])).1,((nth v0 v2 ([],[],false,[])).2).1,(((nth v0 v2 ([],[],false,[])).2).2));bif(!(!r7))then let r8:=ypx (v4,v5);bif(!((((nth v0 v2 ([],[],false,[])).1).length:Int) !=r8))then bif(((nth v0 v2 ([],[],false,[])).2).2).1 then bif(v7 !=v2)then bif(!v15)then some (.inr (.inr (((false,()),()),(),()))) else some (.inl ((((),()),(v0,()),(v1,()),((i64.wrap (v2+1)),()),()),((v3,v4,v5,v6,v7,v8,v9,v10,v11,v12,v13,v14,v15,()),()),())) else some (.inl ((((),()),(v0,()),(v1,()),((i64.wrap (v2+1)),()),()),((v3,v4,v5,v6,v7,v8,v9,v10,v11,v12,v13,v14,v15,()),()),())) else some (.inl ((((),()),(v0,()),(v1,()),((i64.wrap (v2+1)),()),()),((v3,v4,v5,v6,v7,v8,v9,v10,v11,v12,v13,v14,v15,()),()),())) else some (.inr (.inr (((false,()),()),(),()))) else some (.inr (.inr (((false,()),()),(),()))) else none else some (.inr (.inl ((((),()),()),((v3,v4,v5,v6,v7,v8,v9,v10,v11,v12,v13,v14,v15,()),()),())))
def yd5 (x:(ydz).X):=ysT x.1.2.1.1 x.1.2.2.1.1 x.1.2.2.2.1.1 x.2.1.1.1 x.2.1.1.2.1 x.2.1.1.2.2.1 x.2.1.1.2.2.2.1 x.2.1.1.2.2.2.2.1 x.2.1.1.2.2.2.2.2.1 x.2.1.1.2.2.2.2.2.2.1 x.2.1.1.2.2.2.2.2.2.2.1 x.2.1.1.2.2.2.2.2.2.2.2.1 x.2.1.1.2.2.2.2.2.2.2.2.2.1 x.2.1.1.2.2.2.2.2.2.2.2.2.2.1 x.2.1.1.2.2.2.2.2.2.2.2.2.2.2.1 x.2.1.1.2.2.2.2.2.2.2.2.2.2.2.2.1
def yEy (x:(yiH).X):(ydz).X:=((((),()),(x.1.2.1.1,()),(x.1.2.2.1.1,()),(0,()),()),((x.2.1.1.1,x.2.1.1.2.1,x.2.1.1.2.2.1,x.2.1.1.2.2.2.1,x.2.1.1.2.2.2.2.1,x.2.1.1.2.2.2.2.2.1,x.2.1.1.2.2.2.2.2.2.1,x.2.1.1.2.2.2.2.2.2.2.1,x.2.1.1.2.2.2.2.2.2.2.2.1,x.2.1.1.2.2.2.2.2.2.2.2.2.1,x.2.1.1.2.2.2.2.2.2.2.2.2.2.1,x.2.1.1.2.2.2.2.2.2.2.2.2.2.2.1,x.2.1.1.2.2.2.2.2.2.2.2.2.2.2.2.1,()),()),())
def yF0:Code:=(zeJ ytn 64 116).getD .skip
theorem yT4:zeJ ytn 64 29=some (.block 0 (.loop yF0)):=by kernel_rfl
theorem yWQ (x:(ydz).X):zhu ⟨yDl,103,yHx⟩ 0 yF0 116 ydz yiu yiU x=yd5 x:=by kernel_rfl
def yEN (x:(yiH).X):Nat:=18446744073709551616
def ytI (x:(yiH).X):Option ((yiu).X ⊕ (yiU).X):=zF yd5 (yEN x) (yEy x)
def yFr:Seg:=⟨yiH,yiu,yiU,ytI⟩
def yXs:Nat→Option Seg:=fun q=>bif Nat.beq q 29 then some yFr else yHx q
theorem yUq:FrOk prog ⟨yDl,103,yXs⟩ ytn:=(yUp).loop (sg:=yFr) ydz yEy (by decide) yT4 yd5 yEN (by decide) (fun _=>rfl) (fun x r _ h=>h) yWQ
abbrev ytW:List Par:= [.rd tA]
abbrev yDD:List OT:= [⟨false,tB,.fz⟩]
def yx7 (a0:dA):Option (zaY yDD×zak ytW) :=let r1:=ybP a0.2.1;bif(!(!r1))then bif(!((a0.2.2.1.length:Int) !=a0.2.1.1))then let r2:=yj a0.1 1 60000;bif(!(!r2))then let r3:=yf4 a0.2.1 a0.2.2.2.1 a0.2.2.2.2.1;bif(!(!r3))then bnd (ypF a0) fun r4 =>bif(!r4.1.1)then some ((false,()),()) else zkr (ytI ((((),()),(a0.2.2.1,()),((a0.2.2.1.length:Int),()),((),()),()),((a0.1,a0.2.1.1,a0.2.1.2,a0.2.2.1,a0.2.2.2.1,a0.2.2.2.2.1,a0.2.2.2.2.2.1,a0.2.2.2.2.2.2.1,a0.2.2.2.2.2.2.2.1,a0.2.2.2.2.2.2.2.2.1,a0.2.2.2.2.2.2.2.2.2.1,a0.2.2.2.2.2.2.2.2.2.2.1,a0.2.2.2.2.2.2.2.2.2.2.2,()),()),())) (fun y8 =>let r10:=yj y8.2.1.1.2.2.2.2.2.2.1 0 60000;bif r10 then let r11:=yj y8.2.1.1.2.2.2.2.2.2.2.1 0 60000;bif r11 then let r12:=yj y8.2.1.1.2.2.2.2.2.2.2.2.1 0 60000;bif r12 then let r13:=yj (i64.wrap (y8.2.1.1.2.2.2.2.2.2.1-y8.2.1.1.2.2.2.2.2.2.2.1)) 0 4;bif r13 then let r14:=yj y8.2.1.1.2.2.2.2.2.2.2.2.2.2.1 (-1) 1000;some ((r14,()),()) else some ((false,()),()) else some ((false,()),()) else some ((false,()),()) else some ((false,()),())) (fun y8 =>some ((y8.1.1.1,()),())) else some ((false,()),()) else some ((false,()),()) else some ((false,()),()) else some ((false,()),())
theorem yYM:ConOk prog 55 ⟨ytW,yDD,fun x=>yx7 x.1⟩:=zkG (yUq) func55 ntmps55.symm fun x=>by kernel_rfl
theorem y6h {S T G F z TS le:Bool} (h1:T=true→TS=true→S=true) (h2:S=true→T=true→z=(TS&&le)) :
  (bif S then bif T then bif G then bif z then some ((F,()),())else some ((false,()),())else some ((false,()),())else some ((false,()),())else some ((false,()),()))=some (((T&&(TS&&(le&&(G&&F)))),()),()):=by
 cases S
 ·cases T
  ·rfl
  ·cases TS
   ·rfl
   ·exact absurd (h1 rfl rfl) Bool.false_ne_true
 ·cases T
  ·cases G<;>rfl
  ·rw[h2 rfl rfl]
   cases TS<;>cases le<;>cases G<;>rfl
def yah (a0:dA):Bool:=yae a0
theorem y1l (a0:dA) (hk:zjw ytW (a0,())):yx7 a0=(fun n=>some ((n,()),())) (yah a0):=by
 have hb:a0.2.2.1.length*80≤2^47:=hk.1.2.2.1.1;unfold yx7 yah yae;simp only[yLx,yal,ybU];cases hg:yd a0.2.1
 ·rfl
 have hg2:=yl.1 hg
 have h1:ytI (yRq a0.2.2.1 a0.2.2.1.length a0)=some (bif(List.range a0.2.2.1.length).any (yhD a0)then .inr (yRD false)else .inl (yRi a0)) :=
  zjh (step:=yd5) (fun i=>ysj a0.2.2.1 a0.2.2.1.length i a0) a0.2.2.1.length (yhD a0) _ _ (fun i hi=>by
   simp only[yd5,ysj,ysT,zkw (show(i:Int)<a0.2.2.1.length by omega),cond_true,wq ((i:Int)+1) (by omega) (by omega),Int.natCast_add,Int.natCast_one,Int.toNat_natCast,zkP hi,zkV,yay,yhD,ypx,wq (6+a0.2.1.2) (by omega) (by omega),yc];rw[show(a0.2.2.2.1 !=(i:Int))=((i:Int) !=a0.2.2.2.1)from bne_comm]
   cases yv (nth a0.2.2.1 i ([],[],false,[]))<;>cases(((nth a0.2.2.1 i ([],[],false,[])).1.length:Int) !=6+a0.2.1.2)<;>cases(nth a0.2.2.1 i ([],[],false,[])).2.2.1<;>cases((i:Int) !=a0.2.2.2.1)<;>cases a0.2.2.2.2.2.2.2.2.2.2.2<;>rfl) (by simp only[yd5,ysj,ysT,zk1 (Int.le_refl _),cond_false]) _ (by show _<18446744073709551616; omega)
 rw[yWL a0 hg,h1];simp only[zkF,ykD,yf4,yal,ybU,wq (a0.2.1.1-1) (by omega) (by omega),ylW]
 have hw:(leb 0 a0.2.2.2.2.2.1&&leb a0.2.2.2.2.2.1 60000)=true→(leb 0 a0.2.2.2.2.2.2.1&&leb a0.2.2.2.2.2.2.1 60000)=true→i64.wrap (a0.2.2.2.2.2.1-a0.2.2.2.2.2.2.1)=a0.2.2.2.2.2.1-a0.2.2.2.2.2.2.1:=fun h h'=>by
  rw[Bool.and_eq_true,zj5,zj5]at h h';exact wr (by omega) (by omega)
 simp only[bne,Bool.not_not,cond_true,Bool.true_and]
 have h2:(leb 0 a0.2.2.2.2.2.1&&leb a0.2.2.2.2.2.1 60000)=true→(leb 0 a0.2.2.2.2.2.2.1&&leb a0.2.2.2.2.2.2.1 60000)=true→(leb 0 (i64.wrap (a0.2.2.2.2.2.1-a0.2.2.2.2.2.2.1))&&leb (i64.wrap (a0.2.2.2.2.2.1-a0.2.2.2.2.2.2.1)) 4)=((leb a0.2.2.2.2.2.2.1 a0.2.2.2.2.2.1&&leb a0.2.2.2.2.2.1 60000)&&leb a0.2.2.2.2.2.1 (a0.2.2.2.2.2.2.1+4)):=fun h h'=>by
  rw[hw h h',Bool.eq_iff_iff];simp only[Bool.and_eq_true,zj5]at h h' ⊢;omega
 have h3:(leb 0 a0.2.2.2.2.2.2.1&&leb a0.2.2.2.2.2.2.1 60000)=true→(leb a0.2.2.2.2.2.2.1 a0.2.2.2.2.2.1&&leb a0.2.2.2.2.2.1 60000)=true→(leb 0 a0.2.2.2.2.2.1&&leb a0.2.2.2.2.2.1 60000)=true:=fun h h'=>by
  simp only[Bool.and_eq_true,zj5]at h h' ⊢;omega
 cases((a0.2.2.1.length:Int)==a0.2.1.1)
 ·cases(leb 1 a0.1&&leb a0.1 60000)<;>cases(List.range a0.2.2.1.length).any (yhD a0)<;>rfl
 cases(leb 1 a0.1&&leb a0.1 60000)
 ·rfl
 cases(leb (-1) a0.2.2.2.1&&leb a0.2.2.2.1 (a0.2.1.1-1))
 ·cases(List.range a0.2.2.1.length).any (yhD a0)<;>cases yaY a0.2.1 a0.2.2.2.2.2.2.2.2.1<;>rfl
 cases(leb 0 a0.2.2.2.2.1&&leb a0.2.2.2.2.1 a0.2.1.2)
 ·cases(List.range a0.2.2.1.length).any (yhD a0)<;>cases yaY a0.2.1 a0.2.2.2.2.2.2.2.2.1<;>rfl
 cases yaY a0.2.1 a0.2.2.2.2.2.2.2.2.1
 ·cases(List.range a0.2.2.1.length).any (yhD a0)<;>cases(a0.2.2.2.1== -1)<;>cases(a0.2.2.2.2.1==0)<;>rfl
 cases(List.range a0.2.2.1.length).any (yhD a0)
 ·cases(a0.2.2.2.1== -1)<;>cases(a0.2.2.2.2.1==0)
  case true.false=>rfl
  all_goals exact y6h h3 h2
 ·cases(a0.2.2.2.1== -1)<;>cases(a0.2.2.2.2.1==0)<;>rfl
def yeP:Con:=⟨ytW,yDD,fun x=>(fun n=>some ((n,()),())) (yah x.1)⟩
theorem yif:ConOk prog 55 yeP:=(yYM).mono (fun x r hk h=>(y1l x.1 hk).trans h)
def yii:Code:=(f201.body).getD .skip
def ynJ:Env:=zku TT [] []
theorem yH1:FrOk prog ⟨ynJ,19,fun _=>none⟩ yii:=zky yf yg trivial
def ytw:Nat→Option Seg:=fun _=>none
def yaQ:Shape:=⟨[(0,false,[.br tI]),(1,false,[.int .i64]),(7,false,[.int .i64]),(8,false,[.int .i64])],[],[]⟩
def ydf:Shape:=⟨[(0,false,[.br tI]),(1,false,[.int .i64]),(7,false,[.int .i64]),(8,false,[.ci .i64 0])],[],[]⟩
def ydd:Shape:=⟨[],[],[]⟩
def ydh:Shape:=⟨[(4,false,[.int .i64])],[],[]⟩
abbrev yjB (v0:List Int) (v1 v2 v3:Int):(yaQ).X:=(((v0,()),(v1,()),(v2,()),(v3,()),()),(),())
abbrev yHp (v0:List Int) (v1 v2:Int):(ydf).X:=(((v0,()),(v1,()),(v2,()),((),()),()),(),())
abbrev yHn  :(ydd).X:=((),(),())
abbrev yrd (v0:Int):(ydh).X:=(((v0,()),()),(),())
def yjF (v0:List Int) (v1 v2 v3:Int):Option ((yaQ).X ⊕ ((ydd).X ⊕ (ydh).X)) :=bif(ltb v3 v2)then bif(inb v3 v0.length)then bif(v1==(nth v0 v3 0))then some (.inr (.inr (((v3,()),()),(),()))) else some (.inl (((v0,()),(v1,()),(v2,()),((i64.wrap (v3+1)),()),()),(),())) else none else some (.inr (.inl ((),(),())))
def yaZ (x:(yaQ).X):=yjF x.1.1.1 x.1.2.1.1 x.1.2.2.1.1 x.1.2.2.2.1.1
def yq7 (x:(ydf).X):(yaQ).X:=(((x.1.1.1,()),(x.1.2.1.1,()),(x.1.2.2.1.1,()),(0,()),()),(),())
def ys8:Code:=(zeJ yii 64 52).getD .skip
theorem yHJ:zeJ yii 64 13=some (.block 0 (.loop ys8)):=by kernel_rfl
theorem yIm (x:(yaQ).X):zhu ⟨ynJ,19,ytw⟩ 0 ys8 52 yaQ ydd ydh x=yaZ x:=by kernel_rfl
def yq9 (x:(ydf).X):Nat:=18446744073709551616
def yj8 (x:(ydf).X):Option ((ydd).X ⊕ (ydh).X):=zF yaZ (yq9 x) (yq7 x)
def yrh:Seg:=⟨ydf,ydd,ydh,yj8⟩
def yIy:Nat→Option Seg:=fun q=>bif Nat.beq q 13 then some yrh else ytw q
theorem yH2:FrOk prog ⟨ynJ,19,yIy⟩ yii:=(yH1).loop (sg:=yrh) yaQ yq7 (by decide) yHJ yaZ yq9 (by decide) (fun _=>rfl) (fun x r _ h=>h) yIm
abbrev yiq:List Par:= [.rd tL,.rd tI]
abbrev ynZ:List OT:= [⟨false,tI,.fz⟩]
def ylz (a0:List Int) (a1:Int):Option (zaY ynZ×zak yiq) :=zkr (yj8 (((a0,()),(a1,()),((a0.length:Int),()),((),()),()),(),())) (fun y0 =>some (((-1),()),())) (fun y0 =>some ((y0.1.1.1,()),()))
theorem yI5:ConOk prog 201 ⟨yiq,ynZ,fun x=>ylz x.1 x.2.1⟩:=zkG (yH2) func201 ntmps201.symm fun x=>by kernel_rfl
def yX9 (l:List Int) (x:Int):Int:=bif l.any (· ==x)then((l.takeWhile (· !=x)).length:Int)else -1
def yfA (a0:List Int) (a1:Int):Int:=yX9 a0 a1
theorem y4i {A B α:Type} {step:A→Option (A ⊕ B)} (l:List α) (d:α) (f:Nat→A) (p:α→Bool) (b:Nat→B) (c:B)
  (h: ∀i,i<l.length→step (f i)=some (bif p (l.getD i d)then .inr (b i)else .inl (f (i+1)))) (e:step (f l.length)=some (.inr c)) (fuel:Nat) (hf:l.length<fuel) :
  zF step fuel (f 0)=some (bif l.any p then b (l.takeWhile (fun x=> !p x)).length else c):=by
 have: ∀(t q:List α) (fuel:Nat),q++t=l→t.length<fuel→zF step fuel (f q.length)=some (bif t.any p then b (q.length+(t.takeWhile (fun x=> !p x)).length)else c):=by
  intro t
  induction t with
  | nil =>
   intro q fuel hq hf;obtain⟨fuel,rfl⟩: ∃m,fuel=m+1:=⟨fuel-1,by omega⟩;rw[List.append_nil]at hq;subst hq;simp only[zF,e,List.any_nil,cond_false]
  | cons x t ih =>
   intro q fuel hq hf;obtain⟨fuel,rfl⟩: ∃m,fuel=m+1:=⟨fuel-1,by omega⟩
   have hx:l.getD q.length d=x:=by
    subst hq;rw[zkH (by simp)]; simp
   have hs:=h q.length (by rw[← hq]; simp);rw[hx]at hs;cases hp:p x
   ·rw[hp]at hs
    have:=ih (q++ [x]) fuel (by rw[← hq]; simp) (by simp at hf; omega);simp only[List.length_append,List.length_cons,List.length_nil]at this;simp only[zF,hs,cond_false];simp only[List.any_cons,hp,Bool.false_or,List.takeWhile_cons,Bool.not_false,if_true,List.length_cons];rw[show q.length+((t.takeWhile (fun x=> !p x)).length+1)=q.length+(0+1)+(t.takeWhile (fun x=> !p x)).length by omega];exact this
   ·rw[hp]at hs
    simp only[zF,hs,cond_true,List.any_cons,hp,Bool.true_or,List.takeWhile_cons,Bool.not_true,Bool.false_eq_true,if_false,List.length_nil,Nat.add_zero]
 have:=this l [] fuel rfl hf;simpa using this
theorem yKb (a0:List Int) (a1:Int) (hk:zjw yiq (a0,a1,())):ylz a0 a1=(fun n=>some ((n,()),())) (yfA a0 a1):=by
 have hb:a0.length*8≤2^47:=hk.1.1
 have h1:yj8 (yHp a0 a1 a0.length)=some (bif a0.any (· ==a1)then .inr (yrd ((a0.takeWhile (fun x=> !(x==a1))).length:Int))else .inl yHn) :=
  y4i (step:=yaZ) a0 0 (fun i=>yjB a0 a1 a0.length i) (· ==a1) (fun i=> .inr (yrd (i:Int))) _ (fun i hi=>by
   simp only[yaZ,yjB,yjF,zkw (show(i:Int)<a0.length by omega),cond_true,wq ((i:Int)+1) (by omega) (by omega),Int.natCast_add,Int.natCast_one,Int.toNat_natCast,zkP hi,zkQ];rw[show(a1==a0.getD i 0)=(a0.getD i 0==a1)by rw[Bool.eq_iff_iff,beq_iff_eq,beq_iff_eq]; exact eq_comm]
   cases(a0.getD i 0==a1)<;>rfl) (by simp only[yaZ,yjB,yjF,zk1 (Int.le_refl _),cond_false]) _ (by show _<18446744073709551616; omega)
 unfold ylz yfA yX9;rw[h1];cases a0.any (· ==a1)<;>rfl
def yuQ:Con:=⟨yiq,ynZ,fun x=>(fun n=>some ((n,()),())) (yfA x.1 x.2.1)⟩
theorem yKl:ConOk prog 201 yuQ:=(yI5).mono (fun x r hk h=>(yKb x.1 x.2.1 hk).trans h)
def yHw:Code:=(f157.body).getD .skip
def yHI:Env:=zku TT [(201,yuQ)] []
theorem yEM:FrOk prog ⟨yHI,9,fun _=>none⟩ yHw:=zky yf yg ⟨yKl,trivial⟩
abbrev yfI:List Par:= [.rd tL,.rd tI]
abbrev yko:List OT:= [⟨false,tB,.fz⟩]
def yh6 (a0:List Int) (a1:Int):Option (zaY yko×zak yfI) :=let r1:=yfA a0 a1;some (((leb 0 r1),()),())
theorem yFK:ConOk prog 157 ⟨yfI,yko,fun x=>yh6 x.1 x.2.1⟩:=zkG (yEM) func157 ntmps157.symm fun x=>by kernel_rfl
def ydj (a0:List Int) (a1:Int):Bool:=a0.any (· ==a1)
theorem yHr (a0:List Int) (a1:Int) (hk:zjw yfI (a0,a1,())):yh6 a0 a1=(fun n=>some ((n,()),())) (ydj a0 a1):=by
 unfold yh6 ydj yfA yX9;cases a0.any (· ==a1)
 ·rfl
 ·simp only[cond_true]
  rw[zk0 (show(0:Int)≤((a0.takeWhile (· !=a1)).length:Int)by omega)]
def ypL:Con:=⟨yfI,yko,fun x=>(fun n=>some ((n,()),())) (ydj x.1 x.2.1)⟩
theorem yHs:ConOk prog 157 ypL:=(yFK).mono (fun x r hk h=>(yHr x.1 x.2.1 hk).trans h)
def yTp:Code:=(f158.body).getD .skip
def yTS:Env:=zku TT [] []
theorem yLa:FrOk prog ⟨yTS,6,fun _=>none⟩ yTp:=zky yf yg trivial
abbrev ym5:List Par:= [.rd tL]
abbrev yul:List OT:= [⟨false,tL,(.ow .fz)⟩]
def yqG (a0:List Int):Option (zaY yul×zak ym5) :=bif(zkj ([]:List Int).length a0.length 8)then some (((([]:List Int)++a0),()),()) else none
theorem yOU:ConOk prog 158 ⟨ym5,yul,fun x=>yqG x.1⟩:=zkG (yLa) func158 ntmps158.symm fun x=>by kernel_rfl
def yx (a0:List Int):List Int:=a0
theorem yRU (a0:List Int) (hk:zjw ym5 (a0,())):yqG a0=(fun n=>some ((n,()),())) (yx a0):=by
 have hb:a0.length*8≤2^47:=hk.1.1;unfold yqG yx;rw[show zkj ([]:List Int).length a0.length 8=true by rw[zkD,List.length_nil]; omega];rfl
def yaM:Con:=⟨ym5,yul,fun x=>(fun n=>some ((n,()),())) (yx x.1)⟩
theorem ybQ:ConOk prog 158 yaM:=(yOU).mono (fun x r hk h=>(yRU x.1 hk).trans h)
def yoV:Code:=(f87.body).getD .skip
def ywT:Env:=zku TT [(127,yeQ),(156,ynv),(157,ypL),(158,yaM)] []
theorem yNI:FrOk prog ⟨ywT,49,fun _=>none⟩ yoV:=zky yf yg ⟨yig,yxX,yHs,ybQ,trivial⟩
def yC9:Nat→Option Seg:=fun _=>none
def ycd:Shape:=⟨[(1,false,[.int .i64]),(6,false,[.br tI]),(34,false,[.br tW]),(35,false,[.int .i64]),(36,false,[.int .i64])],[],[]⟩
def ygr:Shape:=⟨[(1,false,[.int .i64]),(6,false,[.br tI]),(34,false,[.br tW]),(35,false,[.int .i64]),(36,false,[.ci .i64 0])],[],[]⟩
def ygd:Shape:=⟨[(6,false,[.br tI])],[],[]⟩
def yjR:Shape:=⟨[],[],[]⟩
abbrev yof (v0:Int) (v1:List Int) (v2:List dW) (v3 v4:Int):(ycd).X:=(((v0,()),(v1,()),(v2,()),(v3,()),(v4,()),()),(),())
abbrev yLQ (v0:Int) (v1:List Int) (v2:List dW) (v3:Int):(ygr).X:=(((v0,()),(v1,()),(v2,()),(v3,()),((),()),()),(),())
abbrev yzu (v0:List Int):(ygd).X:=(((v0,()),()),(),())
def yoE (v0:Int) (v1:List Int) (v2:List dW) (v3 v4:Int):Option ((ycd).X ⊕ ((ygd).X ⊕ (yjR).X)) :=bif(ltb v4 v3)then bif(inb v4 v2.length)then bif((nth v2 v4 (0,[])).1==v0)then some (.inl (((v0,()),((nth v2 v4 (0,[])).2,()),(v2,()),(v3,()),((i64.wrap (v4+1)),()),()),(),())) else some (.inl (((v0,()),(v1,()),(v2,()),(v3,()),((i64.wrap (v4+1)),()),()),(),())) else none else some (.inr (.inl (((v1,()),()),(),())))
def ycy (x:(ycd).X):=yoE x.1.1.1 x.1.2.1.1 x.1.2.2.1.1 x.1.2.2.2.1.1 x.1.2.2.2.2.1.1
def yyY (x:(ygr).X):(ycd).X:=(((x.1.1.1,()),(x.1.2.1.1,()),(x.1.2.2.1.1,()),(x.1.2.2.2.1.1,()),(0,()),()),(),())
def yBu:Code:=(zeJ yoV 64 244).getD .skip
theorem yNm:zeJ yoV 64 61=some (.block 0 (.loop yBu)):=by kernel_rfl
theorem yPh (x:(ycd).X):zhu ⟨ywT,49,yC9⟩ 0 yBu 244 ycd ygd yjR x=ycy x:=by kernel_rfl
def yzf (x:(ygr).X):Nat:=18446744073709551616
def ypV (x:(ygr).X):Option ((ygd).X ⊕ (yjR).X):=zF ycy (yzf x) (yyY x)
def yzJ:Seg:=⟨ygr,ygd,yjR,ypV⟩
def yPR:Nat→Option Seg:=fun q=>bif Nat.beq q 61 then some yzJ else yC9 q
theorem yNJ:FrOk prog ⟨ywT,49,yPR⟩ yoV:=(yNI).loop (sg:=yzJ) ycd yyY (by decide) yNm ycy yzf (by decide) (fun _=>rfl) (fun x r _ h=>h) yPh
abbrev yo8:List Par:= [.rd tM,.rd tI]
abbrev yxm:List OT:= [⟨false,tL,(.ow .fz)⟩,⟨false,tB,.fz⟩]
def ysD (a0:dM) (a1:Int):Option (zaY yxm×zak yo8) :=let r1:=yay a0;bif(!(!r1))then bif(!a0.2.2.1)then let r2:=ybS a0 a1;bif(!(!r2))then let r3:=ydj a0.2.2.2 a1;bif r3 then some (([],false,()),()) else bif(inb a1 a0.1.length)then zkr (ypV (((a1,()),((nth a0.1 a1 []),()),(a0.2.1,()),((a0.2.1.length:Int),()),((),()),()),(),())) (fun y3 =>let r5:=yx y3.1.1.1;some ((r5,true,()),())) (fun y3 =>none) else none else some (([],false,()),()) else some (([],false,()),()) else some (([],false,()),())
theorem ySf:ConOk prog 87 ⟨yo8,yxm,fun x=>ysD x.1 x.2.1⟩:=zkG (yNJ) func87 ntmps87.symm fun x=>by kernel_rfl
def ybW (a0:dM) (a1:Int):List Int×Bool:=yQ a0 a1
theorem yVm (a0:dM) (a1:Int) (hk:zjw yo8 (a0,a1,())):ysD a0 a1=(fun n=>some ((n.1,n.2,()),())) (ybW a0 a1):=by
 have hb1:a0.1.length*24≤2^47:=hk.1.1.1;have hb2:a0.2.1.length*32≤2^47:=hk.1.2.1.1
 have h1: ∀s,ypV (yLQ a1 s a0.2.1 a0.2.1.length)=some (.inl (yzu (yhL a1 a0.2.1 s))):=fun s =>
  zkv (step:=ycy) a0.2.1 (0,[]) (fun i s=>yof a1 s a0.2.1 a0.2.1.length i) (fun s w=>bif w.1==a1 then w.2 else s) (fun _ _=>True) (fun s=> .inl (yzu s)) (fun i s hi _=>⟨by
   simp only[ycy,yof,yoE,zkw (show(i:Int)<a0.2.1.length by omega),cond_true,wq ((i:Int)+1) (by omega) (by omega),Int.natCast_add,Int.natCast_one,Int.toNat_natCast,zkP hi,zkQ]
   cases((a0.2.1.getD i (0,[])).1==a1)<;>rfl,trivial⟩) (fun s _=>by simp only[ycy,yof,yoE,zk1 (Int.le_refl _),cond_false]) s trivial _ (by show _<18446744073709551616; omega)
 unfold ysD ybW yQ yta ybS;rw[yal,ykt (show a0.1.length≤1152921504606846976 by omega)];unfold yay ydj yx;simp only[h1,zkL];cases yv a0
 ·rfl
 cases a0.2.2.1
 ·cases inb a1 a0.1.length
  ·rfl
  ·cases a0.2.2.2.any (· ==a1)<;>rfl
 ·rfl
def yll:Con:=⟨yo8,yxm,fun x=>(fun n=>some ((n.1,n.2,()),())) (ybW x.1 x.2.1)⟩
theorem yvu:ConOk prog 87 yll:=(ySf).mono (fun x r hk h=>(yVm x.1 x.2.1 hk).trans h)
def yXl:Code:=(f195.body).getD .skip
def yXN:Env:=zku TT [(82,yL),(150,ygW)] []
theorem yN6:FrOk prog ⟨yXN,60,fun _=>none⟩ yXl:=zky yf yg ⟨yT,yma,trivial⟩
abbrev yxc:List Par:= [.rd tS]
abbrev yxA:List OT:= [⟨false,tB,.fz⟩]
def yFp (a0:dS):Option (zaY yxA×zak yxc) :=let r1:=yd (a0.2.2.2.1,a0.2.2.2.2.1);bif(!(!r1))then let r2:=yb a0.1 1 60000;bif(!(!r2))then let r3:=yb a0.2.1 0 60000;bif(!(!r3))then let r4:=yb a0.2.2.1 0 (i64.wrap (a0.2.2.2.1-1));bif(!(!r4))then let r5:=yb a0.2.2.2.2.2.1 0 60000;bif(!r5)then some ((false,()),()) else let r6:=yb a0.2.2.2.2.2.2.1 (-1) (i64.wrap (a0.2.2.2.1-1));bif r6 then let r7:=yb a0.2.2.2.2.2.2.2 0 a0.2.2.2.2.1;bif r7 then bif(!(leb 0 a0.2.2.2.2.2.2.1))then some (((a0.2.2.2.2.2.2.2==0),()),()) else some ((true,()),()) else some ((false,()),()) else some ((false,()),()) else some ((false,()),()) else some ((false,()),()) else some ((false,()),()) else some ((false,()),())
theorem ySu:ConOk prog 195 ⟨yxc,yxA,fun x=>yFp x.1⟩:=zkG (yN6) func195 ntmps195.symm fun x=>by kernel_rfl
def yH (a0:dS):Bool :=let r1:=yd (a0.2.2.2.1,a0.2.2.2.2.1);bif(!(!r1))then let r2:=yb a0.1 1 60000;bif(!(!r2))then let r3:=yb a0.2.1 0 60000;bif(!(!r3))then let r4:=yb a0.2.2.1 0 (i64.wrap (a0.2.2.2.1-1));bif(!(!r4))then let r5:=yb a0.2.2.2.2.2.1 0 60000;bif(!r5)then false else let r6:=yb a0.2.2.2.2.2.2.1 (-1) (i64.wrap (a0.2.2.2.1-1));bif r6 then let r7:=yb a0.2.2.2.2.2.2.2 0 a0.2.2.2.2.1;bif r7 then bif(!(leb 0 a0.2.2.2.2.2.2.1))then (a0.2.2.2.2.2.2.2==0) else true else false else false else false else false else false else false
def yEr:Con:=⟨yxc,yxA,fun x=>(fun n=>some ((n,()),())) (yH x.1)⟩
theorem yVA (a0:dS):yFp a0=(fun n=>some ((n,()),())) (yH a0):=zkT (p:=fun(n:Bool)=>((n,()),())) (zkE (p:=fun(n:Bool)=>((n,()),())) (zkE (p:=fun(n:Bool)=>((n,()),())) (zkE (p:=fun(n:Bool)=>((n,()),())) (zkE (p:=fun(n:Bool)=>((n,()),())) (zkE (p:=fun(n:Bool)=>((n,()),())) rfl (zkE (p:=fun(n:Bool)=>((n,()),())) (zkE (p:=fun(n:Bool)=>((n,()),())) (zkE (p:=fun(n:Bool)=>((n,()),())) rfl rfl) rfl) rfl)) rfl) rfl) rfl) rfl)
theorem yWE:ConOk prog 195 yEr:=(ySu).mono (fun x r _ h=>(yVA x.1).trans h)
abbrev yeV:dS:=(0,0,0,0,0,0,0,0)
theorem yyz {s:dS}:yH s=true↔yd (s.2.2.2.1,s.2.2.2.2.1)=true∧(1≤s.1∧s.1≤60000)∧(0≤s.2.1∧s.2.1≤60000)∧(0≤s.2.2.1∧s.2.2.1≤s.2.2.2.1-1)∧(0≤s.2.2.2.2.2.1∧s.2.2.2.2.2.1≤60000)∧(-1≤s.2.2.2.2.2.2.1∧s.2.2.2.2.2.2.1≤s.2.2.2.1-1)∧(0≤s.2.2.2.2.2.2.2∧s.2.2.2.2.2.2.2≤s.2.2.2.2.1)∧(0≤s.2.2.2.2.2.2.1∨s.2.2.2.2.2.2.2=0):=by
 unfold yH;cases hg:yd (s.2.2.2.1,s.2.2.2.2.1)
 ·simp
 have hg2:=yl.1 hg;simp only at hg2;rw[wq (s.2.2.2.1-1) (by omega) (by omega)];simp only[Bool.not_not,cond_true,true_and];simp only[← yve];cases yb s.1 1 60000
 ·simp
 cases yb s.2.1 0 60000
 ·simp
 cases yb s.2.2.1 0 (s.2.2.2.1-1)
 ·simp
 cases yb s.2.2.2.2.2.1 0 60000
 ·simp
 cases yb s.2.2.2.2.2.2.1 (-1) (s.2.2.2.1-1)
 ·simp
 cases yb s.2.2.2.2.2.2.2 0 s.2.2.2.2.1
 ·simp
 cases hl:leb 0 s.2.2.2.2.2.2.1
 ·have:=mt zk0 (by rw[hl]; simp: ¬leb 0 s.2.2.2.2.2.2.1=true)
  simp[this]
 ·simp[zj5.1 hl]
def yIw (l:List Int):dS:=(nth l 1 0,nth l 2 0,nth l 3 0,nth l 4 0,nth l 5 0,nth l 6 0,i64.wrap (nth l 7 0-1),nth l 8 0)
def yeT (l:List Int):dS×Bool:=bif(l.length:Int)==9&&(nth l 0 0==21317&&yH (yIw l))then(yIw l,true)else(yeV,false)
def yHk (m:dM) (i:Int):dS:=(yeT (yQ m i).1).1
def yq5 (m:dM) (id i:Int):Bool:=(yQ m i).2&&((yeT (yQ m i).1).2&&((yHk m i).1==id&&(yHk m i).2.1.tmod 2==i))
def ylQ (b:dS×Bool) (ok:Bool) (s:dS):dS×Bool:=bif ok&&(!b.2||ltb b.1.2.1 s.2.1)then(s,true)else b
def yas (m:dM) (id:Int):dS×Bool:=(List.range 2).foldl (fun s (i:Nat)=>ylQ s (yq5 m id i) (yHk m i)) (yeV,false)
def yh1 (m:dM) (i id:Int):Bool:= !m.2.2.1&&((yas m id).2&&(yas m id).1.2.2.1==i)
def ydS (l:List dM) (id:Int):dS×Bool:=(List.range l.length).foldl (fun s (i:Nat)=>ylQ s (yh1 (nth l i yc) i id) (yas (nth l i yc) id).1) (yeV,false)
def ykr (l:List dM) (id:Int) (s:Int×Int×Bool) (i:Nat):Int×Int×Bool:=bif yh1 (nth l i yc) i id then s else bif s.1== -1||s.1==i then((i:Int),0,s.2.2)else(s.1,s.2.1,true)
def yuE (b:dS) (l:List dM) (id:Int) (s:Int×Int×Bool):dA:=(id,(b.2.2.2.1,b.2.2.2.2.1),l,s.1,s.2.1,b.2.2.2.2.2.1,b.2.2.2.2.2.1,b.2.1,[],-1,false,s.2.2)
def yHL (l:List dM) (id:Int):dA:=yuE (ydS l id).1 l id ((List.range l.length).foldl (ykr l id) ((ydS l id).1.2.2.2.2.2.2.1,(ydS l id).1.2.2.2.2.2.2.2,false))
def yfY (l:List dM) (id:Int):dA×Bool:=bif(ydS l id).2&&((l.length:Int)==(ydS l id).1.2.2.2.1&&yae (yHL l id))then(yHL l id,true)else(yaJ,false)
theorem y5n (b:dS×Bool) (s:dS):ylQ b false s=b:=rfl
theorem y3s {m:dM} {i:Int} (h:(yQ m i).2=true):yv m=true:=by
 unfold yQ at h;cases hc:yta m i
 ·rw[hc]at h; cases h
 ·exact(Bool.and_eq_true_iff.1 hc).1
theorem y5o {m:dM} {id i:Int} (h:yv m=false):yq5 m id i=false:=by
 unfold yq5;cases hr:(yQ m i).2
 ·rfl
 ·rw[y3s hr]at h; cases h
theorem y5m {m:dM} {id:Int} (h:(yas m id).2=true):yv m=true:=by
 cases hm:yv m
 ·unfold yas at h
  simp only[y5o hm,y5n]at h;exact h
 ·rfl
def yXe:Code:=(f212.body).getD .skip
def yXG:Env:=zku TT [(81,yM),(123,ygV),(125,yuP)] []
theorem yNL:FrOk prog ⟨yXG,44,fun _=>none⟩ yXe:=zky yf yg ⟨yS,yl9,yIf,trivial⟩
abbrev yw6:List Par:= [.rd tS]
abbrev yxo:List OT:= [⟨false,tB,.fz⟩]
def yFk (a0:dS):Option (zaY yxo×zak yw6) :=let r1:=yj a0.1 1 60000;bif r1 then let r2:=yj a0.2.1 0 60000;bif r2 then let r3:=yj a0.2.2.2.2.2.1 0 60000;bif r3 then let r4:=ybP (a0.2.2.2.1,a0.2.2.2.2.1);bif r4 then let r5:=yj a0.2.2.1 0 (i64.wrap (a0.2.2.2.1-1));bif r5 then let r6:=yf4 (a0.2.2.2.1,a0.2.2.2.2.1) a0.2.2.2.2.2.2.1 a0.2.2.2.2.2.2.2;some ((r6,()),()) else some ((false,()),()) else some ((false,()),()) else some ((false,()),()) else some ((false,()),()) else some ((false,()),())
theorem ySh:ConOk prog 212 ⟨yw6,yxo,fun x=>yFk x.1⟩:=zkG (yNL) func212 ntmps212.symm fun x=>by kernel_rfl
def yeU (a0:dS):Bool :=let r1:=yj a0.1 1 60000;bif r1 then let r2:=yj a0.2.1 0 60000;bif r2 then let r3:=yj a0.2.2.2.2.2.1 0 60000;bif r3 then let r4:=ybP (a0.2.2.2.1,a0.2.2.2.2.1);bif r4 then let r5:=yj a0.2.2.1 0 (i64.wrap (a0.2.2.2.1-1));bif r5 then let r6:=yf4 (a0.2.2.2.1,a0.2.2.2.2.1) a0.2.2.2.2.2.2.1 a0.2.2.2.2.2.2.2;r6 else false else false else false else false else false
def ysc:Con:=⟨yw6,yxo,fun x=>(fun n=>some ((n,()),())) (yeU x.1)⟩
theorem yVo (a0:dS):yFk a0=(fun n=>some ((n,()),())) (yeU a0):=zkT (p:=fun(n:Bool)=>((n,()),())) (zkE (p:=fun(n:Bool)=>((n,()),())) (zkE (p:=fun(n:Bool)=>((n,()),())) (zkE (p:=fun(n:Bool)=>((n,()),())) (zkE (p:=fun(n:Bool)=>((n,()),())) (zkE (p:=fun(n:Bool)=>((n,()),())) rfl rfl) rfl) rfl) rfl) rfl)
theorem yGK:ConOk prog 212 ysc:=(ySh).mono (fun x r _ h=>(yVo x.1).trans h)
theorem yJq (s:dS):yeU s=yH s:=by
 rw[Bool.eq_iff_iff,yyz];unfold yeU yf4;simp only[yLx,yal];cases hg:yd (s.2.2.2.1,s.2.2.2.2.1)
 ·cases yb s.1 1 60000<;>cases yb s.2.1 0 60000<;>cases yb s.2.2.2.2.2.1 0 60000<;>simp
 have hg2:=yl.1 hg;simp only at hg2;rw[wq (s.2.2.2.1-1) (by omega) (by omega)];simp only[← yve];cases yb s.1 1 60000
 ·simp
 cases yb s.2.1 0 60000
 ·simp
 cases yb s.2.2.2.2.2.1 0 60000
 ·simp
 cases yb s.2.2.1 0 (s.2.2.2.1-1)
 ·simp
 cases hl:yb s.2.2.2.2.2.2.1 (-1) (s.2.2.2.1-1)
 ·simp
 cases yb s.2.2.2.2.2.2.2 0 s.2.2.2.2.1
 ·simp
 have:=yve.1 hl;by_cases h0:s.2.2.2.2.2.2.2=0
 ·simp[h0]
 ·simp[h0]; omega
def yTj:Code:=(f198.body).getD .skip
def yTM:Env:=zku TT [(212,ysc)] []
theorem yK4:FrOk prog ⟨yTM,46,fun _=>none⟩ yTj:=zky yf yg ⟨yGK,trivial⟩
abbrev ym0:List Par:= [.rd tL]
abbrev yuf:List OT:= [⟨false,tS,(.pr .fz (.pr .fz (.pr .fz (.pr .fz (.pr .fz (.pr .fz (.pr .fz .fz)))))))⟩,⟨false,tB,.fz⟩]
def yqB (a0:List Int):Option (zaY yuf×zak ym0) :=bif(!((a0.length:Int) !=9))then bif(inb 0 a0.length)then bif((nth a0 0 0) !=21317)then some (((0,0,0,0,0,0,0,0),false,()),()) else bif(inb 1 a0.length)then bif(inb 2 a0.length)then bif(inb 3 a0.length)then bif(inb 4 a0.length)then bif(inb 5 a0.length)then bif(inb 6 a0.length)then bif(inb 7 a0.length)then bif(inb 8 a0.length)then let r1:=yeU ((nth a0 1 0),(nth a0 2 0),(nth a0 3 0),(nth a0 4 0),(nth a0 5 0),(nth a0 6 0),(i64.wrap ((nth a0 7 0)-1)),(nth a0 8 0));bif(!r1)then some (((0,0,0,0,0,0,0,0),false,()),()) else some ((((nth a0 1 0),(nth a0 2 0),(nth a0 3 0),(nth a0 4 0),(nth a0 5 0),(nth a0 6 0),(i64.wrap ((nth a0 7 0)-1)),(nth a0 8 0)),true,()),()) else none else none else none else none else none else none else none else none else none else some (((0,0,0,0,0,0,0,0),false,()),())
theorem yOO:ConOk prog 198 ⟨ym0,yuf,fun x=>yqB x.1⟩:=zkG (yK4) func198 ntmps198.symm fun x=>by kernel_rfl
def yjh (a0:List Int):dS×Bool:=yeT a0
theorem yRO (a0:List Int) (hk:zjw ym0 (a0,())):yqB a0=(fun n=>some ((n.1,n.2,()),())) (yjh a0):=by
 unfold yqB yjh yeT;by_cases h:(a0.length:Int)=9
 ·simp only[bne,h,yJq,beq_self_eq_true,zj4.2 (show(0:Int)≤0∧(0:Int)<a0.length by omega),zj4.2 (show(0:Int)≤1∧(1:Int)<a0.length by omega),zj4.2 (show(0:Int)≤2∧(2:Int)<a0.length by omega),zj4.2 (show(0:Int)≤3∧(3:Int)<a0.length by omega),zj4.2 (show(0:Int)≤4∧(4:Int)<a0.length by omega),zj4.2 (show(0:Int)≤5∧(5:Int)<a0.length by omega),zj4.2 (show(0:Int)≤6∧(6:Int)<a0.length by omega),zj4.2 (show(0:Int)≤7∧(7:Int)<a0.length by omega),zj4.2 (show(0:Int)≤8∧(8:Int)<a0.length by omega)]
  rw[show yH (nth a0 1 0,nth a0 2 0,nth a0 3 0,nth a0 4 0,nth a0 5 0,nth a0 6 0,i64.wrap (nth a0 7 0-1),nth a0 8 0)=yH (yIw a0)from rfl];cases(nth a0 0 0==21317)<;>cases yH (yIw a0)<;>rfl
 ·rw[show((a0.length:Int) !=9)=true from bne_iff_ne.2 h,show((a0.length:Int)==9)=false from beq_eq_false_iff_ne.2 h]; rfl
def yBJ:Con:=⟨ym0,yuf,fun x=>(fun n=>some ((n.1,n.2,()),())) (yjh x.1)⟩
theorem ySI:ConOk prog 198 yBJ:=(yOO).mono (fun x r hk h=>(yRO x.1 hk).trans h)
def yk3:Code:=(f148.body).getD .skip
def yrW:Env:=zku TT [(87,yll),(198,yBJ)] []
theorem yJR:FrOk prog ⟨yrW,60,fun _=>none⟩ yk3:=zky yf yg ⟨yvu,ySI,trivial⟩
def yyB:Nat→Option Seg:=fun _=>none
def ybk:Shape:=⟨[(1,false,[.int .i64]),(2,false,[.ptr 0 0]),(4,false,[.ptr 64 0]),(6,false,[.ptr 4160 0]),(7,false,[.bool]),(14,false,[.int .i64])],[(0,[.br tL,.br tW,.bool,.br tI]),(64,[.int .i64,.int .i64,.int .i64,.int .i64,.int .i64,.int .i64,.int .i64,.int .i64]),(4160,[.int .i64,.int .i64,.int .i64,.int .i64,.int .i64,.int .i64,.int .i64,.int .i64])],[]⟩
def yeA:Shape:=⟨[(1,false,[.int .i64]),(2,false,[.ptr 0 0]),(4,false,[.ptr 64 0]),(6,false,[.ptr 4160 0]),(7,false,[.cb false]),(14,false,[.ci .i64 0])],[(0,[.br tL,.br tW,.bool,.br tI]),(64,[.int .i64,.int .i64,.int .i64,.int .i64,.int .i64,.int .i64,.int .i64,.int .i64]),(4160,[.int .i64,.int .i64,.int .i64,.int .i64,.int .i64,.int .i64,.int .i64,.int .i64])],[]⟩
def yet:Shape:=⟨[(4,false,[.ptr 64 0]),(6,false,[.ptr 4160 0]),(7,false,[.bool])],[(64,[.int .i64,.int .i64,.int .i64,.int .i64,.int .i64,.int .i64,.int .i64,.int .i64]),(4160,[.int .i64,.int .i64,.int .i64,.int .i64,.int .i64,.int .i64,.int .i64,.int .i64])],[]⟩
def yhW:Shape:=⟨[],[],[]⟩
abbrev ylr (v0:Int) (v1:Bool) (v2:Int) (v3:dM) (v4 v5:dS):(ybk).X:=(((v0,()),((),()),((),()),((),()),(v1,()),(v2,()),()),((v3.1,v3.2.1,v3.2.2.1,v3.2.2.2,()),(v4.1,v4.2.1,v4.2.2.1,v4.2.2.2.1,v4.2.2.2.2.1,v4.2.2.2.2.2.1,v4.2.2.2.2.2.2.1,v4.2.2.2.2.2.2.2,()),(v5.1,v5.2.1,v5.2.2.1,v5.2.2.2.1,v5.2.2.2.2.1,v5.2.2.2.2.2.1,v5.2.2.2.2.2.2.1,v5.2.2.2.2.2.2.2,()),()),())
abbrev yIY (v0:Int) (v1:dM) (v2 v3:dS):(yeA).X:=(((v0,()),((),()),((),()),((),()),((),()),((),()),()),((v1.1,v1.2.1,v1.2.2.1,v1.2.2.2,()),(v2.1,v2.2.1,v2.2.2.1,v2.2.2.2.1,v2.2.2.2.2.1,v2.2.2.2.2.2.1,v2.2.2.2.2.2.2.1,v2.2.2.2.2.2.2.2,()),(v3.1,v3.2.1,v3.2.2.1,v3.2.2.2.1,v3.2.2.2.2.1,v3.2.2.2.2.2.1,v3.2.2.2.2.2.2.1,v3.2.2.2.2.2.2.2,()),()),())
abbrev yIT (v0:Bool) (v1 v2:dS):(yet).X:=((((),()),((),()),(v0,()),()),((v1.1,v1.2.1,v1.2.2.1,v1.2.2.2.1,v1.2.2.2.2.1,v1.2.2.2.2.2.1,v1.2.2.2.2.2.2.1,v1.2.2.2.2.2.2.2,()),(v2.1,v2.2.1,v2.2.2.1,v2.2.2.2.1,v2.2.2.2.2.1,v2.2.2.2.2.2.1,v2.2.2.2.2.2.2.1,v2.2.2.2.2.2.2.2,()),()),())
def ylF (v0:Int) (v1:Bool) (v2:Int) (v3:List (List Int)) (v4:List dW) (v5:Bool) (v6:List Int) (v7 v8 v9 v10 v11 v12 v13 v14 v15 v16 v17 v18 v19 v20 v21 v22:Int):Option ((ybk).X ⊕ ((yet).X ⊕ (yhW).X)) :=bif(ltb v2 2)then let r3:=ybW (v3,v4,v5,v6) v2;let r4:=yjh r3.1;bif r3.2 then bif r4.2 then bif(r4.1.1==v0)then bif((r4.1.2.1.tmod 2)==v2)then bif(!(!v1))then bif(ltb v16 r4.1.2.1)then some (.inl (((v0,()),((),()),((),()),((),()),(true,()),((i64.wrap (v2+1)),()),()),((v3,v4,v5,v6,()),(v7,v8,v9,v10,v11,v12,v13,v14,()),(r4.1.1,r4.1.2.1,r4.1.2.2.1,r4.1.2.2.2.1,r4.1.2.2.2.2.1,r4.1.2.2.2.2.2.1,r4.1.2.2.2.2.2.2.1,r4.1.2.2.2.2.2.2.2,()),()),())) else some (.inl (((v0,()),((),()),((),()),((),()),(v1,()),((i64.wrap (v2+1)),()),()),((v3,v4,v5,v6,()),(v7,v8,v9,v10,v11,v12,v13,v14,()),(v15,v16,v17,v18,v19,v20,v21,v22,()),()),())) else some (.inl (((v0,()),((),()),((),()),((),()),(true,()),((i64.wrap (v2+1)),()),()),((v3,v4,v5,v6,()),(v7,v8,v9,v10,v11,v12,v13,v14,()),(r4.1.1,r4.1.2.1,r4.1.2.2.1,r4.1.2.2.2.1,r4.1.2.2.2.2.1,r4.1.2.2.2.2.2.1,r4.1.2.2.2.2.2.2.1,r4.1.2.2.2.2.2.2.2,()),()),())) else some (.inl (((v0,()),((),()),((),()),((),()),(v1,()),((i64.wrap (v2+1)),()),()),((v3,v4,v5,v6,()),(v7,v8,v9,v10,v11,v12,v13,v14,()),(v15,v16,v17,v18,v19,v20,v21,v22,()),()),())) else some (.inl (((v0,()),((),()),((),()),((),()),(v1,()),((i64.wrap (v2+1)),()),()),((v3,v4,v5,v6,()),(v7,v8,v9,v10,v11,v12,v13,v14,()),(v15,v16,v17,v18,v19,v20,v21,v22,()),()),())) else some (.inl (((v0,()),((),()),((),()),((),()),(v1,()),((i64.wrap (v2+1)),()),()),((v3,v4,v5,v6,()),(v7,v8,v9,v10,v11,v12,v13,v14,()),(v15,v16,v17,v18,v19,v20,v21,v22,()),()),())) else some (.inl (((v0,()),((),()),((),()),((),()),(v1,()),((i64.wrap (v2+1)),()),()),((v3,v4,v5,v6,()),(v7,v8,v9,v10,v11,v12,v13,v14,()),(v15,v16,v17,v18,v19,v20,v21,v22,()),()),())) else some (.inr (.inl ((((),()),((),()),(v1,()),()),((v7,v8,v9,v10,v11,v12,v13,v14,()),(v15,v16,v17,v18,v19,v20,v21,v22,()),()),())))
def ybB (x:(ybk).X):=ylF x.1.1.1 x.1.2.2.2.2.1.1 x.1.2.2.2.2.2.1.1 x.2.1.1.1 x.2.1.1.2.1 x.2.1.1.2.2.1 x.2.1.1.2.2.2.1 x.2.1.2.1.1 x.2.1.2.1.2.1 x.2.1.2.1.2.2.1 x.2.1.2.1.2.2.2.1 x.2.1.2.1.2.2.2.2.1 x.2.1.2.1.2.2.2.2.2.1 x.2.1.2.1.2.2.2.2.2.2.1 x.2.1.2.1.2.2.2.2.2.2.2.1 x.2.1.2.2.1.1 x.2.1.2.2.1.2.1 x.2.1.2.2.1.2.2.1 x.2.1.2.2.1.2.2.2.1 x.2.1.2.2.1.2.2.2.2.1 x.2.1.2.2.1.2.2.2.2.2.1 x.2.1.2.2.1.2.2.2.2.2.2.1 x.2.1.2.2.1.2.2.2.2.2.2.2.1
def yuZ (x:(yeA).X):(ybk).X:=(((x.1.1.1,()),((),()),((),()),((),()),(false,()),(0,()),()),((x.2.1.1.1,x.2.1.1.2.1,x.2.1.1.2.2.1,x.2.1.1.2.2.2.1,()),(x.2.1.2.1.1,x.2.1.2.1.2.1,x.2.1.2.1.2.2.1,x.2.1.2.1.2.2.2.1,x.2.1.2.1.2.2.2.2.1,x.2.1.2.1.2.2.2.2.2.1,x.2.1.2.1.2.2.2.2.2.2.1,x.2.1.2.1.2.2.2.2.2.2.2.1,()),(x.2.1.2.2.1.1,x.2.1.2.2.1.2.1,x.2.1.2.2.1.2.2.1,x.2.1.2.2.1.2.2.2.1,x.2.1.2.2.1.2.2.2.2.1,x.2.1.2.2.1.2.2.2.2.2.1,x.2.1.2.2.1.2.2.2.2.2.2.1,x.2.1.2.2.1.2.2.2.2.2.2.2.1,()),()),())
def yv5:Code:=(zeJ yk3 64 116).getD .skip
theorem yJG:zeJ yk3 64 29=some (.block 0 (.loop yv5)):=by kernel_rfl
theorem yKp (x:(ybk).X):zhu ⟨yrW,60,yyB⟩ 0 yv5 116 ybk yet yhW x=ybB x:=by kernel_rfl
def yu8 (x:(yeA).X):Nat:=18446744073709551616
def ymm (x:(yeA).X):Option ((yet).X ⊕ (yhW).X):=zF ybB (yu8 x) (yuZ x)
def yvT:Seg:=⟨yeA,yet,yhW,ymm⟩
def yKx:Nat→Option Seg:=fun q=>bif Nat.beq q 29 then some yvT else yyB q
theorem yJS:FrOk prog ⟨yrW,60,yKx⟩ yk3:=(yJR).loop (sg:=yvT) ybk yuZ (by decide) yJG ybB yu8 (by decide) (fun _=>rfl) (fun x r _ h=>h) yKp
abbrev yk8:List Par:= [.rd tM,.rd tI]
abbrev yr9:List OT:= [⟨false,tS,(.pr .fz (.pr .fz (.pr .fz (.pr .fz (.pr .fz (.pr .fz (.pr .fz .fz)))))))⟩,⟨false,tB,.fz⟩]
def yox (a0:dM) (a1:Int):Option (zaY yr9×zak yk8) :=zkr (ymm (((a1,()),((),()),((),()),((),()),((),()),((),()),()),((a0.1,a0.2.1,a0.2.2.1,a0.2.2.2,()),(0,0,0,0,0,0,0,0,()),(0,0,0,0,0,0,0,0,()),()),())) (fun y4 =>some (((y4.2.1.2.1.1,y4.2.1.2.1.2.1,y4.2.1.2.1.2.2.1,y4.2.1.2.1.2.2.2.1,y4.2.1.2.1.2.2.2.2.1,y4.2.1.2.1.2.2.2.2.2.1,y4.2.1.2.1.2.2.2.2.2.2.1,y4.2.1.2.1.2.2.2.2.2.2.2.1),y4.1.2.2.1.1,()),())) (fun y4 =>none)
theorem yMg:ConOk prog 148 ⟨yk8,yr9,fun x=>yox x.1 x.2.1⟩:=zkG (yJS) func148 ntmps148.symm fun x=>by kernel_rfl
def yhF (a0:dM) (a1:Int):dS×Bool:=yas a0 a1
theorem yOH (a0:dM) (a1:Int) (hk:zjw yk8 (a0,a1,())):yox a0 a1=(fun n=>some ((n.1,n.2,()),())) (yhF a0 a1):=by
 have h1:=zkB (step:=ybB) 2 (fun i s=>ylr a1 s.2 i a0 yeV s.1) (fun(s:dS×Bool) (i:Nat)=>ylQ s (yq5 a0 a1 i) (yHk a0 i)) (fun _ _=>True) (fun s=> .inl (yIT s.2 yeV s.1)) (fun i s hi _=>⟨by
  simp only[ybB,ylr,ylF,zkw (show(i:Int)<2 by omega),cond_true,wq ((i:Int)+1) (by omega) (by omega),Int.natCast_add,Int.natCast_one,Int.toNat_natCast,zkV,ybW,yjh];unfold yq5 ylQ yHk
  cases(yQ a0 i).2<;>cases(yeT (yQ a0 i).1).2<;>cases((yeT (yQ a0 i).1).1.1==a1)<;>cases((yeT (yQ a0 i).1).1.2.1.tmod 2==(i:Int))<;>cases hf:s.2<;>cases ltb s.1.2.1 (yeT (yQ a0 i).1).1.2.1<;>simp only[Bool.not_true,Bool.not_false,cond_true,cond_false,Bool.and_true,Bool.true_and,Bool.false_and,Bool.and_false,Bool.or_true,Bool.true_or,Bool.false_or,Bool.or_false,hf],trivial⟩) (fun s _=>by simp only[ybB,ylr,ylF]; rfl) (yeV,false) trivial 18446744073709551616 (by omega)
 unfold yox yhF;rw[show ymm (yIY a1 a0 yeV yeV)=_ from h1]; rfl
def yyQ:Con:=⟨yk8,yr9,fun x=>(fun n=>some ((n.1,n.2,()),())) (yhF x.1 x.2.1)⟩
theorem yPb:ConOk prog 148 yyQ:=(yMg).mono (fun x r hk h=>(yOH x.1 x.2.1 hk).trans h)
def yTs:Code:=(f73.body).getD .skip
def yTV:Env:=zku TT [(127,yeQ),(148,yyQ)] []
theorem yLh:FrOk prog ⟨yTV,35,fun _=>none⟩ yTs:=zky yf yg ⟨yig,yPb,trivial⟩
abbrev ym8:List Par:= [.rd tM,.rd tI,.rd tI]
abbrev yuq:List OT:= [⟨false,tS,(.pr .fz (.pr .fz (.pr .fz (.pr .fz (.pr .fz (.pr .fz (.pr .fz .fz)))))))⟩,⟨false,tB,.fz⟩]
def yqJ (a0:dM) (a1 a2:Int):Option (zaY yuq×zak ym8) :=let r1:=yhF a0 a2;let r2:=yay a0;bif(!(!r2))then bif(!a0.2.2.1)then bif(!(!r1.2))then bif(r1.1.2.2.1 !=a1)then some (((0,0,0,0,0,0,0,0),false,()),()) else some ((r1.1,true,()),()) else some (((0,0,0,0,0,0,0,0),false,()),()) else some (((0,0,0,0,0,0,0,0),false,()),()) else some (((0,0,0,0,0,0,0,0),false,()),())
theorem yOZ:ConOk prog 73 ⟨ym8,yuq,fun x=>yqJ x.1 x.2.1 x.2.2.1⟩:=zkG (yLh) func73 ntmps73.symm fun x=>by kernel_rfl
def ydX (a0:dM) (a1 a2:Int):dS×Bool:=bif yh1 a0 a1 a2 then((yas a0 a2).1,true)else(yeV,false)
theorem yRZ (a0:dM) (a1 a2:Int) (hk:zjw ym8 (a0,a1,a2,())):yqJ a0 a1 a2=(fun n=>some ((n.1,n.2,()),())) (ydX a0 a1 a2):=by
 unfold yqJ ydX yh1;simp only[yhF,yay,bne];cases hb:(yas a0 a2).2
 ·cases yv a0<;>cases a0.2.2.1<;>rfl
 ·rw[y5m hb]
  cases a0.2.2.1<;>cases((yas a0 a2).1.2.2.1==a1)<;>rfl
def yBQ:Con:=⟨ym8,yuq,fun x=>(fun n=>some ((n.1,n.2,()),())) (ydX x.1 x.2.1 x.2.2.1)⟩
theorem ySP:ConOk prog 73 yBQ:=(yOZ).mono (fun x r hk h=>(yRZ x.1 x.2.1 x.2.2.1 hk).trans h)
def yeI:Code:=(f133.body).getD .skip
def yj6:Env:=zku TT [(158,yaM)] []
theorem yNO:FrOk prog ⟨yj6,49,fun _=>none⟩ yeI:=zky yf yg ⟨ybQ,trivial⟩
def yDb:Nat→Option Seg:=fun _=>none
def ycf:Shape:=⟨[(1,false,[.ptr 0 0]),(2,false,[.ptr 64 0]),(3,false,[.ptr 4480 0]),(15,false,[.br tL]),(16,false,[.int .i64]),(17,false,[.int .i64])],[(0,[.br tL,.br tW,.bool,.br tI]),(64,[.nil,.nil,.bool,.nil]),(4480,[.at 800000001,.nil,.bool,.at 800000000])],[(800000001,tL,(.ow .fz)),(800000000,tI,.fz)]⟩
def ygt:Shape:=⟨[(1,false,[.ptr 0 0]),(2,false,[.ptr 64 0]),(3,false,[.ptr 4480 0]),(15,false,[.br tL]),(16,false,[.int .i64]),(17,false,[.ci .i64 0])],[(0,[.br tL,.br tW,.bool,.br tI]),(64,[.nil,.nil,.bool,.nil]),(4480,[.at 800000001,.nil,.bool,.at 800000000])],[(800000001,tL,(.ow .fz)),(800000000,tI,.fz)]⟩
def ygf:Shape:=⟨[(1,false,[.ptr 0 0]),(2,false,[.ptr 64 0]),(3,false,[.ptr 4480 0])],[(0,[.br tL,.br tW,.bool,.br tI]),(64,[.nil,.nil,.bool,.nil]),(4480,[.at 800000000,.nil,.bool,.at 800000001])],[(800000000,tL,(.ow .fz)),(800000001,tI,.fz)]⟩
def yjT:Shape:=⟨[],[],[]⟩
abbrev yoh (v0:List (List Int)) (v1 v2:Int) (v3 v4 v5:dM):(ycf).X:=((((),()),((),()),((),()),(v0,()),(v1,()),(v2,()),()),((v3.1,v3.2.1,v3.2.2.1,v3.2.2.2,()),((),(),v4.2.2.1,(),()),((),(),v5.2.2.1,(),()),()),(v5.1,v5.2.2.2,()))
abbrev yLS (v0:List (List Int)) (v1:Int) (v2 v3 v4:dM):(ygt).X:=((((),()),((),()),((),()),(v0,()),(v1,()),((),()),()),((v2.1,v2.2.1,v2.2.2.1,v2.2.2.2,()),((),(),v3.2.2.1,(),()),((),(),v4.2.2.1,(),()),()),(v4.1,v4.2.2.2,()))
abbrev yzv (v0 v1 v2:dM):(ygf).X:=((((),()),((),()),((),()),()),((v0.1,v0.2.1,v0.2.2.1,v0.2.2.2,()),((),(),v1.2.2.1,(),()),((),(),v2.2.2.1,(),()),()),(v2.1,v2.2.2.2,()))
def yoG (v0:List (List Int)) (v1 v2:Int) (v3:List (List Int)) (v4:List dW) (v5:Bool) (v6:List Int) (v7 v8:Bool) (v9:List (List Int)) (v10:List Int):Option ((ycf).X ⊕ ((ygf).X ⊕ (yjT).X)) :=bif(ltb v2 v1)then bif(inb v2 v0.length)then let r4:=yx (nth v0 v2 []);bif(zkj v9.length ([r4]:List (List Int)).length 24)then some (.inl ((((),()),((),()),((),()),(v0,()),(v1,()),((i64.wrap (v2+1)),()),()),((v3,v4,v5,v6,()),((),(),v7,(),()),((),(),v8,(),()),()),((v9++([r4]:List (List Int))),v10,()))) else none else none else some (.inr (.inl ((((),()),((),()),((),()),()),((v3,v4,v5,v6,()),((),(),v7,(),()),((),(),v8,(),()),()),(v9,v10,()))))
def ycA (x:(ycf).X):=yoG x.1.2.2.2.1.1 x.1.2.2.2.2.1.1 x.1.2.2.2.2.2.1.1 x.2.1.1.1 x.2.1.1.2.1 x.2.1.1.2.2.1 x.2.1.1.2.2.2.1 x.2.1.2.1.2.2.1 x.2.1.2.2.1.2.2.1 x.2.2.1 x.2.2.2.1
def yy0 (x:(ygt).X):(ycf).X:=((((),()),((),()),((),()),(x.1.2.2.2.1.1,()),(x.1.2.2.2.2.1.1,()),(0,()),()),((x.2.1.1.1,x.2.1.1.2.1,x.2.1.1.2.2.1,x.2.1.1.2.2.2.1,()),((),(),x.2.1.2.1.2.2.1,(),()),((),(),x.2.1.2.2.1.2.2.1,(),()),()),(x.2.2.1,x.2.2.2.1,()))
def yBw:Code:=(zeJ yeI 64 116).getD .skip
theorem yNo:zeJ yeI 64 29=some (.block 0 (.loop yBw)):=by kernel_rfl
theorem yPj (x:(ycf).X):zhu ⟨yj6,49,yDb⟩ 0 yBw 116 ycf ygf yjT x=ycA x:=by kernel_rfl
def yzh (x:(ygt).X):Nat:=18446744073709551616
def ypX (x:(ygt).X):Option ((ygf).X ⊕ (yjT).X):=zF ycA (yzh x) (yy0 x)
def yzL:Seg:=⟨ygt,ygf,yjT,ypX⟩
def yrU:Nat→Option Seg:=fun q=>bif Nat.beq q 29 then some yzL else yDb q
theorem yNP:FrOk prog ⟨yj6,49,yrU⟩ yeI:=(yNO).loop (sg:=yzL) ycf yy0 (by decide) yNo ycA yzh (by decide) (fun _=>rfl) (fun x r _ h=>h) yPj
def ycg:Shape:=⟨[(2,false,[.ptr 64 0]),(3,false,[.ptr 4480 0]),(30,false,[.br tW]),(31,false,[.int .i64]),(32,false,[.int .i64])],[(64,[.nil,.nil,.bool,.nil]),(4480,[.at 800000000,.at 800000002,.bool,.at 800000001])],[(800000000,tL,(.ow .fz)),(800000002,tW,(.pr .fz (.ow .fz))),(800000001,tI,.fz)]⟩
def ygu:Shape:=⟨[(2,false,[.ptr 64 0]),(3,false,[.ptr 4480 0]),(30,false,[.br tW]),(31,false,[.int .i64]),(32,false,[.ci .i64 0])],[(64,[.nil,.nil,.bool,.nil]),(4480,[.at 800000000,.at 800000002,.bool,.at 800000001])],[(800000000,tL,(.ow .fz)),(800000002,tW,(.pr .fz (.ow .fz))),(800000001,tI,.fz)]⟩
def ygg:Shape:=⟨[(2,false,[.ptr 64 0]),(3,false,[.ptr 4480 0])],[(64,[.nil,.nil,.bool,.nil]),(4480,[.at 800000000,.at 800000001,.bool,.at 800000002])],[(800000000,tL,(.ow .fz)),(800000001,tW,(.pr .fz (.ow .fz))),(800000002,tI,.fz)]⟩
def yjU:Shape:=⟨[],[],[]⟩
abbrev yoi (v0:List dW) (v1 v2:Int) (v3 v4:dM):(ycg).X:=((((),()),((),()),(v0,()),(v1,()),(v2,()),()),(((),(),v3.2.2.1,(),()),((),(),v4.2.2.1,(),()),()),(v4.1,v4.2.1,v4.2.2.2,()))
abbrev yLT (v0:List dW) (v1:Int) (v2 v3:dM):(ygu).X:=((((),()),((),()),(v0,()),(v1,()),((),()),()),(((),(),v2.2.2.1,(),()),((),(),v3.2.2.1,(),()),()),(v3.1,v3.2.1,v3.2.2.2,()))
abbrev yzw (v0 v1:dM):(ygg).X:=((((),()),((),()),()),(((),(),v0.2.2.1,(),()),((),(),v1.2.2.1,(),()),()),(v1.1,v1.2.1,v1.2.2.2,()))
def yoH (v0:List dW) (v1 v2:Int) (v3 v4:Bool) (v5:List (List Int)) (v6:List dW) (v7:List Int):Option ((ycg).X ⊕ ((ygg).X ⊕ (yjU).X)) :=bif(ltb v2 v1)then bif(inb v2 v0.length)then let r8:=yx ((nth v0 v2 (0,[])).2);bif(zkj v6.length ([((nth v0 v2 (0,[])).1,r8)]:List dW).length 32)then some (.inl ((((),()),((),()),(v0,()),(v1,()),((i64.wrap (v2+1)),()),()),(((),(),v3,(),()),((),(),v4,(),()),()),(v5,(v6++([((nth v0 v2 (0,[])).1,r8)]:List dW)),v7,()))) else none else none else some (.inr (.inl ((((),()),((),()),()),(((),(),v3,(),()),((),(),v4,(),()),()),(v5,v6,v7,()))))
def ycB (x:(ycg).X):=yoH x.1.2.2.1.1 x.1.2.2.2.1.1 x.1.2.2.2.2.1.1 x.2.1.1.2.2.1 x.2.1.2.1.2.2.1 x.2.2.1 x.2.2.2.1 x.2.2.2.2.1
def yy1 (x:(ygu).X):(ycg).X:=((((),()),((),()),(x.1.2.2.1.1,()),(x.1.2.2.2.1.1,()),(0,()),()),(((),(),x.2.1.1.2.2.1,(),()),((),(),x.2.1.2.1.2.2.1,(),()),()),(x.2.2.1,x.2.2.2.1,x.2.2.2.2.1,()))
def yBx:Code:=(zeJ yeI 64 244).getD .skip
theorem yNp:zeJ yeI 64 61=some (.block 2 (.loop yBx)):=by kernel_rfl
theorem yPk (x:(ycg).X):zhu ⟨yj6,49,yrU⟩ 2 yBx 244 ycg ygg yjU x=ycB x:=by kernel_rfl
def yzi (x:(ygu).X):Nat:=18446744073709551616
def ypY (x:(ygu).X):Option ((ygg).X ⊕ (yjU).X):=zF ycB (yzi x) (yy1 x)
def yzM:Seg:=⟨ygu,ygg,yjU,ypY⟩
def yPT:Nat→Option Seg:=fun q=>bif Nat.beq q 61 then some yzM else yrU q
theorem yNQ:FrOk prog ⟨yj6,49,yPT⟩ yeI:=(yNP).loop (sg:=yzM) ycg yy1 (by decide) yNp ycB yzi (by decide) (fun _=>rfl) (fun x r _ h=>h) yPk
abbrev ypb:List Par:= [.rd tM]
abbrev yxq:List OT:= [⟨false,tM,(.pr (.ow (.ow .fz)) (.pr (.ow (.pr .fz (.ow .fz))) (.pr .fz (.ow .fz))))⟩]
def ysG (a0:dM):Option (zaY yxq×zak ypb) :=let r1:=yx a0.2.2.2;zkr (ypX ((((),()),((),()),((),()),(a0.1,()),((a0.1.length:Int),()),((),()),()),((a0.1,a0.2.1,a0.2.2.1,a0.2.2.2,()),((),(),false,(),()),((),(),a0.2.2.1,(),()),()),([],r1,()))) (fun y4 =>zkr (ypY ((((),()),((),()),(y4.2.1.1.2.1,()),((y4.2.1.1.2.1.length:Int),()),((),()),()),(((),(),y4.2.1.2.1.2.2.1,(),()),((),(),y4.2.1.2.2.1.2.2.1,(),()),()),(y4.2.2.1,[],y4.2.2.2.1,()))) (fun y8 =>some (((y8.2.2.1,y8.2.2.2.1,y8.2.1.2.1.2.2.1,y8.2.2.2.2.1),()),())) (fun y8 =>none)) (fun y4 =>none)
theorem ySj:ConOk prog 133 ⟨ypb,yxq,fun x=>ysG x.1⟩:=zkG (yNQ) func133 ntmps133.symm fun x=>by kernel_rfl
def yat (a0:dM):dM:=a0
theorem yVq (a0:dM) (hk:zjw ypb (a0,())):ysG a0=(fun n=>some ((n,()),())) (yat a0):=by
 have hb1:a0.1.length*24≤2^47:=hk.1.1.1;have hb2:a0.2.1.length*32≤2^47:=hk.1.2.1.1
 have h1:ypX (yLS a0.1 a0.1.length a0 yc ([],[],a0.2.2.1,a0.2.2.2))=some (.inl (yzv a0 yc (a0.1,[],a0.2.2.1,a0.2.2.2))):=by
  have:=zkv (step:=ycA) a0.1 [] (fun i s=>yoh a0.1 a0.1.length i a0 yc (s,[],a0.2.2.1,a0.2.2.2)) (fun s x=>s++ [x]) (fun i s=>s.length=i) (fun s=> .inl (yzv a0 yc (s,[],a0.2.2.1,a0.2.2.2))) (fun i s hi hs2=>⟨by
   simp only[ycA,yoh,yoG,zkw (show(i:Int)<a0.1.length by omega),cond_true,wq ((i:Int)+1) (by omega) (by omega),Int.natCast_add,Int.natCast_one,Int.toNat_natCast,zkP hi,zkQ,yx]
   rw[zkD.2 (show(s.length+ [a0.1.getD i []].length)*24≤140737488355328 by simp only[List.length_cons,List.length_nil]; omega)]; rfl,by simp[hs2]⟩) (fun s _=>by simp only[ycA,yoh,yoG,zk1 (Int.le_refl _),cond_false]) [] rfl 18446744073709551616 (by omega)
  rw[yxQ]at this;exact this
 have h2:ypY (yLT a0.2.1 a0.2.1.length yc (a0.1,[],a0.2.2.1,a0.2.2.2))=some (.inl (yzw yc a0)):=by
  have:=zkv (step:=ycB) a0.2.1 (0,[]) (fun i s=>yoi a0.2.1 a0.2.1.length i yc (a0.1,s,a0.2.2.1,a0.2.2.2)) (fun s x=>s++ [x]) (fun i s=>s.length=i) (fun s=> .inl (yzw yc (a0.1,s,a0.2.2.1,a0.2.2.2))) (fun i s hi hs2=>⟨by
   simp only[ycB,yoi,yoH,zkw (show(i:Int)<a0.2.1.length by omega),cond_true,wq ((i:Int)+1) (by omega) (by omega),Int.natCast_add,Int.natCast_one,Int.toNat_natCast,zkP hi,zkQ,yx,zkV]
   rw[zkD.2 (show(s.length+ [a0.2.1.getD i (0,[])].length)*32≤140737488355328 by simp only[List.length_cons,List.length_nil]; omega)]; rfl,by simp[hs2]⟩) (fun s _=>by simp only[ycB,yoi,yoH,zk1 (Int.le_refl _),cond_false]) [] rfl 18446744073709551616 (by omega)
  rw[yxQ]at this;exact this
 unfold ysG yat;simp only[yx,h1,zkL,h2]
def yeR:Con:=⟨ypb,yxq,fun x=>(fun n=>some ((n,()),())) (yat x.1)⟩
theorem yjt:ConOk prog 133 yeR:=(ySj).mono (fun x r hk h=>(yVq x.1 hk).trans h)
def ymS:Code:=(f74.body).getD .skip
def ytD:Env:=zku TT [(133,yeR)] []
theorem yLb:FrOk prog ⟨ytD,20,fun _=>none⟩ ymS:=zky yf yg ⟨yjt,trivial⟩
def yBl:Nat→Option Seg:=fun _=>none
def ybL:Shape:=⟨[(3,false,[.at 800000000]),(7,false,[.br tM]),(8,false,[.int .i64]),(9,false,[.int .i64])],[],[(800000000,tM,(.pr (.ow (.ow .fz)) (.pr (.ow (.pr .fz (.ow .fz))) (.pr .fz (.ow .fz)))))]⟩
def yfp:Shape:=⟨[(3,false,[.at 800000000]),(7,false,[.br tM]),(8,false,[.int .i64]),(9,false,[.ci .i64 0])],[],[(800000000,tM,(.pr (.ow (.ow .fz)) (.pr (.ow (.pr .fz (.ow .fz))) (.pr .fz (.ow .fz)))))]⟩
def yfg:Shape:=⟨[(3,false,[.at 800000000])],[],[(800000000,tM,(.pr (.ow (.ow .fz)) (.pr (.ow (.pr .fz (.ow .fz))) (.pr .fz (.ow .fz)))))]⟩
def yi1:Shape:=⟨[],[],[]⟩
abbrev ymx (v0:List dM) (v1 v2:Int) (v3:List dM):(ybL).X:=((((),()),(v0,()),(v1,()),(v2,()),()),(),(v3,()))
abbrev yJ4 (v0:List dM) (v1:Int) (v2:List dM):(yfp).X:=((((),()),(v0,()),(v1,()),((),()),()),(),(v2,()))
abbrev yJW (v0:List dM):(yfg).X:=((((),()),()),(),(v0,()))
def ymM (v0:List dM) (v1 v2:Int) (v3:List dM):Option ((ybL).X ⊕ ((yfg).X ⊕ (yi1).X)) :=bif(ltb v2 v1)then bif(inb v2 v0.length)then let r2:=yat ((nth v0 v2 ([],[],false,[])).1,((nth v0 v2 ([],[],false,[])).2).1,(((nth v0 v2 ([],[],false,[])).2).2));bif(zkj v3.length ([r2]:List dM).length 80)then some (.inl ((((),()),(v0,()),(v1,()),((i64.wrap (v2+1)),()),()),(),((v3++([r2]:List dM)),()))) else none else none else some (.inr (.inl ((((),()),()),(),(v3,()))))
def yb4 (x:(ybL).X):=ymM x.1.2.1.1 x.1.2.2.1.1 x.1.2.2.2.1.1 x.2.2.1
def ywi (x:(yfp).X):(ybL).X:=((((),()),(x.1.2.1.1,()),(x.1.2.2.1.1,()),(0,()),()),(),(x.2.2.1,()))
def yyK:Code:=(zeJ ymS 64 116).getD .skip
theorem yKI:zeJ ymS 64 29=some (.block 0 (.loop yyK)):=by kernel_rfl
theorem yMx (x:(ybL).X):zhu ⟨ytD,20,yBl⟩ 0 yyK 116 ybL yfg yi1 x=yb4 x:=by kernel_rfl
def ywr (x:(yfp).X):Nat:=18446744073709551616
def ynP (x:(yfp).X):Option ((yfg).X ⊕ (yi1).X):=zF yb4 (ywr x) (ywi x)
def ywH:Seg:=⟨yfp,yfg,yi1,ynP⟩
def yM9:Nat→Option Seg:=fun q=>bif Nat.beq q 29 then some ywH else yBl q
theorem yLc:FrOk prog ⟨ytD,20,yM9⟩ ymS:=(yLb).loop (sg:=ywH) ybL ywi (by decide) yKI yb4 ywr (by decide) (fun _=>rfl) (fun x r _ h=>h) yMx
abbrev ym6:List Par:= [.rd tMs]
abbrev yum:List OT:= [⟨false,tMs,(.ow (.pr (.ow (.ow .fz)) (.pr (.ow (.pr .fz (.ow .fz))) (.pr .fz (.ow .fz)))))⟩]
def yqH (a0:List dM):Option (zaY yum×zak ym6) :=zkr (ynP ((((),()),(a0,()),((a0.length:Int),()),((),()),()),(),(([]:List dM),()))) (fun y2 =>some ((y2.2.2.1,()),())) (fun y2 =>none)
theorem yOV:ConOk prog 74 ⟨ym6,yum,fun x=>yqH x.1⟩:=zkG (yLc) func74 ntmps74.symm fun x=>by kernel_rfl
def yfM (a0:List dM):List dM:=a0
theorem yRV (a0:List dM) (hk:zjw ym6 (a0,())):yqH a0=(fun n=>some ((n,()),())) (yfM a0):=by
 have hb:a0.length*80≤2^47:=hk.1.1
 have h1:=zkv (step:=yb4) a0 yc (fun i s=>ymx a0 a0.length i s) (fun s x=>s++ [x]) (fun i s=>s.length=i) (fun s=> .inl (yJW s)) (fun i s hi hs=>⟨by
   simp only[yb4,ymx,ymM,zkw (show(i:Int)<a0.length by omega),cond_true,wq ((i:Int)+1) (by omega) (by omega),Int.natCast_add,Int.natCast_one,Int.toNat_natCast,zkP hi,zkQ,yat,zkV]
   rw[zkD.2 (show(s.length+ [a0.getD i ([],[],false,[])].length)*80≤140737488355328 by simp only[List.length_cons,List.length_nil]; omega)]; rfl,by simp[hs]⟩) (fun s hs=>by simp only[yb4,ymx,ymM,zk1 (Int.le_refl _),cond_false]) [] rfl 18446744073709551616 (by omega)
 rw[yxQ]at h1;unfold yqH yfM;rw[show ynP (yJ4 a0 a0.length [])=_ from h1]; rfl
def yqe:Con:=⟨ym6,yum,fun x=>(fun n=>some ((n,()),())) (yfM x.1)⟩
theorem yFa:ConOk prog 74 yqe:=(yOV).mono (fun x r hk h=>(yRV x.1 hk).trans h)
end
end Go.Tf
