/- Functions of the program, and what they come to. -/
import Derived.Test.YtolmneojjjpnjaaGreatFailsBentTt
namespace Go.Tf
noncomputable section
open Go.Proofs Go.Proofs.Tryz IntKind
set_option synthInstance.maxHeartbeats 400000
set_option synthInstance.maxSize 10000
set_option linter.unusedVariables false
set_option linter.unusedSimpArgs false
set_option maxRecDepth 100000
def ySO:Code:=(f14.body).getD .skip
def ySP:Env:=zkw TT [] []
theorem yQN:FrOk prog ⟨ySP,6,fun _=>none⟩ ySO:=zkA mixed yd trivial
abbrev yBB:List Par:= [.rd tYs]
abbrev yBC:List OT:= [⟨false,tB,.fz⟩]
def yEz (a0:List Int):Option (zaY yBC×zak yBB) :=some (((ltb 1048576 (a0.length:Int)),()),())
theorem yR6:ConOk prog 14 ⟨yBB,yBC,fun x=>yEz x.1⟩:=zkI (yQN) func14 ntmps14.symm fun x=>by kernel_rfl
def ywD (a0:List Int):Bool :=(ltb 1048576 (a0.length:Int))
def yDa:Con:=⟨yBB,yBC,fun x=>(fun n=>some ((n,()),())) (ywD x.1)⟩
theorem ySv (a0:List Int):yEz a0=(fun n=>some ((n,()),())) (ywD a0):=zkV (p:=fun(n:Bool)=>((n,()),())) rfl
theorem ySw:ConOk prog 14 yDa:=(yR6).mono (fun x r _ h=>(ySv x.1).trans h)
def yM {α:Type} (p:α→Bool) (l:List α):Int:=bif l.any p then((l.takeWhile (fun x=> !p x)).length:Int)else -1
theorem yPQ {α:Type} (p:α→Bool):yM p []= -1:=rfl
theorem ywC {α:Type} (p:α→Bool) (x:α) (l:List α):yM p (x::l)=bif p x then 0 else bif leb 0 (yM p l)then yM p l+1 else -1:=by
 unfold yM;rw[List.any_cons,List.takeWhile_cons];cases p x
 ·cases l.any p
  ·rfl
  ·simp only[Bool.false_or,Bool.not_false,if_true,cond_true,cond_false,List.length_cons]
   rw[zk2 (show(0:Int)≤((l.takeWhile (fun x=> !p x)).length:Int)by omega),cond_true]; omega
 ·simp
theorem yso {α:Type} {p:α→Bool} {d:α}: ∀{l:List α},leb 0 (yM p l)=true→inb (yM p l) l.length=true∧p (nth l (yM p l) d)=true
 | [],h=>by rw[yPQ]at h; cases h
 | x::l,h=>by
  rw[ywC]at h ⊢;cases hx:p x
  ·rw[hx]at h
   cases hl:leb 0 (yM p l)
   ·rw[hl]at h; cases h
   ·obtain⟨h1,h2⟩:=yso (d:=d) hl
    have h3:=zj6.1 h1;have h4:=zj7.1 hl;simp only[cond_false,cond_true,List.length_cons];refine⟨zj6.2 (by omega),?_⟩;unfold nth at h2 ⊢;rw[show(yM p l+1).toNat=(yM p l).toNat+1 by omega,List.getD_cons_succ];exact h2
  ·simp only[cond_true,List.length_cons]
   refine⟨zj6.2 (by omega),?_⟩;exact hx
theorem yPS {A B α:Type} {step:A→Option (A ⊕ B)} (l:List α) (d:α) (f:Nat→A) (p:α→Bool) (b:Int→B) (c:B)
  (h: ∀i,i<l.length→step (f i)=some (bif p (l.getD i d)then .inr (b i)else .inl (f (i+1)))) (e:step (f l.length)=some (.inr c)) (fuel:Nat) (hf:l.length<fuel) :
  zF step fuel (f 0)=some (bif leb 0 (yM p l)then b (yM p l)else c):=by
 have: ∀(t q:List α) (fuel:Nat),q++t=l→t.length<fuel→zF step fuel (f q.length)=some (bif leb 0 (yM p t)then b (q.length+yM p t)else c):=by
  intro t
  induction t with
  | nil =>
   intro q fuel hq hf;obtain⟨fuel,rfl⟩: ∃m,fuel=m+1:=⟨fuel-1,by omega⟩;rw[List.append_nil]at hq;subst hq;simp only[zF,e]; rfl
  | cons x t ih =>
   intro q fuel hq hf;obtain⟨fuel,rfl⟩: ∃m,fuel=m+1:=⟨fuel-1,by omega⟩
   have hx:l.getD q.length d=x:=by
    subst hq;rw[zkJ (by simp)]; simp
   have hs:=h q.length (by rw[← hq]; simp);rw[hx]at hs;rw[ywC];cases hp:p x
   ·rw[hp]at hs
    have:=ih (q++ [x]) fuel (by rw[← hq]; simp) (by simp at hf; omega);simp only[List.length_append,List.length_cons,List.length_nil]at this;simp only[zF,hs,cond_false];rw[show q.length+1=q.length+(0+1)by omega,this];cases hl:leb 0 (yM p t)
    ·rfl
    ·have:=zj7.1 hl
     rw[cond_true,cond_true,zk2 (show 0≤yM p t+1 by omega),cond_true];congr 2; omega
   ·rw[hp]at hs
    simp only[zF,hs,cond_true];rw[zk2 (Int.le_refl 0),cond_true,Int.add_zero]
 have:=this l [] fuel rfl hf;simpa using this
theorem yBH {α β:Type} (f:α→β): ∀(l:List α) (s:List β),l.foldl (fun s i=>s++ [f i]) s=s++l.map f
 | [],s=>by simp
 | x::l,s=>by rw[List.foldl_cons,yBH f l]; simp
theorem ynY {α:Type} (l:List α):l.foldl (fun s i=>s++ [i]) []=l:=by
 have:=yBH id l [];simpa using this
theorem yTz {α:Type} (l:List α) (d:α) {i:Nat} (h:i<l.length):l.take i++ [nth l i d]=l.take (i+1):=by rw[zkS,zkJ h,List.take_append_getElem h]
def ybI (e:dW) (s:Bool×List dW) (x:dW):Bool×List dW:=(s.1||leb e.1 x.1,(bif !s.1&&leb e.1 x.1 then s.2++ [e]else s.2)++(bif x.1 !=e.1 then[x]else[]))
def yEp (l:List dW) (e:dW):List dW:=bif(l.foldl (ybI e) (false,[])).1 then(l.foldl (ybI e) (false,[])).2 else(l.foldl (ybI e) (false,[])).2++ [e]
def yB0 (a:dA) (l:List dW):dA:=(a.1,a.2.1,a.2.2.1,a.2.2.2.1,a.2.2.2.2.1,a.2.2.2.2.2.1,a.2.2.2.2.2.2.1,a.2.2.2.2.2.2.2.1,l,a.2.2.2.2.2.2.2.2.2)
abbrev yc:dM:=([],[],false,[])
def isW (x:Int):Bool:=leb 0 x&&leb x 65535
def yO (s:List Int):Bool:=leb (s.length:Int) 12&&s.all isW
theorem yOo {x:Int}:isW x=true↔0≤x∧x≤65535:=by simp[isW,zj7]
theorem yTv {s:List Int}:yO s=true↔s.length≤12∧ ∀x∈s,0≤x∧x≤65535:=by
 simp only[yO,Bool.and_eq_true,zj7,List.all_eq_true,yOo];constructor
 ·rintro⟨h1,h2⟩; exact⟨by omega,h2⟩
 ·rintro⟨h1,h2⟩; exact⟨by omega,h2⟩
theorem ySD: ∀{l:List Int},l.Pairwise (· < ·)↔ ∀i,i+1<l.length→l.getD i 0<l.getD (i+1) 0
 | []=>by simp
 | [x]=>by simp
 | x::y::l=>by
  have ih:=ySD (l:=y::l);constructor
  ·intro h i hi
   cases h with
   | cons h1 h2 =>
    cases i with
    | zero=>exact h1 y List.mem_cons_self
    | succ i=>exact ih.1 h2 i (by simpa using hi)
  ·intro h
   have h2:(y::l).Pairwise (· < ·):=ih.2 fun i hi=>h (i+1) (by simpa using hi)
   refine .cons (fun z hz=> ?_) h2;have h3:x<y:=h 0 (by simp);rcases List.mem_cons.1 hz with rfl | hz
   ·exact h3
   ·cases h2 with
    | cons h4 _=>exact Int.lt_trans h3 (h4 z hz)
def ylJ (n:Nat) (l:List Int):Bool:=l.all (fun x=>inb x n)&&decide (l.Pairwise (· < ·))
def yqP (n:Nat) (w:dW):Bool:=inb w.1 n&&yO w.2
def yq (m:dM):Bool:=m.1.all yO&&m.2.1.all (yqP m.1.length)&&ylJ m.1.length m.2.2.2&&leb 1 (m.1.length:Int)&&leb (m.1.length:Int) 20&&leb (m.2.1.length:Int) 60
def yzt (n:Nat) (l:List Int) (i:Nat):Bool:= !(inb (l.getD i 0) n)||(decide (0<i)&&leb (l.getD i 0) (l.getD (i-1) 0))
theorem yPF (n:Nat) (l:List Int):(List.range l.length).any (yzt n l)= !(ylJ n l):=by
 rw[Bool.eq_iff_iff,List.any_eq_true,Bool.not_eq_true',ylJ,Bool.and_eq_false_iff,decide_eq_false_iff_not,ySD,List.all_eq_false];simp only[List.mem_range,yzt,Bool.or_eq_true,Bool.not_eq_true',Bool.and_eq_true,decide_eq_true_eq,zj7];constructor
 ·rintro⟨i,hi,h | ⟨h1,h2⟩⟩
  ·exact .inl ⟨l[i],List.getElem_mem hi,by rw[zkJ hi]at h; simp[h]⟩
  ·refine .inr fun h3=> ?_
   have:=h3 (i-1) (by omega);rw[show i-1+1=i by omega]at this;omega
 ·rintro(⟨x,hx,h⟩ | h)
  ·obtain⟨i,hi,rfl⟩:=List.getElem_of_mem hx
   exact⟨i,hi,.inl (by rw[zkJ hi]; simpa using h)⟩
  ·refine Classical.byContradiction fun hc=>h fun i hi=> ?_
   refine Classical.byContradiction fun h4=>hc ⟨i+1,hi,.inr ⟨by omega,?_⟩⟩
   rw[Nat.add_sub_cancel]; omega
def yEc (n:Int) (c:List dW) (s:List Int):List Int:=c.foldl (fun s w=>bif w.1==n then w.2 else s) s
def yEE (m:dM) (n:Int):Bool:=yq m&&(!m.2.2.1&&(inb n m.1.length&& !(m.2.2.2.any (· ==n))))
def ysQ (m:dM) (n:Int):List Int×Bool:=bif yEE m n then(yEc n m.2.1 (nth m.1 n []),true)else([],false)
theorem yBT {P:List Int→Prop} {n:Int}: ∀{c:List dW} {s:List Int},P s→(∀w∈c,P w.2)→P (yEc n c s)
 | [],_,h,_=>h
 | w::c,s,h,hc=>yBT (c:=c) (zkQ (hc w List.mem_cons_self) h) (fun x hx=>hc x (List.mem_cons_of_mem _ hx))
theorem ylX {α:Type} {P:α→Prop} {l:List α} {i:Int} {d:α} (h:inb i l.length=true) (hl: ∀x∈l,P x):P (nth l i d):=by
 obtain⟨h1,h2⟩:=zj6.1 h;unfold nth;rw[zkJ (show i.toNat<l.length by omega)];exact hl _ (List.getElem_mem _)
theorem yOn {α:Type} {p:α→Bool} {l:List α} (h:leb 0 (yM p l)=false):yM p l= -1:=by
 unfold yM at h ⊢;cases ha:l.any p
 ·rfl
 ·rw[ha,cond_true,zk2 (show(0:Int)≤((l.takeWhile (fun x=> !p x)).length:Int)by omega)]at h; cases h
theorem yPR {α:Type} {p:α→Bool}: ∀{l:List α},leb 0 (yM p l)=true→(l.take ((yM p l).toNat+1)).filter (fun x=> !p x)=l.take (yM p l).toNat
 | [],h=>by rw[yPQ]at h; cases h
 | x::l,h=>by
  rw[ywC]at h ⊢;cases hx:p x
  ·rw[hx]at h
   cases hl:leb 0 (yM p l)
   ·rw[hl]at h; cases h
   ·have h4:=zj7.1 hl
    simp only[cond_false,cond_true];rw[show(yM p l+1).toNat=(yM p l).toNat+1 by omega,List.take_succ_cons,List.take_succ_cons,List.filter_cons,hx,yPR hl]; rfl
  ·simp only[cond_true]
   show List.filter (fun x=> !p x) [x]= [];rw[List.filter_cons,hx]; rfl
theorem yTP {α:Type} {p:α→Bool} {l:List α} (h:leb 0 (yM p l)=false):l.filter (fun x=> !p x)=l:=by
 rw[List.filter_eq_self];intro x hx;unfold yM at h;cases ha:l.any p
 ·have:=List.any_eq_false.1 ha x hx
  simpa using this
 ·rw[ha,cond_true,zk2 (show(0:Int)≤((l.takeWhile (fun x=> !p x)).length:Int)by omega)]at h; cases h
def yfG (a:dA):dA:=(a.1,a.2.1,a.2.2.1,a.2.2.2.1,a.2.2.2.2.1,i64.wrap (a.2.2.2.2.2.1+1),a.2.2.2.2.2.2)
def ybG (s:Int):Int:=bif leb 0 s&&leb s 1099511627776 then s+6 else -1
def yhJ (a:dA) (m s:Int):Bool:=inb m a.2.2.1.length&&(!(nth a.2.2.1 m yc).2.2.1&&(m !=a.2.2.2.1||ltb s a.2.2.2.2.1))
def yl1 (a:dA) (m s:Int):List Int×Bool:=ysQ (nth a.2.2.1 m yc) (ybG s)
def yA (a:dA) (m s:Int):Bool:=yhJ a m s&&((yl1 a m s).2&&((yl1 a m s).1.length:Int)==1)
def yB5 (a:dA) (m s:Int):Int:=bif yA a m s then nth (yl1 a m s).1 0 0 else 0
def xw (a b:Int):Int:=i64.wrap ((BitVec.ofInt IntKind.i64.bits a ^^^ BitVec.ofInt IntKind.i64.bits b).toNat:Int)
def yqQ (l:List Int):Int:=l.foldl xw 0
def bv (x:Int):BitVec 64:=BitVec.ofInt 64 x
theorem yRq (a b:Int):xw a b=(bv a ^^^ bv b).toInt:=by
 show i64.wrap ((bv a ^^^ bv b).toNat:Int)=_;rw[IntKind.wrap_i64,BitVec.toInt_eq_toNat_cond];have:=(bv a ^^^ bv b).isLt;split<;>omega
theorem yBD (v:BitVec 64):bv v.toInt=v:=by unfold bv; simp
def yJ5 (l:List Int):BitVec 64:=l.foldl (fun v x=>v ^^^ bv x) 0#64
theorem yJ4 (l:List Int):yqQ l=(yJ5 l).toInt:=by
 have: ∀(l:List Int) (v:BitVec 64),l.foldl xw v.toInt=(l.foldl (fun v x=>v ^^^ bv x) v).toInt:=by
  intro l
  induction l with
  | nil=>intro _; rfl
  | cons x l ih =>
   intro v;rw[List.foldl_cons,List.foldl_cons,yRq,yBD,ih]
 have h:=this l 0#64;rwa[show(0#64:BitVec 64).toInt=0 from by decide]at h
theorem yTI (l:List Int) (x:Int):yJ5 (l++ [x])=yJ5 l ^^^ bv x:=by unfold yJ5; rw[List.foldl_append]; rfl
theorem yT6 {i:Int} {n:Nat} (h: ¬(0≤i∧i<(n:Int))):inb i n=false:=by
 cases e:inb i n
 ·rfl
 ·exact absurd (zj6.1 e) h
def ysr (l:List Int) (k:Int):Int:=bif inb k l.length then xw (yqQ l) (nth l k 0)else yqQ l
theorem yTJ (u v:BitVec 64):u ^^^ v ^^^ v=u:=by rw[BitVec.xor_assoc,BitVec.xor_self,BitVec.xor_zero]
theorem yTo (l:List Int) (k:Int):(List.range l.length).foldl (fun n (i:Nat)=>bif(i:Int) !=k then xw n (nth l i 0)else n) 0=ysr l k:=by
 have: ∀n,n≤l.length→(List.range n).foldl (fun n (i:Nat)=>bif(i:Int) !=k then xw n (nth l i 0)else n) 0=(bif inb k n then yJ5 (l.take n) ^^^ bv (nth l k 0)else yJ5 (l.take n)).toInt:=by
  intro n
  induction n with
  | zero =>
   intro _;rw[yT6 (show ¬(0≤k∧k<((0:Nat):Int))by omega)];rfl
  | succ n ih =>
   intro hn;rw[List.range_succ,List.foldl_append,List.foldl_cons,List.foldl_nil,ih (by omega),← yTz l 0 (show n<l.length by omega),yTI];by_cases hk:(n:Int)=k
   ·subst hk
    rw[show((n:Int) !=n)=false by simp,cond_false,yT6 (show ¬(0≤(n:Int)∧(n:Int)<(n:Int))by omega),show inb (n:Int) (n+1)=true from zkR (Nat.lt_succ_self n),cond_false,cond_true,yTJ]
   ·rw[show((n:Int) !=k)=true from bne_iff_ne.2 hk,cond_true,show inb k (n+1)=inb k n by rw[Bool.eq_iff_iff,zj6,zj6]; omega,yRq,yBD]
    cases inb k n
    ·rfl
    ·rw[cond_true,cond_true,BitVec.xor_assoc,BitVec.xor_comm (bv (nth l k 0)),← BitVec.xor_assoc]
 rw[this l.length (Nat.le_refl _),List.take_length];unfold ysr;rw[yRq,yJ4,yBD];cases inb k l.length<;>rfl
theorem yTn {l:List Int} {k:Int} (h:inb k l.length=true) (h0:nth l k 0=0):ysr l k=yqQ l:=by
 unfold ysr;rw[h,h0,cond_true,yRq,yJ4,yBD,show bv 0=0#64 by decide,BitVec.xor_zero]
abbrev ycX:dA:=(0,(0,0),[],0,0,0,0,0,[],0,false,false)
def yqe (b:Nat→Bool) (c:List dW) (l:List (List Int)) (i:Nat):List (List Int):=bif b i then l.set (nth c i (0,[])).1.toNat (nth c i (0,[])).2 else l
def yhI (b:Nat→Bool) (c:List dW) (l:List (List Int)):List (List Int):=(List.range c.length).foldl (yqe b c) l
theorem yak {m:dM} (h:yq m=true):m.1.all yO=true∧m.2.1.all (yqP m.1.length)=true∧ylJ m.1.length m.2.2.2=true∧1≤m.1.length∧m.1.length≤20∧m.2.1.length≤60:=by
 simp only[yq,Bool.and_eq_true,zj7]at h;exact⟨h.1.1.1.1.1,h.1.1.1.1.2,h.1.1.1.2,by omega,by omega,by omega⟩
theorem yR2 {m:dM} (h:yq m=true) {i:Nat} (hi:i<m.2.1.length):inb (nth m.2.1 i (0,[])).1 m.1.length=true∧yO (nth m.2.1 i (0,[])).2=true:=by
 have h1:=List.all_eq_true.1 (yak h).2.1 m.2.1[i] (List.getElem_mem hi);rw[zkS,zkJ hi];exact Bool.and_eq_true_iff.1 h1
theorem yBM {b:Nat→Bool} {c:List dW} {l:List (List Int)} {i:Nat}:(yqe b c l i).length=l.length:=by
 unfold yqe; cases b i
 ·rfl
 ·exact List.length_set
theorem yK1 {α β:Type} (P:β→Prop) (f:β→α→β) (h: ∀s x,P s→P (f s x)): ∀(l:List α) (s:β),P s→P (l.foldl f s)
 | [],_,hs=>hs
 | x::l,s,hs=>yK1 P f h l (f s x) (h s x hs)
theorem ysU {b:Nat→Bool} {c:List dW} {l:List (List Int)}:(yhI b c l).length=l.length :=
 yK1 (fun x=>x.length=l.length) _ (fun s x hs=>by rw[yBM]; exact hs) _ l rfl
theorem ySs {P:List Int→Prop} {b:Nat→Bool} {c:List dW} {l:List (List Int)} (hl: ∀x∈l,P x) (hc: ∀w∈c,P w.2): ∀x∈yhI b c l,P x:=by
 have: ∀(n:Nat),n≤c.length→ ∀x∈(List.range n).foldl (yqe b c) l,P x:=by
  intro n
  induction n with
  | zero=>intro _; exact hl
  | succ n ih =>
   intro hn x hx;rw[List.range_succ,List.foldl_append,List.foldl_cons,List.foldl_nil,yqe]at hx;cases hb:b n
   ·rw[hb]at hx; exact ih (by omega) x hx
   ·rw[hb,cond_true]at hx
    rcases List.mem_or_eq_of_mem_set hx with h | h
    ·exact ih (by omega) x h
    ·rw[h,zkS,zkJ (show n<c.length by omega)]
     exact hc _ (List.getElem_mem _)
 exact this _ (Nat.le_refl _)
def ysg (m:dM) (n:Int) (s:List Int):Bool:=yq m&&(!m.2.2.1&&(inb n m.1.length&&(yO s&&ltb (m.2.1.length:Int) 60)))
def yPC (l:List Int) (n:Int):List Int:=l.filter (· !=n)
def yd9 (m:dM) (n:Int) (s:List Int):dM×Bool:=bif ysg m n s then((m.1,m.2.1++ [(n,s)],m.2.2.1,yPC m.2.2.2 n),true)else(m,false)
def ydg (m:dM):dM:=bif yq m&& !m.2.2.1 then(yhI (fun _=>true) m.2.1 m.1,[],m.2.2.1,m.2.2.2)else m
def ysm (m:dM):dM:=(m.1,[],true,m.2.2.2)
def yjC:Code:=(f49.body).getD .skip
def yo2:Env:=zkw TT [] []
theorem yDv:FrOk prog ⟨yo2,26,fun _=>none⟩ yjC:=zkA mixed yd trivial
def yvm:Nat→Option Seg:=fun _=>none
def ybY:Shape:=⟨[(0,false,[.br tI]),(1,false,[.br tI]),(5,false,[.int .i64])],[],[]⟩
def ygd:Shape:=⟨[(0,false,[.br tI]),(1,false,[.br tI]),(5,false,[.ci .i64 0])],[],[]⟩
def yfZ:Shape:=⟨[],[],[]⟩
def ygt:Shape:=⟨[(4,false,[.bool])],[],[]⟩
def yju (v0 v1:List Int) (v2:Int):Option ((ybY).X ⊕ ((yfZ).X ⊕ (ygt).X)) :=bif(ltb v2 (v0.length:Int))then bif(inb v2 v0.length)then bif(inb v2 v1.length)then bif((nth v0 v2 0) !=(nth v1 v2 0))then some (.inr (.inr (((false,()),()),(),()))) else some (.inl (((v0,()),(v1,()),((i64.wrap (v2+1)),()),()),(),())) else none else none else some (.inr (.inl ((),(),())))
def ya6 (x:(ybY).X):=yju x.1.1.1 x.1.2.1.1 x.1.2.2.1.1
def yq3 (x:(ygd).X):(ybY).X:=(((x.1.1.1,()),(x.1.2.1.1,()),(0,()),()),(),())
def ys4:Code:=(zd7 yjC 64 116).getD .skip
theorem yC4:zd7 yjC 64 29=some (.block 0 (.loop ys4)):=by kernel_rfl
theorem yEv (x:(ybY).X):zhu ⟨yo2,26,yvm⟩ 0 ys4 116 ybY yfZ ygt x=ya6 x:=by kernel_rfl
def yrc (x:(ygd).X):Nat:=18446744073709551616
def ykv (x:(ygd).X):Option ((yfZ).X ⊕ (ygt).X):=zF ya6 (yrc x) (yq3 x)
def yrq:Seg:=⟨ygd,yfZ,ygt,ykv⟩
def yER:Nat→Option Seg:=fun q=>bif Nat.beq q 29 then some yrq else yvm q
theorem yDw:FrOk prog ⟨yo2,26,yER⟩ yjC:=(yDv).loop (sg:=yrq) ybY yq3 (by decide) yC4 ya6 yrc (by decide) (fun _=>rfl) (fun x r _ h=>h) yEv
abbrev yjO:List Par:= [.rd tL,.rd tL]
abbrev ypE:List OT:= [⟨false,tB,.fz⟩]
def ymG (a0 a1:List Int):Option (zaY ypE×zak yjO) :=bif((a0.length:Int) !=(a1.length:Int))then some ((false,()),()) else zkt (ykv (((a0,()),(a1,()),((),()),()),(),())) (fun y0 =>some ((true,()),())) (fun y0 =>some ((y0.1.1.1,()),()))
theorem yGn:ConOk prog 49 ⟨yjO,ypE,fun x=>ymG x.1 x.2.1⟩:=zkI (yDw) func49 ntmps49.symm fun x=>by kernel_rfl
def yaz (a0 a1:List Int):Bool:=decide (a0=a1)
theorem yIV (a0 a1:List Int) (hk:zjx yjO (a0,a1,())):ymG a0 a1=(fun n=>some ((n,()),())) (yaz a0 a1):=by
 have hb:a0.length*8≤2^47:=hk.1.1
 have hl:a0.length=a1.length→ykv (((a0,()),(a1,()),((),()),()),(),())=some (bif(List.range a0.length).any (fun i=>a0.getD i 0 !=a1.getD i 0)then .inr (((false,()),()),(),())else .inl ((),(),())):=fun hL =>
  zji (step:=ya6) (fun i=>(((a0,()),(a1,()),((i:Int),()),()),(),())) a0.length (fun i=>a0.getD i 0 !=a1.getD i 0) _ _ (fun i hi=>by
   simp only[ya6,yju,zkR hi,zkR (hL ▸ hi),zkS,zky (show(i:Int)<a0.length by omega),cond_true,wq ((i:Int)+1) (by omega) (by omega),Int.natCast_add,Int.natCast_one]
   cases(a0.getD i 0 !=a1.getD i 0)<;>rfl) (by simp only[ya6,yju,zk3 (Int.le_refl _),cond_false]) _ (by show _<18446744073709551616; omega)
 unfold ymG yaz;by_cases h:a0.length=a1.length
 ·rw[show((a0.length:Int) !=(a1.length:Int))=false by simp[h],zkZ,hl h]
  by_cases e:a0=a1
  ·subst e
   have:(List.range a0.length).any (fun i=>a0.getD i 0 !=a0.getD i 0)=false:=by simp
   rw[this,decide_eq_true rfl];rfl
  ·have:(List.range a0.length).any (fun i=>a0.getD i 0 !=a1.getD i 0)=true:=by
    rcases Bool.eq_false_or_eq_true ((List.range a0.length).any (fun i=>a0.getD i 0 !=a1.getD i 0))with h2 | h2
    ·exact h2
    ·refine absurd (List.ext_getElem h fun i h3 h4=> ?_) e
     rw[List.any_eq_false]at h2;have:=h2 i (List.mem_range.2 h3);simpa [h3,h4]using this
   rw[this,decide_eq_false e];rfl
 ·rw[show((a0.length:Int) !=(a1.length:Int))=true from bne_iff_ne.2 (by omega),zk0,decide_eq_false (fun e=>h (congrArg _ e))]
theorem ynw (a:List Int):yaz a a=true:=by unfold yaz; simp
def ymi:Con:=⟨yjO,ypE,fun x=>(fun n=>some ((n,()),())) (yaz x.1 x.2.1)⟩
theorem yyG:ConOk prog 49 ymi:=(yGn).mono (fun x r hk h=>(yIV x.1 x.2.1 hk).trans h)
def ydb:Code:=(f102.body).getD .skip
def yhn:Env:=zkw TT [(49,ymi)] []
theorem yFt:FrOk prog ⟨yhn,93,fun _=>none⟩ ydb:=zkA mixed yd ⟨yyG,trivial⟩
def ywP:Nat→Option Seg:=fun _=>none
def ybf:Shape:=⟨[(2,false,[.ptr 0 0]),(3,false,[.ptr 64 0]),(5,false,[.int .i64])],[(0,[.br tL,.br tW,.bool,.br tI]),(64,[.br tL,.br tW,.bool,.br tI])],[]⟩
def yer:Shape:=⟨[(2,false,[.ptr 0 0]),(3,false,[.ptr 64 0]),(5,false,[.ci .i64 0])],[(0,[.br tL,.br tW,.bool,.br tI]),(64,[.br tL,.br tW,.bool,.br tI])],[]⟩
def yef:Shape:=⟨[(2,false,[.ptr 0 0]),(3,false,[.ptr 64 0])],[(0,[.br tL,.br tW,.bool,.br tI]),(64,[.br tL,.br tW,.bool,.br tI])],[]⟩
def yhc:Shape:=⟨[(4,false,[.bool])],[],[]⟩
abbrev ykS (v0:Int) (v1 v2:dM):(ybf).X:=((((),()),((),()),(v0,()),()),((v1.1,v1.2.1,v1.2.2.1,v1.2.2.2,()),(v2.1,v2.2.1,v2.2.2.1,v2.2.2.2,()),()),())
abbrev yD0 (v0 v1:dM):(yer).X:=((((),()),((),()),((),()),()),((v0.1,v0.2.1,v0.2.2.1,v0.2.2.2,()),(v1.1,v1.2.1,v1.2.2.1,v1.2.2.2,()),()),())
abbrev ytI (v0 v1:dM):(yef).X:=((((),()),((),()),()),((v0.1,v0.2.1,v0.2.2.1,v0.2.2.2,()),(v1.1,v1.2.1,v1.2.2.1,v1.2.2.2,()),()),())
def ylc (v0:Int) (v1:List (List Int)) (v2:List dW) (v3:Bool) (v4:List Int) (v5:List (List Int)) (v6:List dW) (v7:Bool) (v8:List Int):Option ((ybf).X ⊕ ((yef).X ⊕ (yhc).X)) :=bif(ltb v0 (v1.length:Int))then bif(inb v0 v1.length)then bif(inb v0 v5.length)then let r3:=yaz (nth v1 v0 []) (nth v5 v0 []);bif(!r3)then some (.inr (.inr (((false,()),()),(),()))) else some (.inl ((((),()),((),()),((i64.wrap (v0+1)),()),()),((v1,v2,v3,v4,()),(v5,v6,v7,v8,()),()),())) else none else none else some (.inr (.inl ((((),()),((),()),()),((v1,v2,v3,v4,()),(v5,v6,v7,v8,()),()),())))
def ybw (x:(ybf).X):=ylc x.1.2.2.1.1 x.2.1.1.1 x.2.1.1.2.1 x.2.1.1.2.2.1 x.2.1.1.2.2.2.1 x.2.1.2.1.1 x.2.1.2.1.2.1 x.2.1.2.1.2.2.1 x.2.1.2.1.2.2.2.1
def yti (x:(yer).X):(ybf).X:=((((),()),((),()),(0,()),()),((x.2.1.1.1,x.2.1.1.2.1,x.2.1.1.2.2.1,x.2.1.1.2.2.2.1,()),(x.2.1.2.1.1,x.2.1.2.1.2.1,x.2.1.2.1.2.2.1,x.2.1.2.1.2.2.2.1,()),()),())
def yvw:Code:=(zd7 ydb 64 116).getD .skip
theorem yE3:zd7 ydb 64 29=some (.block 0 (.loop yvw)):=by kernel_rfl
theorem yGJ (x:(ybf).X):zhu ⟨yhn,93,ywP⟩ 0 yvw 116 ybf yef yhc x=ybw x:=by kernel_rfl
def ytx (x:(yer).X):Nat:=18446744073709551616
def yl7 (x:(yer).X):Option ((yef).X ⊕ (yhc).X):=zF ybw (ytx x) (yti x)
def ytW:Seg:=⟨yer,yef,yhc,yl7⟩
def yny:Nat→Option Seg:=fun q=>bif Nat.beq q 29 then some ytW else ywP q
theorem yFu:FrOk prog ⟨yhn,93,yny⟩ ydb:=(yFt).loop (sg:=ytW) ybf yti (by decide) yE3 ybw ytx (by decide) (fun _=>rfl) (fun x r _ h=>h) yGJ
def ybg:Shape:=⟨[(2,false,[.ptr 0 0]),(3,false,[.ptr 64 0]),(6,false,[.int .i64])],[(0,[.br tL,.br tW,.bool,.br tI]),(64,[.br tL,.br tW,.bool,.br tI])],[]⟩
def yes:Shape:=⟨[(2,false,[.ptr 0 0]),(3,false,[.ptr 64 0]),(6,false,[.ci .i64 0])],[(0,[.br tL,.br tW,.bool,.br tI]),(64,[.br tL,.br tW,.bool,.br tI])],[]⟩
def yeg:Shape:=⟨[],[],[]⟩
def yhd:Shape:=⟨[(4,false,[.bool])],[],[]⟩
abbrev ykT (v0:Int) (v1 v2:dM):(ybg).X:=((((),()),((),()),(v0,()),()),((v1.1,v1.2.1,v1.2.2.1,v1.2.2.2,()),(v2.1,v2.2.1,v2.2.2.1,v2.2.2.2,()),()),())
abbrev yD1 (v0 v1:dM):(yes).X:=((((),()),((),()),((),()),()),((v0.1,v0.2.1,v0.2.2.1,v0.2.2.2,()),(v1.1,v1.2.1,v1.2.2.1,v1.2.2.2,()),()),())
abbrev ytJ  :(yeg).X:=((),(),())
def yld (v0:Int) (v1:List (List Int)) (v2:List dW) (v3:Bool) (v4:List Int) (v5:List (List Int)) (v6:List dW) (v7:Bool) (v8:List Int):Option ((ybg).X ⊕ ((yeg).X ⊕ (yhd).X)) :=bif(ltb v0 (v2.length:Int))then bif(inb v0 v2.length)then bif(inb v0 v6.length)then bif(!((nth v2 v0 (0,[])).1 !=(nth v6 v0 (0,[])).1))then bif(inb v0 v2.length)then bif(inb v0 v6.length)then let r6:=yaz ((nth v2 v0 (0,[])).2) ((nth v6 v0 (0,[])).2);bif(!r6)then some (.inr (.inr (((false,()),()),(),()))) else some (.inl ((((),()),((),()),((i64.wrap (v0+1)),()),()),((v1,v2,v3,v4,()),(v5,v6,v7,v8,()),()),())) else none else none else some (.inr (.inr (((false,()),()),(),()))) else none else none else some (.inr (.inl ((),(),())))
def ybx (x:(ybg).X):=yld x.1.2.2.1.1 x.2.1.1.1 x.2.1.1.2.1 x.2.1.1.2.2.1 x.2.1.1.2.2.2.1 x.2.1.2.1.1 x.2.1.2.1.2.1 x.2.1.2.1.2.2.1 x.2.1.2.1.2.2.2.1
def ytj (x:(yes).X):(ybg).X:=((((),()),((),()),(0,()),()),((x.2.1.1.1,x.2.1.1.2.1,x.2.1.1.2.2.1,x.2.1.1.2.2.2.1,()),(x.2.1.2.1.1,x.2.1.2.1.2.1,x.2.1.2.1.2.2.1,x.2.1.2.1.2.2.2.1,()),()),())
def yvx:Code:=(zd7 ydb 64 244).getD .skip
theorem yE4:zd7 ydb 64 61=some (.block 2 (.loop yvx)):=by kernel_rfl
theorem yGK (x:(ybg).X):zhu ⟨yhn,93,yny⟩ 2 yvx 244 ybg yeg yhd x=ybx x:=by kernel_rfl
def yty (x:(yes).X):Nat:=18446744073709551616
def yl8 (x:(yes).X):Option ((yeg).X ⊕ (yhd).X):=zF ybx (yty x) (ytj x)
def ytX:Seg:=⟨yes,yeg,yhd,yl8⟩
def yG2:Nat→Option Seg:=fun q=>bif Nat.beq q 61 then some ytX else yny q
theorem yFv:FrOk prog ⟨yhn,93,yG2⟩ ydb:=(yFu).loop (sg:=ytX) ybg ytj (by decide) yE4 ybx yty (by decide) (fun _=>rfl) (fun x r _ h=>h) yGK
abbrev yrO:List Par:= [.rd tM,.rd tM]
abbrev yr5:List OT:= [⟨false,tB,.fz⟩]
def yfx (a0 a1:dM):Option (zaY yr5×zak yrO) :=bif(!((a0.1.length:Int) !=(a1.1.length:Int)))then bif(!((a0.2.1.length:Int) !=(a1.2.1.length:Int)))then bif(!(!(a0.2.2.1==a1.2.2.1)))then let r1:=yaz a0.2.2.2 a1.2.2.2;bif(!r1)then some ((false,()),()) else zkt (yl7 ((((),()),((),()),((),()),()),((a0.1,a0.2.1,a0.2.2.1,a0.2.2.2,()),(a1.1,a1.2.1,a1.2.2.1,a1.2.2.2,()),()),())) (fun y3 =>zkt (yl8 ((((),()),((),()),((),()),()),((y3.2.1.1.1,y3.2.1.1.2.1,y3.2.1.1.2.2.1,y3.2.1.1.2.2.2.1,()),(y3.2.1.2.1.1,y3.2.1.2.1.2.1,y3.2.1.2.1.2.2.1,y3.2.1.2.1.2.2.2.1,()),()),())) (fun y6 =>some ((true,()),())) (fun y6 =>some ((y6.1.1.1,()),()))) (fun y3 =>some ((y3.1.1.1,()),())) else some ((false,()),()) else some ((false,()),()) else some ((false,()),())
theorem yJi:ConOk prog 102 ⟨yrO,yr5,fun x=>yfx x.1 x.2.1⟩:=zkI (yFv) func102 ntmps102.symm fun x=>by kernel_rfl
def yxY:Con:=⟨yrO,yr5,fun x=>yfx x.1 x.2.1⟩
theorem yMX:ConOk prog 102 yxY:=yJi
theorem yTV (m:dM) (h1:m.1.length≤1000000000) (h2:m.2.1.length≤1000000000):yfx m m=some ((true,()),()):=by
 have l1:yl7 (yD0 m m)=some (.inl (ytI m m)) :=
  zkD (step:=ybw) m.1.length (fun i (_:Unit)=>ykS i m m) (fun _ _=>()) (fun _ _=>True) (fun _=> .inl (ytI m m)) (fun i s hi _=>⟨by
   simp only[ybw,ykS,ylc,zky (show(i:Int)<m.1.length by omega),cond_true,wq ((i:Int)+1) (by omega) (by omega),Int.natCast_add,Int.natCast_one,Int.toNat_natCast,zkR hi,ynw,Bool.not_true,cond_false],trivial⟩) (fun s _=>by simp only[ybw,ykS,ylc,zk3 (Int.le_refl _),cond_false]) () trivial 18446744073709551616 (by omega)
 have l2:yl8 (yD1 m m)=some (.inl ytJ) :=
  zkD (step:=ybx) m.2.1.length (fun i (_:Unit)=>ykT i m m) (fun _ _=>()) (fun _ _=>True) (fun _=> .inl ytJ) (fun i s hi _=>⟨by
   simp only[ybx,ykT,yld,zky (show(i:Int)<m.2.1.length by omega),cond_true,wq ((i:Int)+1) (by omega) (by omega),Int.natCast_add,Int.natCast_one,Int.toNat_natCast,zkR hi,ynw,bne_self_eq_false,Bool.not_true,Bool.not_false,cond_true,cond_false],trivial⟩) (fun s _=>by simp only[ybx,ykT,yld,zk3 (Int.le_refl _),cond_false]) () trivial 18446744073709551616 (by omega)
 unfold yfx;simp only[bne_self_eq_false,beq_self_eq_true,ynw,Bool.not_true,Bool.not_false,cond_true,cond_false];refine(congrArg (fun z=>zkt z _ _) l1).trans ?_;rw[zkN];exact(congrArg (fun z=>zkt z _ _) l2).trans rfl
def yjD:Code:=(f31.body).getD .skip
def yo3:Env:=zkw TT [(102,yxY)] []
theorem yDx:FrOk prog ⟨yo3,27,fun _=>none⟩ yjD:=zkA mixed yd ⟨yMX,trivial⟩
def yvn:Nat→Option Seg:=fun _=>none
def yaN:Shape:=⟨[(0,false,[.br tM]),(1,false,[.br tM]),(5,false,[.int .i64])],[],[]⟩
def ydD:Shape:=⟨[(0,false,[.br tM]),(1,false,[.br tM]),(5,false,[.ci .i64 0])],[],[]⟩
def ydv:Shape:=⟨[],[],[]⟩
def ygu:Shape:=⟨[(4,false,[.bool])],[],[]⟩
abbrev yjj (v0 v1:List dM) (v2:Int):(yaN).X:=(((v0,()),(v1,()),(v2,()),()),(),())
abbrev yCA (v0 v1:List dM):(ydD).X:=(((v0,()),(v1,()),((),()),()),(),())
abbrev yrh  :(ydv).X:=((),(),())
def yjv (v0 v1:List dM) (v2:Int):Option ((yaN).X ⊕ ((ydv).X ⊕ (ygu).X)) :=bif(ltb v2 (v0.length:Int))then bif(inb v2 v0.length)then bif(inb v2 v1.length)then bnd (yfx ((nth v0 v2 ([],[],false,[])).1,((nth v0 v2 ([],[],false,[])).2).1,(((nth v0 v2 ([],[],false,[])).2).2)) ((nth v1 v2 ([],[],false,[])).1,((nth v1 v2 ([],[],false,[])).2).1,(((nth v1 v2 ([],[],false,[])).2).2))) fun r2 =>bif(!r2.1.1)then some (.inr (.inr (((false,()),()),(),()))) else some (.inl (((v0,()),(v1,()),((i64.wrap (v2+1)),()),()),(),())) else none else none else some (.inr (.inl ((),(),())))
def ya7 (x:(yaN).X):=yjv x.1.1.1 x.1.2.1.1 x.1.2.2.1.1
def yq4 (x:(ydD).X):(yaN).X:=(((x.1.1.1,()),(x.1.2.1.1,()),(0,()),()),(),())
def ys5:Code:=(zd7 yjD 64 116).getD .skip
theorem yC5:zd7 yjD 64 29=some (.block 0 (.loop ys5)):=by kernel_rfl
theorem yEw (x:(yaN).X):zhu ⟨yo3,27,yvn⟩ 0 ys5 116 yaN ydv ygu x=ya7 x:=by kernel_rfl
def yrd (x:(ydD).X):Nat:=18446744073709551616
def ykw (x:(ydD).X):Option ((ydv).X ⊕ (ygu).X):=zF ya7 (yrd x) (yq4 x)
def yrr:Seg:=⟨ydD,ydv,ygu,ykw⟩
def yES:Nat→Option Seg:=fun q=>bif Nat.beq q 29 then some yrr else yvn q
theorem yDy:FrOk prog ⟨yo3,27,yES⟩ yjD:=(yDx).loop (sg:=yrr) yaN yq4 (by decide) yC5 ya7 yrd (by decide) (fun _=>rfl) (fun x r _ h=>h) yEw
abbrev ypn:List Par:= [.rd tMs,.rd tMs]
abbrev ypF:List OT:= [⟨false,tB,.fz⟩]
def yeG (a0 a1:List dM):Option (zaY ypF×zak ypn) :=bif((a0.length:Int) !=(a1.length:Int))then some ((false,()),()) else zkt (ykw (((a0,()),(a1,()),((),()),()),(),())) (fun y2 =>some ((true,()),())) (fun y2 =>some ((y2.1.1.1,()),()))
theorem yGo:ConOk prog 31 ⟨ypn,ypF,fun x=>yeG x.1 x.2.1⟩:=zkI (yDy) func31 ntmps31.symm fun x=>by kernel_rfl
def yvN:Con:=⟨ypn,ypF,fun x=>yeG x.1 x.2.1⟩
theorem yJI:ConOk prog 31 yvN:=yGo
theorem yTu (l:List dM) (h:l.length≤1000000000) (hm: ∀m∈l,m.1.length≤1000000000∧m.2.1.length≤1000000000):yeG l l=some ((true,()),()):=by
 have l1:ykw (yCA l l)=some (.inl yrh) :=
  zkD (step:=ya7) l.length (fun i (_:Unit)=>yjj l l i) (fun _ _=>()) (fun _ _=>True) (fun _=> .inl yrh) (fun i s hi _=>⟨by
   have hn:=ylX (P:=fun m:dM=>m.1.length≤1000000000∧m.2.1.length≤1000000000) (d:=yc) (zkR hi) hm;simp only[ya7,yjj,yjv,zky (show(i:Int)<l.length by omega),cond_true,wq ((i:Int)+1) (by omega) (by omega),Int.natCast_add,Int.natCast_one,Int.toNat_natCast,zkR hi,zkX]
   rw[yTV _ hn.1 hn.2]; rfl,trivial⟩) (fun s _=>by simp only[ya7,yjj,yjv,zk3 (Int.le_refl _),cond_false]) () trivial 18446744073709551616 (by omega)
 unfold yeG;rw[bne_self_eq_false,cond_false];exact(congrArg (fun z=>zkt z _ _) l1).trans rfl
def yid:Code:=(f94.body).getD .skip
def ynA:Env:=zkw TT [(49,ymi)] []
theorem yCo:FrOk prog ⟨ynA,42,fun _=>none⟩ yid:=zkA mixed yd ⟨yyG,trivial⟩
def ysV:Nat→Option Seg:=fun _=>none
def yap:Shape:=⟨[(0,false,[.br tW]),(1,false,[.br tW]),(5,false,[.int .i64])],[],[]⟩
def yc3:Shape:=⟨[(0,false,[.br tW]),(1,false,[.br tW]),(5,false,[.ci .i64 0])],[],[]⟩
def ycY:Shape:=⟨[],[],[]⟩
def yfA:Shape:=⟨[(4,false,[.bool])],[],[]⟩
abbrev yiv (v0 v1:List dW) (v2:Int):(yap).X:=(((v0,()),(v1,()),(v2,()),()),(),())
abbrev yBP (v0 v1:List dW):(yc3).X:=(((v0,()),(v1,()),((),()),()),(),())
abbrev yqh  :(ycY).X:=((),(),())
def yiE (v0 v1:List dW) (v2:Int):Option ((yap).X ⊕ ((ycY).X ⊕ (yfA).X)) :=bif(ltb v2 (v0.length:Int))then bif(inb v2 v0.length)then bif(inb v2 v1.length)then bif(!((nth v0 v2 (0,[])).1 !=(nth v1 v2 (0,[])).1))then bif(inb v2 v0.length)then bif(inb v2 v1.length)then let r2:=yaz ((nth v0 v2 (0,[])).2) ((nth v1 v2 (0,[])).2);bif(!r2)then some (.inr (.inr (((false,()),()),(),()))) else some (.inl (((v0,()),(v1,()),((i64.wrap (v2+1)),()),()),(),())) else none else none else some (.inr (.inr (((false,()),()),(),()))) else none else none else some (.inr (.inl ((),(),())))
def yaC (x:(yap).X):=yiE x.1.1.1 x.1.2.1.1 x.1.2.2.1.1
def yp2 (x:(yc3).X):(yap).X:=(((x.1.1.1,()),(x.1.2.1.1,()),(0,()),()),(),())
def yqR:Code:=(zd7 yid 64 116).getD .skip
theorem yCh:zd7 yid 64 29=some (.block 0 (.loop yqR)):=by kernel_rfl
theorem yCM (x:(yap).X):zhu ⟨ynA,42,ysV⟩ 0 yqR 116 yap ycY yfA x=yaC x:=by kernel_rfl
def yp7 (x:(yc3).X):Nat:=18446744073709551616
def yi8 (x:(yc3).X):Option ((ycY).X ⊕ (yfA).X):=zF yaC (yp7 x) (yp2 x)
def yqG:Seg:=⟨yc3,ycY,yfA,yi8⟩
def yCU:Nat→Option Seg:=fun q=>bif Nat.beq q 29 then some yqG else ysV q
theorem yCp:FrOk prog ⟨ynA,42,yCU⟩ yid:=(yCo).loop (sg:=yqG) yap yp2 (by decide) yCh yaC yp7 (by decide) (fun _=>rfl) (fun x r _ h=>h) yCM
abbrev ynN:List Par:= [.rd tWs,.rd tWs]
abbrev ynP:List OT:= [⟨false,tB,.fz⟩]
def ydP (a0 a1:List dW):Option (zaY ynP×zak ynN) :=bif((a0.length:Int) !=(a1.length:Int))then some ((false,()),()) else zkt (yi8 (((a0,()),(a1,()),((),()),()),(),())) (fun y2 =>some ((true,()),())) (fun y2 =>some ((y2.1.1.1,()),()))
theorem yEh:ConOk prog 94 ⟨ynN,ynP,fun x=>ydP x.1 x.2.1⟩:=zkI (yCp) func94 ntmps94.symm fun x=>by kernel_rfl
def ys9:Con:=⟨ynN,ynP,fun x=>ydP x.1 x.2.1⟩
theorem yGA:ConOk prog 94 ys9:=yEh
theorem yS2 (l:List dW) (h:l.length≤1000000000):ydP l l=some ((true,()),()):=by
 have l1:yi8 (yBP l l)=some (.inl yqh) :=
  zkD (step:=yaC) l.length (fun i (_:Unit)=>yiv l l i) (fun _ _=>()) (fun _ _=>True) (fun _=> .inl yqh) (fun i s hi _=>⟨by
   simp only[yaC,yiv,yiE,zky (show(i:Int)<l.length by omega),cond_true,wq ((i:Int)+1) (by omega) (by omega),Int.natCast_add,Int.natCast_one,Int.toNat_natCast,zkR hi,ynw,bne_self_eq_false,Bool.not_true,Bool.not_false,cond_true,cond_false],trivial⟩) (fun s _=>by simp only[yaC,yiv,yiE,zk3 (Int.le_refl _),cond_false]) () trivial 18446744073709551616 (by omega)
 unfold ydP;rw[bne_self_eq_false,cond_false];exact(congrArg (fun z=>zkt z _ _) l1).trans rfl
def ySj:Code:=(f82.body).getD .skip
def ySl:Env:=zkw TT [] []
theorem yOj:FrOk prog ⟨ySl,15,fun _=>none⟩ ySj:=zkA mixed yd trivial
abbrev yAz:List Par:= [.rd tI,.rd tI,.rd tI]
abbrev yAB:List OT:= [⟨false,tB,.fz⟩]
def yCb (a0 a1 a2:Int):Option (zaY yAB×zak yAz) :=bif(leb a1 a0)then some (((leb a0 a2),()),()) else some ((false,()),())
theorem yQ6:ConOk prog 82 ⟨yAz,yAB,fun x=>yCb x.1 x.2.1 x.2.2.1⟩:=zkI (yOj) func82 ntmps82.symm fun x=>by kernel_rfl
def ya (a0 a1 a2:Int):Bool :=bif(leb a1 a0)then (leb a0 a2) else false
def yj:Con:=⟨yAz,yAB,fun x=>(fun n=>some ((n,()),())) (ya x.1 x.2.1 x.2.2.1)⟩
theorem yR3 (a0 a1 a2:Int):yCb a0 a1 a2=(fun n=>some ((n,()),())) (ya a0 a1 a2):=zkV (p:=fun(n:Bool)=>((n,()),())) (zkG (p:=fun(n:Bool)=>((n,()),())) rfl rfl)
theorem ym:ConOk prog 82 yj:=(yQ6).mono (fun x r _ h=>(yR3 x.1 x.2.1 x.2.2.1).trans h)
theorem yqc {a b c:Int}:ya a b c=true↔b≤a∧a≤c:=by
 unfold ya;cases h:leb b a
 ·have:=mt zk2 (by rw[h]; simp: ¬leb b a=true)
  simp[this]
 ·simp[zj7,zj7.1 h]
theorem yUR {a b c:Int} (h:b≤a) (h2:a≤c):ya a b c=true:=yqc.2 ⟨h,h2⟩
theorem ycf (x a b:Int):ya x a b=(leb a x&&leb x b):=by
 unfold ya; cases leb a x<;>rfl
theorem ygB {x:Int} {n:Nat} (h:n≤1152921504606846976):ya x 0 (i64.wrap ((n:Int)-1))=inb x n:=by
 rw[wr (by omega) (by omega),Bool.eq_iff_iff,yqc,zj6]; omega
def yRu:Code:=(f150.body).getD .skip
def yRI:Env:=zkw TT [(82,yj)] []
theorem yLb:FrOk prog ⟨yRI,11,fun _=>none⟩ yRu:=zkA mixed yd ⟨ym,trivial⟩
abbrev yw7:List Par:= [.rd tG]
abbrev yxn:List OT:= [⟨false,tB,.fz⟩]
def yBv (a0:dG):Option (zaY yxn×zak yw7) :=let r1:=ya a0.1 3 5;bif r1 then let r2:=ya a0.2 1 8;some ((r2,()),()) else some ((false,()),())
theorem yOV:ConOk prog 150 ⟨yw7,yxn,fun x=>yBv x.1⟩:=zkI (yLb) func150 ntmps150.symm fun x=>by kernel_rfl
def ye (a0:dG):Bool :=let r1:=ya a0.1 3 5;bif r1 then let r2:=ya a0.2 1 8;r2 else false
def yeQ:Con:=⟨yw7,yxn,fun x=>(fun n=>some ((n,()),())) (ye x.1)⟩
theorem yQU (a0:dG):yBv a0=(fun n=>some ((n,()),())) (ye a0):=zkV (p:=fun(n:Bool)=>((n,()),())) (zkG (p:=fun(n:Bool)=>((n,()),())) rfl rfl)
theorem yi2:ConOk prog 150 yeQ:=(yOV).mono (fun x r _ h=>(yQU x.1).trans h)
theorem yk {a:Int×Int}:ye a=true↔(3≤a.1∧a.1≤5)∧1≤a.2∧a.2≤8:=by
 unfold ye;cases h:ya a.1 3 5
 ·have: ¬(3≤a.1∧a.1≤5):=fun e=>by rw[yqc.2 e]at h; simp at h
  simp[this]
 ·simp only[cond_true,yqc]
  exact⟨fun e=>⟨yqc.1 h,e⟩,fun e=>e.2⟩
def yfp (a:dA) (i:Nat):Bool:= !(yq (nth a.2.2.1 i yc))||((((nth a.2.2.1 i yc).1.length:Int) !=6+a.2.1.2)||((nth a.2.2.1 i yc).2.2.1&&(((i:Int) !=a.2.2.2.1)&& !a.2.2.2.2.2.2.2.2.2.2.2)))
def yiS (a:dA):Bool:= !((List.range a.2.2.1.length).any (yfp a))&&(a.2.2.1.length:Int)==a.2.1.1
def yfK (g:dG) (l:List dW) (i:Nat):Bool:= !(leb 0 (nth l i (0,[])).1&&leb (nth l i (0,[])).1 (g.2-1))||(((nth l i (0,[])).2.length:Int) !=g.1-1||(!((nth l i (0,[])).2.all isW)||(decide (0<i)&&leb (nth l i (0,[])).1 (nth l ((i-1:Nat):Int) (0,[])).1)))
def yaB (g:dG) (l:List dW):Bool:= !((List.range l.length).any (yfK g l))
def yP (a:dA):Bool :=ye a.2.1&&((leb 1 a.1&&leb a.1 60000)&&(yiS a&&(yaB a.2.1 a.2.2.2.2.2.2.2.2.1&&((leb (-1) a.2.2.2.1&&leb a.2.2.2.1 (a.2.1.1-1))&&((leb 0 a.2.2.2.2.1&&leb a.2.2.2.2.1 a.2.1.2)&&(!(a.2.2.2.1== -1&&a.2.2.2.2.1 !=0) && ((leb 0 a.2.2.2.2.2.2.1&&leb a.2.2.2.2.2.2.1 60000)&&((leb a.2.2.2.2.2.2.1 a.2.2.2.2.2.1&&leb a.2.2.2.2.2.1 60000)&&(leb a.2.2.2.2.2.1 (a.2.2.2.2.2.2.1+4)&&((leb 0 a.2.2.2.2.2.2.2.1&&leb a.2.2.2.2.2.2.2.1 60000)&&(leb (-1) a.2.2.2.2.2.2.2.2.2.1&&leb a.2.2.2.2.2.2.2.2.2.1 1000)))))))))))
theorem ykJ {a:dA} (h:yP a=true):ye a.2.1=true:=(Bool.and_eq_true_iff.1 h).1
theorem yKV {a:dA} (h:yP a=true):yiS a=true:=by simp only[yP,Bool.and_eq_true]at h; exact h.2.2.1
theorem yC8 {a:dA} (h:yP a=true):(a.2.2.1.length:Int)=a.2.1.1:=by have:=yKV h; simp only[yiS,Bool.and_eq_true,beq_iff_eq]at this; exact this.2
theorem yPU {a:dA} (h:yiS a=true) {i:Nat} (hi:i<a.2.2.1.length):yq (nth a.2.2.1 i yc)=true∧((nth a.2.2.1 i yc).1.length:Int)=6+a.2.1.2∧((nth a.2.2.1 i yc).2.2.1=true→(i:Int)=a.2.2.2.1∨a.2.2.2.2.2.2.2.2.2.2.2=true):=by
 simp only[yiS,Bool.and_eq_true,Bool.not_eq_true',List.any_eq_false,List.mem_range]at h;have:=h.1 i hi;simp only[yfp,Bool.not_eq_true,Bool.or_eq_false_iff,Bool.not_eq_false',bne_eq_false_iff_eq,Bool.and_eq_false_iff]at this;refine⟨this.1,this.2.1,fun hf=> ?_⟩;rcases this.2.2 with h1 | h1 | h1
 ·rw[hf]at h1; cases h1
 ·exact .inl h1
 ·exact .inr h1
theorem yAX: ∀{l:List Int} {lo n:Int},l.Pairwise (· < ·)→(∀x∈l,lo≤x∧x<n)→lo≤n→(l.length:Int)≤n-lo
 | [],lo,n,_,_,h=>by simp; omega
 | x::l,lo,n,hp,hx,h=>by
  cases hp with
  | cons h1 h2 =>
   have h3:=hx x List.mem_cons_self;have:=yAX (l:=l) (lo:=x+1) (n:=n) h2 (fun y hy=>⟨h1 y hy,(hx y (List.mem_cons_of_mem _ hy)).2⟩) (by omega);rw[List.length_cons]; omega
theorem yh9 {n:Nat} {l:List Int}:ylJ n l=true↔(∀x∈l,0≤x∧x<n)∧l.Pairwise (· < ·):=by
 simp only[ylJ,Bool.and_eq_true,List.all_eq_true,zj6,decide_eq_true_eq]
theorem ysq {m:dM} (h1:m.1.all yO=true) (h2:m.2.1.all (yqP m.1.length)=true) (h3:ylJ m.1.length m.2.2.2=true) (h4:1≤m.1.length) (h5:m.1.length≤20) (h6:m.2.1.length≤60):yq m=true:=by
 simp only[yq,h1,h2,h3,Bool.true_and,Bool.and_eq_true,zj7];omega
theorem ySW {m:dM} (b:Nat→Bool) (h:yq m=true):(yhI b m.2.1 m.1).all yO=true:=by
 obtain⟨h1,h2,_⟩:=yak h;rw[List.all_eq_true];exact ySs (P:=fun x=>yO x=true) (fun x hx=>List.all_eq_true.1 h1 x hx) (fun w hw=>(Bool.and_eq_true_iff.1 (List.all_eq_true.1 h2 w hw)).2)
theorem yJ3 {m:dM} (n:Int) (s:List Int) (h:yq m=true):yq (yd9 m n s).1=true:=by
 unfold yd9;cases hc:ysg m n s
 ·exact h
 ·simp only[ysg,Bool.and_eq_true,Bool.not_eq_true',zka]at hc
  obtain⟨h1,h2,h3,h4,h5,h6⟩:=yak h;refine ysq h1 ?_ ?_ h4 h5 (by show(m.2.1++ [(n,s)]).length≤60; rw[List.length_append]; simp only[List.length_cons,List.length_nil]; omega)
  ·show(m.2.1++ [(n,s)]).all (yqP m.1.length)=true
   rw[List.all_append,h2];simp[yqP,hc.2.2.1,hc.2.2.2.1]
  ·show ylJ m.1.length (yPC m.2.2.2 n)=true
   obtain⟨b1,b2⟩:=yh9.1 h3;exact yh9.2 ⟨fun x hx=>b1 x (List.mem_filter.1 hx).1,b2.filter _⟩
theorem yP1 (m:dM) (n:Int) (s:List Int):(yd9 m n s).1.1=m.1∧(yd9 m n s).1.2.2.1=m.2.2.1:=by
 unfold yd9;cases ysg m n s<;>exact⟨rfl,rfl⟩
theorem yHr {m:dM} (h:yq m=true):yq (ydg m)=true:=by
 unfold ydg;cases hc:(yq m&& !m.2.2.1)
 ·exact h
 ·obtain⟨h1,h2,h3,h4,h5,h6⟩:=yak h
  refine ysq (ySW _ h) rfl ?_ ?_ ?_ (Nat.zero_le _)
  ·show ylJ (yhI _ m.2.1 m.1).length m.2.2.2=true; rw[ysU]; exact h3
  ·show 1≤(yhI _ m.2.1 m.1).length; rw[ysU]; exact h4
  ·show(yhI _ m.2.1 m.1).length≤20; rw[ysU]; exact h5
theorem yPO (m:dM):(ydg m).1.length=m.1.length∧(ydg m).2.2.1=m.2.2.1:=by
 unfold ydg;cases(yq m&& !m.2.2.1)
 ·exact⟨rfl,rfl⟩
 ·exact⟨ysU,rfl⟩
theorem ySG {m:dM} (h:yq m=true):yq (ysm m)=true:=by
 obtain⟨h1,h2,h3,h4,h5,h6⟩:=yak h;exact ysq h1 rfl h3 h4 h5 (Nat.zero_le _)
def yaR (l:List dM):Prop:= ∀m∈l,yq m=true
theorem ywF {l:List dM} {i:Nat} {x:dM} (h:yaR l) (hx:yq x=true):yaR (l.set i x):=fun m hm=>by
 rcases List.mem_or_eq_of_mem_set hm with h1 | rfl
 ·exact h m h1
 ·exact hx
theorem yEj {l:List dM} {m:Int} (h:yaR l) (hm:inb m l.length=true):yq (nth l m yc)=true:=ylX (P:=fun x=>yq x=true) hm h
theorem ySR {a:dA} (h:yP a=true):yaR a.2.2.1:=fun m hm=>by
 obtain⟨i,hi,rfl⟩:=List.getElem_of_mem hm;have:=(yPU (yKV h) hi).1;rwa[zkS,zkJ hi]at this
theorem ySH {α:Type} (A:List α) (y:α) (t:List α) (d:α):(A++y::t).getD A.length d=y:=by
 rw[List.getD_eq_getElem?_getD,List.getElem?_append_right (Nat.le_refl _),Nat.sub_self]; rfl
theorem ySL {α:Type} (A:List α) (y z:α) (t:List α):(A++y::t).set A.length z=A++z::t:=by
 rw[List.set_append_right _ _ (Nat.le_refl _),Nat.sub_self]; rfl
def yqd (l:List Int) (n:Int):List Int:=l.filter (fun x=>ltb x n)++n::l.filter (fun x=>ltb n x)
def spoil (m:dM) (n:Int):dM:=bif yq m&&(inb n m.1.length&& !(m.2.2.2.any (· ==n)))then(m.1,m.2.1,m.2.2.1,yqd m.2.2.2 n)else m
theorem ySa {l:List Int} {n:Int} (h:l.Pairwise (· < ·)) (hn:n∉l):l=l.filter (fun x=>ltb x n)++l.filter (fun x=>ltb n x):=by
 induction l with
 | nil=>rfl
 | cons x t ih =>
  obtain⟨hx,ht⟩:=List.pairwise_cons.1 h;simp only[List.mem_cons,not_or]at hn;rw[List.filter_cons,List.filter_cons];by_cases hlt:x<n
  ·rw[zky hlt,zk3 (show x≤n by omega)]
   simp only[if_true,Bool.false_eq_true,if_false,List.cons_append];rw[← ih ht hn.2]
  ·have h3:t.filter (fun x=>ltb x n)= []:=List.filter_eq_nil_iff.2 (fun y hy=>by rw[zk3 (by have:=hx y hy; omega)]; simp)
   have h4:t.filter (fun x=>ltb n x)=t:=List.filter_eq_self.2 (fun y hy=>zky (by have:=hx y hy; omega));rw[zk3 (show n≤x by omega),zky (show n<x by omega),h3,h4]; rfl
theorem yJ2 {m:dM} (n:Int) (h:yq m=true):yq (spoil m n)=true:=by
 unfold spoil;cases hc:(yq m&&(inb n m.1.length&& !(m.2.2.2.any (· ==n))))
 ·exact h
 ·simp only[Bool.and_eq_true]at hc
  have hi:=zj6.1 hc.2.1;obtain⟨h1,h2,h3,h4,h5,h6⟩:=yak h;rw[yh9]at h3;refine ysq h1 h2 ?_ h4 h5 h6;show ylJ m.1.length (yqd m.2.2.2 n)=true;rw[yh9];unfold yqd;refine⟨fun x hx=> ?_,?_⟩
  ·rcases List.mem_append.1 hx with g | g
   ·exact h3.1 x (List.mem_filter.1 g).1
   ·rcases List.mem_cons.1 g with rfl | g
    ·exact hi
    ·exact h3.1 x (List.mem_filter.1 g).1
  ·rw[List.pairwise_append,List.pairwise_cons]
   refine⟨h3.2.filter _,⟨fun y hy=>zka.1 (List.mem_filter.1 hy).2,h3.2.filter _⟩,fun x hx y hy=> ?_⟩;have g1:=zka.1 (List.mem_filter.1 hx).2;rcases List.mem_cons.1 hy with rfl | hy
   ·exact g1
   ·exact Int.lt_trans g1 (zka.1 (List.mem_filter.1 hy).2)
theorem yPW (m:dM) (n:Int):(spoil m n).1=m.1∧(spoil m n).2.2.1=m.2.2.1:=by
 unfold spoil;cases(yq m&&(inb n m.1.length&& !(m.2.2.2.any (· ==n))))<;>exact⟨rfl,rfl⟩
def ya0 (g:dG) (s:Int):Bool:=ye g&&(leb 0 s&&leb s (g.2-1))
def yn (g:dG) (s:Int):Int:=bif ya0 g s then g.1-1-s.tmod g.1 else -1
def ykM (g:dG) (s i:Int):Int:=bif ya0 g s&&(leb 0 i&&leb i (g.1-2))then(yn g s+1+i).tmod g.1 else -1
theorem yeP {g:dG} {s:Int}:ya0 g s=true↔ye g=true∧0≤s∧s≤g.2-1:=by simp[ya0,zj7]
theorem yAh {g:dG} {s:Int} (h:ya0 g s=true):0≤yn g s∧yn g s≤g.1-1:=by
 have h1:=yeP.1 h;have h2:=yk.1 h1.1;unfold yn;rw[h,cond_true,Int.tmod_eq_emod_of_nonneg h1.2.1];have:=Int.emod_nonneg s (show g.1≠0 by omega);have:=Int.emod_lt_of_pos s (show 0<g.1 by omega);omega
theorem yUa {g:dG} {s i:Int} (h:ya0 g s=true) (h1:0≤i) (h2:i≤g.1-2):0≤ykM g s i∧ykM g s i≤g.1-1:=by
 have h3:=yk.1 (yeP.1 h).1;have h4:=yAh h;unfold ykM;rw[h,zk2 h1,zk2 h2,Bool.and_self,Bool.and_self,cond_true,Int.tmod_eq_emod_of_nonneg (by omega)];have:=Int.emod_nonneg (yn g s+1+i) (show g.1≠0 by omega);have:=Int.emod_lt_of_pos (yn g s+1+i) (show 0<g.1 by omega);omega
def yN (p:Nat→Bool):Nat→Int
 | 0=> -1
 | n+1=>bif p n then yN p n else n
def yLM (p:Nat→Bool) (n:Nat):Bool:=(List.range n).any (fun i=> !p i&&leb 0 (yN p i))
theorem yPV (p:Nat→Bool): ∀n,yN p n= -1∨(0≤yN p n∧yN p n<n∧p (yN p n).toNat=false)
 | 0=> .inl rfl
 | n+1=>by
  unfold yN;cases h:p n
  ·exact .inr ⟨by show(0:Int)≤n; omega,by show(n:Int)<_; omega,h⟩
  ·rcases yPV p n with h1 | h1
   ·exact .inl h1
   ·exact .inr ⟨h1.1,by show yN p n<_; omega,h1.2.2⟩
def yad (a:dA) (s:Int) (n:Nat):List Int:=(List.range n).map (fun(i:Nat)=>yB5 a i s)
theorem yqO (a:dA) (s:Int) (n:Nat):(yad a s n).length=n:=by unfold yad; rw[List.length_map,List.length_range]
theorem yRn (a:dA) (s:Int) (n:Nat):yad a s n++ [yB5 a n s]=yad a s (n+1):=by unfold yad; rw[List.range_succ,List.map_append]; rfl
theorem ySz (a:dA) (s:Int) {i n:Nat} (h:i<n):nth (yad a s n) i 0=yB5 a i s:=by
 unfold yad;rw[zkS,zkJ (by rw[List.length_map,List.length_range]; exact h)]; simp
def ybp (a:dA) (s:Int):List Int×Bool :=bif yLM (fun(i:Nat)=>yA a i s) a.2.1.1.toNat then([],false) else bif leb 0 (yN (fun(i:Nat)=>yA a i s) a.2.1.1.toNat)then((yad a s a.2.1.1.toNat).set (yN (fun(i:Nat)=>yA a i s) a.2.1.1.toNat).toNat (yqQ (yad a s a.2.1.1.toNat)),true) else(yad a s a.2.1.1.toNat,true)
theorem yP0 {a:dA} {s:Int} (h:(ybp a s).2=true):(ybp a s).1.length=a.2.1.1.toNat:=by
 unfold ybp at h ⊢;cases h1:yLM (fun(i:Nat)=>yA a i s) a.2.1.1.toNat
 ·cases leb 0 (yN (fun(i:Nat)=>yA a i s) a.2.1.1.toNat)
  ·exact yqO _ _ _
  ·simp only[cond_false,cond_true,List.length_set]; exact yqO _ _ _
 ·rw[h1]at h; cases h
theorem yTp (a:dA) (s:Int) (n:Nat) (h:leb 0 (yN (fun(i:Nat)=>yA a i s) n)=true):inb (yN (fun(i:Nat)=>yA a i s) n) (yad a s n).length=true∧ysr (yad a s n) (yN (fun(i:Nat)=>yA a i s) n)=yqQ (yad a s n):=by
 rcases yPV (fun(i:Nat)=>yA a i s) n with h1 | h1
 ·rw[h1]at h; cases h
 ·have h2:inb (yN (fun(i:Nat)=>yA a i s) n) (yad a s n).length=true:=by rw[yqO,zj6]; exact⟨h1.1,h1.2.1⟩
  refine⟨h2,yTn h2 ?_⟩;have h3:=ySz a s (show(yN (fun(i:Nat)=>yA a i s) n).toNat<n by omega);rw[show(((yN (fun(i:Nat)=>yA a i s) n).toNat:Nat):Int)=yN (fun(i:Nat)=>yA a i s) n by omega]at h3;rw[h3];unfold yB5
  have h4:yA a (yN (fun(i:Nat)=>yA a i s) n) s=false:=by
   have:=h1.2.2;have this:yA a ((yN (fun(i:Nat)=>yA a i s) n).toNat:Nat) s=false:=h1.2.2;rwa[show(((yN (fun(i:Nat)=>yA a i s) n).toNat:Nat):Int)=yN (fun(i:Nat)=>yA a i s) n by omega]at this
  rw[h4]; rfl
def yEF (a:dA) (s:Int):List Int×Bool:=bif(ybp a s).2 then((List.range (a.2.1.1-1).toNat).map (fun(i:Nat)=>nth (ybp a s).1 (ykM a.2.1 s i) 0),true)else([],false)
theorem yUo {x:Int} (h:isW x=true):(bv x).toNat<2^16:=by
 have:=yOo.1 h;unfold bv;rw[BitVec.toNat_ofInt];omega
theorem yUq {v:BitVec 64} (h:v.toNat<2^16):isW v.toInt=true:=by
 rw[BitVec.toInt_eq_toNat_of_lt (by omega)];exact yOo.2 (by omega)
theorem yUn: ∀(l:List Int),l.all isW=true→(yJ5 l).toNat<2^16:=by
 intro l h
 have: ∀(l:List Int) (v:BitVec 64),v.toNat<2^16→l.all isW=true→(l.foldl (fun v x=>v ^^^ bv x) v).toNat<2^16:=by
  intro l
  induction l with
  | nil=>intro v hv _; exact hv
  | cons x t ih =>
   intro v hv h;simp only[List.all_cons,Bool.and_eq_true]at h;refine ih _ ?_ h.2;rw[BitVec.toNat_xor];exact Nat.xor_lt_two_pow hv (yUo h.1)
 exact this l 0#64 (by decide) h
theorem yTH {l:List Int} (h:l.all isW=true):isW (yqQ l)=true:=by
 rw[yJ4]; exact yUq (yUn l h)
theorem yED {l:List Int}:l.all isW=true↔ ∀x∈l,isW x=true:=by simp
theorem ySI {l:List Int} {i:Int} (h:l.all isW=true):isW (nth l i 0)=true:=by
 unfold nth;rw[List.getD_eq_getElem?_getD];cases e:l[i.toNat]? with
 | none=>rfl
 | some x=>exact yED.1 h x (List.mem_of_getElem? e)
theorem ySM {l:List Int} {i:Nat} {x:Int} (h:l.all isW=true) (hx:isW x=true):(l.set i x).all isW=true:=by
 rw[yED]at h ⊢;intro y hy;rcases List.mem_or_eq_of_mem_set hy with h1 | rfl
 ·exact h y h1
 ·exact hx
theorem yS1 {m:dM} {n:Int} (h:(ysQ m n).2=true):yO (ysQ m n).1=true:=by
 unfold ysQ at h ⊢;cases hc:yEE m n
 ·rw[hc]at h; cases h
 ·simp only[yEE,Bool.and_eq_true]at hc
  obtain⟨h1,h2,h3,_,_,_⟩:=yak hc.1;refine yBT (P:=fun s=>yO s=true) ?_ fun w hw=> ?_
  ·exact ylX (P:=fun s=>yO s=true) hc.2.2.1 (fun x hx=>List.all_eq_true.1 h1 x hx)
  ·have:=List.all_eq_true.1 h2 w hw
   simp only[yqP,Bool.and_eq_true]at this;exact this.2
theorem yT3 (a:dA) (m s:Int):isW (yB5 a m s)=true:=by
 unfold yB5;cases h:yA a m s
 ·rfl
 ·simp only[yA,Bool.and_eq_true]at h
  have:=yS1 (m:=nth a.2.2.1 m yc) (n:=ybG s) h.2.1;simp only[yO,Bool.and_eq_true]at this;exact ySI this.2
theorem yzf (a:dA) (s:Int) (n:Nat):(yad a s n).all isW=true:=by
 rw[yED];unfold yad;intro x hx;obtain⟨i,_,rfl⟩:=List.mem_map.1 hx;exact yT3 a i s
theorem yTF (a:dA) (s:Int):(ybp a s).1.all isW=true:=by
 unfold ybp;cases yLM (fun(i:Nat)=>yA a i s) a.2.1.1.toNat
 ·cases leb 0 (yN (fun(i:Nat)=>yA a i s) a.2.1.1.toNat)
  ·exact yzf _ _ _
  ·exact ySM (yzf _ _ _) (yTH (yzf _ _ _))
 ·rfl
theorem yTa (a:dA) (s:Int):(yEF a s).1.all isW=true:=by
 unfold yEF;cases(ybp a s).2
 ·rfl
 ·rw[yED]
  intro x hx;obtain⟨i,_,rfl⟩:=List.mem_map.1 hx;exact ySI (yTF a s)
def ywI (a:dA) (m s:Int):dA:=bif yP a&&(inb m a.2.2.1.length&&ya0 a.2.1 s)then(a.1,a.2.1,a.2.2.1.set m.toNat (spoil (nth a.2.2.1 m yc) (ybG s)),a.2.2.2)else a
def yNB:Code:=(f195.body).getD .skip
def yN4:Env:=zkw TT [(82,yj),(150,yeQ)] []
theorem yFE:FrOk prog ⟨yN4,60,fun _=>none⟩ yNB:=zkA mixed yd ⟨ym,yi2,trivial⟩
abbrev yrQ:List Par:= [.rd tS]
abbrev ysb:List OT:= [⟨false,tB,.fz⟩]
def yyX (a0:dS):Option (zaY ysb×zak yrQ) :=let r1:=ye (a0.2.2.2.1,a0.2.2.2.2.1);bif(!(!r1))then let r2:=ya a0.1 1 60000;bif(!(!r2))then let r3:=ya a0.2.1 0 60000;bif(!(!r3))then let r4:=ya a0.2.2.1 0 (i64.wrap (a0.2.2.2.1-1));bif(!(!r4))then let r5:=ya a0.2.2.2.2.2.1 0 60000;bif(!r5)then some ((false,()),()) else let r6:=ya a0.2.2.2.2.2.2.1 (-1) (i64.wrap (a0.2.2.2.1-1));bif r6 then let r7:=ya a0.2.2.2.2.2.2.2 0 a0.2.2.2.2.1;bif r7 then bif(!(leb 0 a0.2.2.2.2.2.2.1))then some (((a0.2.2.2.2.2.2.2==0),()),()) else some ((true,()),()) else some ((false,()),()) else some ((false,()),()) else some ((false,()),()) else some ((false,()),()) else some ((false,()),()) else some ((false,()),())
theorem yJo:ConOk prog 195 ⟨yrQ,ysb,fun x=>yyX x.1⟩:=zkI (yFE) func195 ntmps195.symm fun x=>by kernel_rfl
def yaY (a0:dS):Bool :=let r1:=ye (a0.2.2.2.1,a0.2.2.2.2.1);bif(!(!r1))then let r2:=ya a0.1 1 60000;bif(!(!r2))then let r3:=ya a0.2.1 0 60000;bif(!(!r3))then let r4:=ya a0.2.2.1 0 (i64.wrap (a0.2.2.2.1-1));bif(!(!r4))then let r5:=ya a0.2.2.2.2.2.1 0 60000;bif(!r5)then false else let r6:=ya a0.2.2.2.2.2.2.1 (-1) (i64.wrap (a0.2.2.2.1-1));bif r6 then let r7:=ya a0.2.2.2.2.2.2.2 0 a0.2.2.2.2.1;bif r7 then bif(!(leb 0 a0.2.2.2.2.2.2.1))then (a0.2.2.2.2.2.2.2==0) else true else false else false else false else false else false else false
def yx3:Con:=⟨yrQ,ysb,fun x=>(fun n=>some ((n,()),())) (yaY x.1)⟩
theorem yL8 (a0:dS):yyX a0=(fun n=>some ((n,()),())) (yaY a0):=zkV (p:=fun(n:Bool)=>((n,()),())) (zkG (p:=fun(n:Bool)=>((n,()),())) (zkG (p:=fun(n:Bool)=>((n,()),())) (zkG (p:=fun(n:Bool)=>((n,()),())) (zkG (p:=fun(n:Bool)=>((n,()),())) (zkG (p:=fun(n:Bool)=>((n,()),())) rfl (zkG (p:=fun(n:Bool)=>((n,()),())) (zkG (p:=fun(n:Bool)=>((n,()),())) (zkG (p:=fun(n:Bool)=>((n,()),())) rfl rfl) rfl) rfl)) rfl) rfl) rfl) rfl)
theorem yM2:ConOk prog 195 yx3:=(yJo).mono (fun x r _ h=>(yL8 x.1).trans h)
theorem ySy {s:dS}:yaY s=true↔ye (s.2.2.2.1,s.2.2.2.2.1)=true∧(1≤s.1∧s.1≤60000)∧(0≤s.2.1∧s.2.1≤60000)∧(0≤s.2.2.1∧s.2.2.1≤s.2.2.2.1-1)∧(0≤s.2.2.2.2.2.1∧s.2.2.2.2.2.1≤60000)∧(-1≤s.2.2.2.2.2.2.1∧s.2.2.2.2.2.2.1≤s.2.2.2.1-1)∧(0≤s.2.2.2.2.2.2.2∧s.2.2.2.2.2.2.2≤s.2.2.2.2.1)∧(0≤s.2.2.2.2.2.2.1∨s.2.2.2.2.2.2.2=0):=by
 unfold yaY;cases hg:ye (s.2.2.2.1,s.2.2.2.2.1)
 ·simp
 have hg2:=yk.1 hg;simp only at hg2;rw[wq (s.2.2.2.1-1) (by omega) (by omega)];simp only[Bool.not_not,cond_true,true_and];simp only[← yqc];cases ya s.1 1 60000
 ·simp
 cases ya s.2.1 0 60000
 ·simp
 cases ya s.2.2.1 0 (s.2.2.2.1-1)
 ·simp
 cases ya s.2.2.2.2.2.1 0 60000
 ·simp
 cases ya s.2.2.2.2.2.2.1 (-1) (s.2.2.2.1-1)
 ·simp
 cases ya s.2.2.2.2.2.2.2 0 s.2.2.2.2.1
 ·simp
 cases hl:leb 0 s.2.2.2.2.2.2.1
 ·have:=mt zk2 (by rw[hl]; simp: ¬leb 0 s.2.2.2.2.2.2.1=true)
  simp[this]
 ·simp[zj7.1 hl]
def yKd:Code:=(f144.body).getD .skip
def yKB:Env:=zkw TT [(195,yx3)] []
theorem yDD:FrOk prog ⟨yKB,25,fun _=>none⟩ yKd:=zkA mixed yd ⟨yM2,trivial⟩
abbrev ypq:List Par:= [.rd tS]
abbrev ypJ:List OT:= [⟨false,tL,(.ow .fz)⟩]
def ywl (a0:dS):Option (zaY ypJ×zak ypq) :=let r1:=yaY a0;bif(!r1)then some ((([]:List Int),()),()) else some ((([21317,a0.1,a0.2.1,a0.2.2.1,a0.2.2.2.1,a0.2.2.2.2.1,a0.2.2.2.2.2.1,(i64.wrap (a0.2.2.2.2.2.2.1+1)),a0.2.2.2.2.2.2.2]:List Int),()),())
theorem yGs:ConOk prog 144 ⟨ypq,ypJ,fun x=>ywl x.1⟩:=zkI (yDD) func144 ntmps144.symm fun x=>by kernel_rfl
def yC (a0:dS):(List Int) :=let r1:=yaY a0;bif(!r1)then ([]:List Int) else ([21317,a0.1,a0.2.1,a0.2.2.1,a0.2.2.2.1,a0.2.2.2.2.1,a0.2.2.2.2.2.1,(i64.wrap (a0.2.2.2.2.2.2.1+1)),a0.2.2.2.2.2.2.2]:List Int)
def yml:Con:=⟨ypq,ypJ,fun x=>(fun n=>some ((n,()),())) (yC x.1)⟩
theorem yIZ (a0:dS):ywl a0=(fun n=>some ((n,()),())) (yC a0):=zkV (p:=fun(n:(List Int))=>((n,()),())) (zkG (p:=fun(n:(List Int))=>((n,()),())) rfl rfl)
theorem yyK:ConOk prog 144 yml:=(yGs).mono (fun x r _ h=>(yIZ x.1).trans h)
abbrev yi (a:dA):Bool:=a.2.2.2.2.2.2.2.2.2.2.1
def yRp (a:dA) (f:Int) (d:Bool):dA:=(a.1,a.2.1,a.2.2.1,a.2.2.2.1,a.2.2.2.2.1,a.2.2.2.2.2.1,a.2.2.2.2.2.2.1,a.2.2.2.2.2.2.2.1,a.2.2.2.2.2.2.2.2.1,f,d,a.2.2.2.2.2.2.2.2.2.2.2)
def yV (a:dA):Bool×dA:=bif yi a then(false,a)else bif a.2.2.2.2.2.2.2.2.2.1==0 then(false,yRp a (-1) true)else bif ltb 0 a.2.2.2.2.2.2.2.2.2.1 then(true,yRp a (i64.wrap (a.2.2.2.2.2.2.2.2.2.1-1)) (yi a))else(true,a)
def yh7 (a:dA) (m:Int) (x:dM):dA:=(a.1,a.2.1,a.2.2.1.set m.toNat x,a.2.2.2)
def ydi (a:dA) (m n:Int) (s:List Int):dA:=bif(nth a.2.2.1 m yc).2.2.1 then a else bif(yV a).1 then yh7 (yV a).2 m (yd9 (nth a.2.2.1 m yc) n s).1 else(yV a).2
def yy (a:dA) (i:Nat):dA:=bif(nth a.2.2.1 i yc).2.2.1 then a else bif(yV a).1 then yh7 (yV a).2 i (ydg (nth a.2.2.1 i yc))else(yV a).2
def yX (a:dA):dA:=(List.range a.2.2.1.length).foldl yy a
def yUE (a:dA) (i:Int):dS:=(a.1,a.2.2.2.2.2.2.2.1,i,a.2.1.1,a.2.1.2,a.2.2.2.2.2.2.1,a.2.2.2.1,a.2.2.2.2.1)
def yaj (a:dA) (i:Nat):dA:=ydi a i (a.2.2.2.2.2.2.2.1.tmod 2) (yC (yUE a i))
def yeM (a:dA):dA:=(a.1,a.2.1,a.2.2.1,a.2.2.2.1,a.2.2.2.2.1,a.2.2.2.2.2.1,a.2.2.2.2.2.2.1,i64.wrap (a.2.2.2.2.2.2.2.1+1),a.2.2.2.2.2.2.2.2)
def yaH (a:dA):dA:=yX ((List.range a.2.2.1.length).foldl yaj (yeM a))
theorem yan (a:dA):(yV a).2.2.2.1=a.2.2.1:=by
 unfold yV;cases yi a
 ·cases(a.2.2.2.2.2.2.2.2.2.1==0)
  ·cases ltb 0 a.2.2.2.2.2.2.2.2.2.1<;>rfl
  ·rfl
 ·rfl
theorem yPw {a:dA} (h:yi a=false):yi (yV a).2= !(yV a).1:=by
 unfold yV;rw[h];cases(a.2.2.2.2.2.2.2.2.2.1==0)
 ·cases ltb 0 a.2.2.2.2.2.2.2.2.2.1
  ·exact h
  ·rfl
 ·rfl
theorem ySK {a:dA} (h:yi a=true):yV a=(false,a):=by unfold yV; rw[h]; rfl
theorem ysz (a:dA) (m n:Int) (s:List Int):(ydi a m n s).2.2.1.length=a.2.2.1.length:=by
 unfold ydi;cases(nth a.2.2.1 m yc).2.2.1
 ·cases(yV a).1
  ·show(yV a).2.2.2.1.length=_; rw[yan]
  ·show((yV a).2.2.2.1.set m.toNat _).length=_; rw[List.length_set,yan]
 ·rfl
theorem yi7 (a:dA) (i:Nat):(yy a i).2.2.1.length=a.2.2.1.length:=by
 unfold yy;cases(nth a.2.2.1 i yc).2.2.1
 ·cases(yV a).1
  ·show(yV a).2.2.2.1.length=_; rw[yan]
  ·show((yV a).2.2.2.1.set _ _).length=_; rw[List.length_set,yan]
 ·rfl
theorem ysn {one:dA→Nat→dA} (h: ∀a i,(one a i).2.2.1.length=a.2.2.1.length): ∀(l:List Nat) (a:dA),(l.foldl one a).2.2.1.length=a.2.2.1.length
 | [],_=>rfl
 | x::l,a=>by rw[List.foldl_cons,ysn h l,h]
theorem yB2 (a:dA):(yX a).2.2.1.length=a.2.2.1.length:=ysn yi7 _ _
theorem yTU {a:dA} (h:yi a=true) (m n:Int) (s:List Int):ydi a m n s=a:=by
 unfold ydi;rw[ySK h];cases(nth a.2.2.1 m yc).2.2.1<;>rfl
theorem yEB {a:dA} (i:Nat) (h:yi a=true):yy a i=a:=by
 unfold yy;rw[ySK h];cases(nth a.2.2.1 i yc).2.2.1<;>rfl
theorem yDe {one:dA→Nat→dA} (hs: ∀a i,yi a=true→one a i=a): ∀(l:List Nat) (a:dA),yi a=true→l.foldl one a=a
 | [],_,_=>rfl
 | x::l,a,h=>by rw[List.foldl_cons,hs a x h]; exact yDe hs l a h
theorem yTy {a:dA} (h:yi a=true):yX a=a:=yDe (fun _ i h=>yEB i h) _ a h
theorem yTS {a:dA} (h:yi a=false) (m n:Int) (s:List Int):yi (ydi a m n s)=(!(nth a.2.2.1 m yc).2.2.1&& !(yV a).1):=by
 have:=yPw h;unfold ydi;cases(nth a.2.2.1 m yc).2.2.1
 ·cases ho:(yV a).1
  ·rw[ho]at this; exact this
  ·rw[ho]at this; exact this
 ·exact h
theorem ySc {a:dA} (h:yi a=false) (i:Nat):yi (yy a i)=(!(nth a.2.2.1 i yc).2.2.1&& !(yV a).1):=by
 have:=yPw h;unfold yy;cases(nth a.2.2.1 i yc).2.2.1
 ·cases ho:(yV a).1
  ·rw[ho]at this; exact this
  ·rw[ho]at this; exact this
 ·exact h
theorem yIe {one:dA→Nat→dA} (hs: ∀a i,yi a=true→one a i=a): ∀(k i:Nat) (s:dA),goE (fun i s=>bif yi (one s i)then(.inr (one s i):dA ⊕ dA)else .inl (one s i)) id k i s=(List.range' i k).foldl one s
 | 0,_,_=>rfl
 | k+1,i,s=>by
  rw[List.range'_succ,List.foldl_cons,goE];cases hd:yi (one s i)
  ·exact yIe hs k (i+1) (one s i)
  ·exact(yDe hs _ _ hd).symm
def ycu (a:dA) (m:Int):dA:=(a.1,a.2.1,a.2.2.1.set m.toNat (ysm (nth a.2.2.1 m yc)),m,0,a.2.2.2.2.2)
def ylQ (a:dA) (m:Int):dA:=(a.1,a.2.1,a.2.2.1.set m.toNat (ysm (nth a.2.2.1 m yc)),a.2.2.2.1,a.2.2.2.2.1,a.2.2.2.2.2.1,a.2.2.2.2.2.2.1,a.2.2.2.2.2.2.2.1,a.2.2.2.2.2.2.2.2.1,a.2.2.2.2.2.2.2.2.2.1,a.2.2.2.2.2.2.2.2.2.2.1,true)
def ylR (a:dA) (m:Int):dA:=bif a.2.2.2.1== -1||a.2.2.2.1==m then(bif !(yi a)&&(!a.2.2.2.2.2.2.2.2.2.2.2&&ltb a.2.2.2.2.2.2.2.1 60000)then yaH (ycu a m)else ycu a m)else ylQ a m
def ysl (a:dA) (m:Int):dA:=bif yP a&&(inb m a.2.2.1.length&& !(nth a.2.2.1 m yc).2.2.1)then ylR a m else a
theorem yTT {a:dA} {m n:Int} {s:List Int} (h:yaR a.2.2.1) (hm:inb m a.2.2.1.length=true):yaR (ydi a m n s).2.2.1:=by
 unfold ydi;cases(nth a.2.2.1 m yc).2.2.1
 ·cases(yV a).1
  ·show yaR (yV a).2.2.2.1; rw[yan]; exact h
  ·show yaR ((yV a).2.2.2.1.set m.toNat _); rw[yan]; exact ywF h (yJ3 _ _ (yEj h hm))
 ·exact h
theorem ySd {a:dA} {i:Nat} (h:yaR a.2.2.1) (hi:i<a.2.2.1.length):yaR (yy a i).2.2.1:=by
 unfold yy;cases(nth a.2.2.1 i yc).2.2.1
 ·cases(yV a).1
  ·show yaR (yV a).2.2.2.1; rw[yan]; exact h
  ·show yaR ((yV a).2.2.2.1.set _ _); rw[yan]; exact ywF h (yHr (yEj h (zkR hi)))
 ·exact h
theorem yDd {one:dA→Nat→dA} (hl: ∀a i,(one a i).2.2.1.length=a.2.2.1.length) (ho: ∀a i,yaR a.2.2.1→i<a.2.2.1.length→yaR (one a i).2.2.1): ∀(n:Nat) (a:dA),n≤a.2.2.1.length→yaR a.2.2.1→yaR ((List.range n).foldl one a).2.2.1
 | 0,_,_,h=>h
 | n+1,a,hn,h=>by
  rw[List.range_succ,List.foldl_append];exact ho _ _ (yDd hl ho n a (by omega) h) (by rw[ysn hl]; exact hn)
theorem yTx {a:dA} (h:yaR a.2.2.1):yaR (yX a).2.2.1:=yDd yi7 (fun _ _=>ySd) _ a (Nat.le_refl _) h
theorem yTm {a:dA} (h:yaR a.2.2.1):yaR (yaH a).2.2.1 :=yTx (yDd (one:=yaj) (fun _ _=>ysz _ _ _ _) (fun _ _ h hi=>yTT h (zkR hi)) _ (yeM a) (Nat.le_refl _) h)
theorem yIg (a:dA):(yaH a).2.2.1.length=a.2.2.1.length:=(yB2 _).trans (ysn (one:=yaj) (fun _ _=>ysz _ _ _ _) _ (yeM a))
theorem yBZ (a:dA):(yV a).2.2.2.2.2.2.2.2.2.1=a.2.2.2.2.2.2.2.2.1:=by
 unfold yV;cases yi a
 ·cases(a.2.2.2.2.2.2.2.2.2.1==0)
  ·cases ltb 0 a.2.2.2.2.2.2.2.2.2.1<;>rfl
  ·rfl
 ·rfl
theorem yTs (a:dA) (m n:Int) (s:List Int):(ydi a m n s).2.2.2.2.2.2.2.2.1=a.2.2.2.2.2.2.2.2.1:=by
 unfold ydi;cases(nth a.2.2.1 m yc).2.2.1
 ·cases(yV a).1
  ·exact yBZ a
  ·exact yBZ a
 ·rfl
theorem yRm (a:dA) (i:Nat):(yy a i).2.2.2.2.2.2.2.2.1=a.2.2.2.2.2.2.2.2.1:=by
 unfold yy;cases(nth a.2.2.1 i yc).2.2.1
 ·cases(yV a).1
  ·exact yBZ a
  ·exact yBZ a
 ·rfl
theorem yBG {one:dA→Nat→dA} (h: ∀a i,(one a i).2.2.2.2.2.2.2.2.1=a.2.2.2.2.2.2.2.2.1): ∀(l:List Nat) (a:dA),(l.foldl one a).2.2.2.2.2.2.2.2.1=a.2.2.2.2.2.2.2.2.1
 | [],_=>rfl
 | x::l,a=>by rw[List.foldl_cons,yBG h l,h]
theorem yB1 (a:dA):(yX a).2.2.2.2.2.2.2.2.1=a.2.2.2.2.2.2.2.2.1:=yBG yRm _ _
theorem yLL (a:dA):(yaH a).2.2.2.2.2.2.2.2.1=a.2.2.2.2.2.2.2.2.1:=(yB1 _).trans (yBG (one:=yaj) (fun _ _=>yTs _ _ _ _) _ (yeM a))
theorem yHn {a:dA} (h:yP a=true):a.2.2.1.length≤5:=by
 have h1:=yk.1 (ykJ h);have h2:=yC8 h;omega
theorem ySp {a:dA} {m:Int} (h:yaR a.2.2.1) (hm:inb m a.2.2.1.length=true):yaR (ycu a m).2.2.1∧(ycu a m).2.2.1.length=a.2.2.1.length:=⟨ywF h (ySG (yEj h hm)),List.length_set⟩
def yc9 (n:Int):dM:=bif leb 1 n&&leb n 20 then(List.replicate n.toNat [],[],false,[])else yc
theorem yPT {n:Int} (h1:1≤n) (h2:n≤20):yq (yc9 n)=true:=by
 unfold yc9;rw[zk2 h1,zk2 h2];refine ysq ?_ rfl rfl ?_ ?_ (Nat.zero_le _)
 ·show(List.replicate n.toNat ([]:List Int)).all yO=true
  rw[List.all_eq_true];intro x hx;rw[(List.mem_replicate.1 hx).2]; rfl
 ·show 1≤(List.replicate n.toNat ([]:List Int)).length; rw[List.length_replicate]; omega
 ·show(List.replicate n.toNat ([]:List Int)).length≤20; rw[List.length_replicate]; omega
def yk5 (a:dA):dA:=(a.1,a.2.1,a.2.2.1.set a.2.2.2.1.toNat (yc9 (6+a.2.1.2)),a.2.2.2.1,0,a.2.2.2.2.2)
theorem yTK {a:dA} (h:yP a=true): -1≤a.2.2.2.1∧a.2.2.2.1≤a.2.1.1-1:=by
 simp only[yP,Bool.and_eq_true,zj7]at h;exact h.2.2.2.2.1
def yqN (a:dA):dA:=(a.1,a.2.1,a.2.2.1,a.2.2.2.1,a.2.2.2.2.1,a.2.2.2.2.2.1,a.2.2.2.2.2.1,a.2.2.2.2.2.2.2)
def yct (a:dA):dA:=bif yi (yX a)then yX a else yaH (yqN (yX a))
theorem yS8 (a:dA):(yct a).2.2.1.length=a.2.2.1.length:=by
 unfold yct;cases yi (yX a)
 ·exact(yIg (yqN (yX a))).trans (yB2 a)
 ·exact yB2 a
theorem ySn (a:dA):(yct a).2.2.2.2.2.2.2.2.1=a.2.2.2.2.2.2.2.2.1:=by
 unfold yct;cases yi (yX a)
 ·exact(yLL (yqN (yX a))).trans (yB1 a)
 ·exact yB1 a
def yUs (id:Int) (g:dG) (i:Int):dS:=(id,0,i,g.1,g.2,0,-1,0)
def yBg (m:dM) (s:Nat):dM:=(m.1.set (s+6) [0],m.2)
def ytN (id:Int) (g:dG) (i:Int):dM:=((yc9 (6+g.2)).1.set 0 (yC (yUs id g i)),(yc9 (6+g.2)).2)
def yz (id:Int) (g:dG) (i:Int):dM:=(List.range g.2.toNat).foldl yBg (ytN id g i)
def yxD (a:dA) (m:dM):dA:=(a.1,a.2.1,a.2.2.1++ [m],a.2.2.2)
def yxE (id:Int) (g:dG):dA:=(id,g,[],-1,0,0,0,0,[],-1,false,false)
def ysY (id:Int) (g:dG):dA:=bif ye g&&(leb 1 id&&leb id 60000)then(List.range g.1.toNat).foldl (fun a (i:Nat)=>yxD a (yz id g i)) (yxE id g)else ycX
theorem ySu (l:List Nat) (m:dM):(l.foldl yBg m).1.length=m.1.length:=by
 induction l generalizing m with
 | nil=>rfl
 | cons x t ih=>rw[List.foldl_cons,ih]; show(m.1.set _ _).length=_; rw[List.length_set]
def yw (a:dA):Int×(Int×Int)×Int×Int×Int×Int×Int×List dW×Bool:=(a.1,a.2.1,a.2.2.2.1,a.2.2.2.2.1,a.2.2.2.2.2.1,a.2.2.2.2.2.2.1,a.2.2.2.2.2.2.2.1,a.2.2.2.2.2.2.2.2.1,a.2.2.2.2.2.2.2.2.2.2.2)
theorem yBq (a:dA):yw (yV a).2=yw a:=by
 unfold yV;cases yi a
 ·cases(a.2.2.2.2.2.2.2.2.2.1==0)
  ·cases ltb 0 a.2.2.2.2.2.2.2.2.2.1<;>rfl
  ·rfl
 ·rfl
theorem yyN (a:dA) (m n:Int) (s:List Int):yw (ydi a m n s)=yw a:=by
 unfold ydi;cases(nth a.2.2.1 m yc).2.2.1
 ·cases(yV a).1
  ·exact yBq a
  ·exact yBq a
 ·rfl
theorem ySb (a:dA) (i:Nat):yw (yy a i)=yw a:=by
 unfold yy;cases(nth a.2.2.1 i yc).2.2.1
 ·cases(yV a).1
  ·exact yBq a
  ·exact yBq a
 ·rfl
theorem ytq {one:dA→Nat→dA} (h: ∀a i,yw (one a i)=yw a): ∀(l:List Nat) (a:dA),yw (l.foldl one a)=yw a
 | [],_=>rfl
 | x::l,a=>by rw[List.foldl_cons,ytq h l,h]
theorem yoJ (a:dA):yw (yX a)=yw a:=ytq ySb _ _
theorem ytF (a:dA):yw (yaH a)=yw (yeM a):=(yoJ _).trans (ytq (one:=yaj) (fun _ _=>yyN _ _ _ _) _ _)
theorem yit {a b:dA} (h:yw a=yw b):a.2.1=b.2.1:=congrArg (fun x=>x.2.1) h
theorem ySS {a b:dA} (h:yw a=yw b):a.2.2.2.2.1=b.2.2.2.2.1:=congrArg (fun x=>x.2.2.2.1) h
theorem yKY {a b:dA} (h:yw a=yw b):a.2.2.2.2.2.2.2.2.1=b.2.2.2.2.2.2.2.2.1:=congrArg (fun x=>x.2.2.2.2.2.2.2.1) h
def yHa (d:List dW) (x:dA):Prop:=x.2.2.1.length≤5∧yaR x.2.2.1∧x.2.2.2.2.2.2.2.2.1=d
theorem yIK {a:dA} (h:yP a=true):yHa a.2.2.2.2.2.2.2.2.1 a:=⟨yHn h,ySR h,rfl⟩
theorem yTq {d:List dW} {a:dA} (h:yHa d a):yHa d (yaH a):=⟨by rw[yIg]; exact h.1,yTm h.2.1,(yLL _).trans h.2.2⟩
def yTw (b:dA):dA:=(b.1,b.2.1,b.2.2.1,b.2.2.2.1,i64.wrap (b.2.2.2.2.1+1),b.2.2.2.2.2)
def yfN (a:dA):dA:=ydi a a.2.2.2.1 (ybG a.2.2.2.2.1) [nth (ybp a a.2.2.2.2.1).1 a.2.2.2.1 0]
def yBz (a:dA):Int×dA:=bif(ybp a a.2.2.2.2.1).2 then(bif yi (yfN a)then(6,yfN a)else(0,yTw (yfN a)))else(5,a)
def yyz (lost:Int) (br:Bool) (S:Int) (i:Nat) (m:dM):Prop:=yq m=true∧(m.1.length:Int)=6+S∧(m.2.2.1=true→(i:Int)=lost∨br=true)
def yEJ (lost:Int) (br:Bool) (S:Int) (l:List dM):Prop:= ∀i,i<l.length→yyz lost br S i (nth l i yc)
theorem yDN {lost S:Int} {br:Bool} {l:List dM} {i:Nat} {x:dM} (h:yEJ lost br S l) (hx:i<l.length→yyz lost br S i x):yEJ lost br S (l.set i x):=fun j hj=>by
 rw[List.length_set]at hj;by_cases e:j=i
 ·subst e
  rw[zkS,zkJ (by rw[List.length_set]; exact hj),List.getElem_set_self]; exact hx hj
 ·have:=h j hj
  rw[zkS,zkJ hj]at this;rw[zkS,zkJ (by rw[List.length_set]; exact hj),List.getElem_set_ne (fun e'=>e e'.symm)]; exact this
theorem ySZ {a:dA}:yiS a=true↔yEJ a.2.2.2.1 a.2.2.2.2.2.2.2.2.2.2.2 a.2.1.2 a.2.2.1∧(a.2.2.1.length:Int)=a.2.1.1:=by
 constructor
 ·intro h
  refine⟨fun i hi=>yPU h hi,?_⟩;simp only[yiS,Bool.and_eq_true,beq_iff_eq]at h; exact h.2
 ·rintro⟨h1,h2⟩
  simp only[yiS,Bool.and_eq_true,beq_iff_eq,Bool.not_eq_true',List.any_eq_false,List.mem_range];refine⟨fun i hi=> ?_,h2⟩;obtain⟨g1,g2,g3⟩:=h1 i hi;unfold yfp;rw[g1,show(((nth a.2.2.1 i yc).1.length:Int) !=6+a.2.1.2)=false from bne_eq_false_iff_eq.2 g2];cases hf:(nth a.2.2.1 i yc).2.2.1
  ·simp
  ·rcases g3 hf with e | e
   ·rw[show((i:Int) !=a.2.2.2.1)=false from bne_eq_false_iff_eq.2 e]; simp
   ·rw[e]; simp
def fuz (a:dA):Int:=a.2.2.2.2.2.2.2.2.2.1
def yaV (a:dA):Prop:=(yEJ a.2.2.2.1 a.2.2.2.2.2.2.2.2.2.2.2 a.2.1.2 a.2.2.1∧(a.2.2.1.length:Int)=a.2.1.1)∧ -1≤fuz a∧fuz a≤1000
def ydJ (a:dA):Prop:=ye a.2.1=true∧(1≤a.1∧a.1≤60000)∧yaB a.2.1 a.2.2.2.2.2.2.2.2.1=true∧(-1≤a.2.2.2.1∧a.2.2.2.1≤a.2.1.1-1)∧(0≤a.2.2.2.2.1∧a.2.2.2.2.1≤a.2.1.2)∧(a.2.2.2.1= -1→a.2.2.2.2.1=0) ∧ (0≤a.2.2.2.2.2.2.1∧a.2.2.2.2.2.2.1≤60000)∧(a.2.2.2.2.2.2.1≤a.2.2.2.2.2.1∧a.2.2.2.2.2.1≤60000)∧a.2.2.2.2.2.1≤a.2.2.2.2.2.2.1+4∧0≤a.2.2.2.2.2.2.2.1∧a.2.2.2.2.2.2.2.1≤60000
theorem ySB {a:dA}:yP a=true↔ydJ a∧yaV a:=by
 unfold yP ydJ yaV fuz;simp only[Bool.and_eq_true,zj7,ySZ,Bool.not_eq_true',Bool.and_eq_false_iff,beq_eq_false_iff_ne,bne_eq_false_iff_eq];constructor
 ·rintro⟨h1,h2,h3,h4,h5,h6,h7,h8,h9,h10,h11,h12⟩
  exact⟨⟨h1,h2,h4,h5,h6,fun e=>h7.resolve_left (fun g=>g e),h8,h9,h10,h11.1,h11.2⟩,h3,h12⟩
 ·rintro⟨⟨h1,h2,h4,h5,h6,h7,h8,h9,h10,h11,h11'⟩,h3,h12⟩
  exact⟨h1,h2,h3,h4,h5,h6,(Decidable.em (a.2.2.2.1= -1)).elim (fun e=> .inr (h7 e)) (fun e=> .inl e),h8,h9,h10,⟨h11,h11'⟩,h12⟩
theorem yT9 {a b:dA} (h:yw b=yw a) (ha:ydJ a):ydJ b:=by
 unfold yw at h;simp only[Prod.mk.injEq]at h;obtain⟨h1,h2,h3,h4,h5,h6,h7,h8,h9⟩:=h;unfold ydJ at *;rw[h1,h2,h3,h4,h5,h6,h7,h8]; exact ha
theorem yUd {a b:dA} (h:yw b=yw a) (hl:b.2.2.1.length=a.2.2.1.length) (hm:yEJ a.2.2.2.1 a.2.2.2.2.2.2.2.2.2.2.2 a.2.1.2 b.2.2.1) (hn:(a.2.2.1.length:Int)=a.2.1.1) (hf: -1≤fuz b∧fuz b≤1000):yaV b:=by
 unfold yw at h;simp only[Prod.mk.injEq]at h;obtain⟨h1,h2,h3,h4,h5,h6,h7,h8,h9⟩:=h;unfold yaV;rw[h2,h3,h9,hl]; exact⟨⟨hm,hn⟩,hf⟩
theorem yUt {a:dA} (h: -1≤fuz a∧fuz a≤1000): -1≤fuz (yV a).2∧fuz (yV a).2≤1000:=by
 unfold yV;cases yi a
 ·cases h0:(a.2.2.2.2.2.2.2.2.2.1==0)
  ·cases h1:ltb 0 a.2.2.2.2.2.2.2.2.2.1
   ·exact h
   ·have:=zka.1 h1
    unfold fuz at h;show -1≤i64.wrap (a.2.2.2.2.2.2.2.2.2.1-1)∧i64.wrap (a.2.2.2.2.2.2.2.2.2.1-1)≤1000;rw[wr (by omega) (by omega)]; omega
  ·show -1≤(-1:Int)∧(-1:Int)≤1000; omega
 ·exact h
theorem yEI {a:dA} (h:yaV a):yaV (yV a).2:=yUd (yBq a) (by rw[yan]) (by rw[yan]; exact h.1.1) h.1.2 (yUt h.2)
theorem yAH {a:dA} {m:Int} {x:dM} (h:yaV a) (hm:inb m a.2.2.1.length=true) (hx:yyz a.2.2.2.1 a.2.2.2.2.2.2.2.2.2.2.2 a.2.1.2 m.toNat (nth a.2.2.1 m yc)→yyz a.2.2.2.1 a.2.2.2.2.2.2.2.2.2.2.2 a.2.1.2 m.toNat x):yaV (yh7 a m x):=by
 have hm:=zj6.1 hm;refine⟨⟨yDN h.1.1 (fun hi=>hx ?_),by show((a.2.2.1.set m.toNat x).length:Int)=_; rw[List.length_set]; exact h.1.2⟩,h.2⟩;have:=h.1.1 m.toNat hi;rwa[Int.toNat_of_nonneg hm.1]at this
theorem ySY {lost S:Int} {br:Bool} {i:Nat} {m:dM} (n:Int) (s:List Int) (h:yyz lost br S i m):yyz lost br S i (yd9 m n s).1 :=
 ⟨yJ3 n s h.1,by rw[(yP1 m n s).1]; exact h.2.1,by rw[(yP1 m n s).2]; exact h.2.2⟩
theorem ySX {lost S:Int} {br:Bool} {i:Nat} {m:dM} (h:yyz lost br S i m):yyz lost br S i (ydg m) :=
 ⟨yHr h.1,by rw[(yPO m).1]; exact h.2.1,by rw[(yPO m).2]; exact h.2.2⟩
theorem yBL {a:dA} {m n:Int} {s:List Int} (h:yaV a) (hm:inb m a.2.2.1.length=true):yaV (ydi a m n s):=by
 unfold ydi;cases(nth a.2.2.1 m yc).2.2.1
 ·cases(yV a).1
  ·exact yEI h
  ·exact yAH (yEI h) (by rw[yan]; exact hm) (fun g=>by rw[yan]at g; exact ySY _ _ g)
 ·exact h
theorem yRZ {a:dA} {i:Nat} (h:yaV a) (hi:i<a.2.2.1.length):yaV (yy a i):=by
 unfold yy;cases(nth a.2.2.1 i yc).2.2.1
 ·cases(yV a).1
  ·exact yEI h
  ·exact yAH (yEI h) (by rw[yan]; exact zkR hi) (fun g=>by rw[yan]at g; exact ySX g)
 ·exact h
theorem yiu {P:dA→Prop} {one:dA→Nat→dA} (hl: ∀a i,(one a i).2.2.1.length=a.2.2.1.length) (ho: ∀a i,P a→i<a.2.2.1.length→P (one a i)): ∀(n:Nat) (a:dA),n≤a.2.2.1.length→P a→P ((List.range n).foldl one a)
 | 0,_,_,h=>h
 | n+1,a,hn,h=>by
  rw[List.range_succ,List.foldl_append];exact ho _ _ (yiu hl ho n a (by omega) h) (by rw[ysn hl]; exact hn)
theorem yDM {a:dA} (h:yaV a):yaV (yX a):=yiu (P:=yaV) (one:=yy) yi7 (fun _ _=>yRZ) _ a (Nat.le_refl _) h
theorem yTl {a:dA} (h:yaV a):yaV (yaH a) :=yDM (yiu (P:=yaV) (one:=yaj) (fun _ _=>ysz _ _ _ _) (fun _ _ h hi=>yBL h (zkR hi)) _ (yeM a) (Nat.le_refl _) h)
def ygU (a:dA):Prop:=yi a=false∧fuz a= -1
theorem ySJ {a:dA} (h:ygU a):yV a=(true,a):=by
 unfold yV;rw[h.1,show a.2.2.2.2.2.2.2.2.2.1= -1 from h.2]; rfl
theorem yBK {a:dA} (h:ygU a) (m n:Int) (s:List Int):ygU (ydi a m n s):=by
 unfold ydi;rw[ySJ h];cases(nth a.2.2.1 m yc).2.2.1<;>exact h
theorem yRY {a:dA} (h:ygU a) (i:Nat):ygU (yy a i):=by
 unfold yy;rw[ySJ h];cases(nth a.2.2.1 i yc).2.2.1<;>exact h
theorem yz3 {a:dA} (h:ygU a):ygU (yX a):=yiu (P:=ygU) (one:=yy) yi7 (fun _ i h _=>yRY h i) _ a (Nat.le_refl _) h
theorem yTj {a:dA} (h:ygU a):ygU (yaH a) :=yz3 (yiu (P:=ygU) (one:=yaj) (fun _ _=>ysz _ _ _ _) (fun _ _ h _=>yBK h _ _ _) _ (yeM a) (Nat.le_refl _) h)
theorem yKX {a:dA} (h:ygU a):yct a=yaH (yqN (yX a)):=by
 unfold yct;rw[(yz3 h).1]; rfl
def Wk (k:Int) (a:dA):Prop:=ydJ a∧yaV a∧ygU a∧a.2.2.2.2.2.2.2.2.2.2.2=false∧a.2.2.2.2.2.2.2.1≤k
theorem yTB {k:Int} {a:dA} (h:Wk k a):yP a=true:=ySB.2 ⟨h.1,h.2.1⟩
theorem ycR {k j:Int} {a:dA} (h:Wk k a) (hj:k≤j):Wk j a:=⟨h.1,h.2.1,h.2.2.1,h.2.2.2.1,Int.le_trans h.2.2.2.2 hj⟩
theorem ywJ {k:Int} {a b:dA} (hc:yw b=yw a) (hk:yaV b) (hf:ygU b) (h:Wk k a):Wk k b:=by
 refine⟨yT9 hc h.1,hk,hf,?_⟩;unfold yw at hc;simp only[Prod.mk.injEq]at hc;obtain⟨_,_,_,_,_,_,h7,_,h9⟩:=hc;rw[h7,h9]; exact h.2.2.2
theorem yUA {k:Int} {a:dA} {m n:Int} {s:List Int} (h:Wk k a) (hm:inb m a.2.2.1.length=true):Wk k (ydi a m n s):=ywJ (yyN _ _ _ _) (yBL h.2.1 hm) (yBK h.2.2.1 _ _ _) h
theorem yUm {k:Int} {a:dA} (h:Wk k a):Wk k (yX a):=ywJ (yoJ _) (yDM h.2.1) (yz3 h.2.2.1) h
theorem yTY {k:Int} {a:dA} (h:Wk k a) (hk:k+1≤60000):Wk (k+1) (yeM a):=by
 obtain⟨⟨c1,c2,c3,c4,c5,c6,c7,c8,c9,c10,c11⟩,h2,h3,h4,h5⟩:=h;have e:i64.wrap (a.2.2.2.2.2.2.2.1+1)=a.2.2.2.2.2.2.2.1+1:=wr (by omega) (by omega);refine⟨⟨c1,c2,c3,c4,c5,c6,c7,c8,c9,?_,?_⟩,h2,h3,h4,?_⟩
 ·show 0≤i64.wrap (a.2.2.2.2.2.2.2.1+1); omega
 ·show i64.wrap (a.2.2.2.2.2.2.2.1+1)≤_; omega
 ·show i64.wrap (a.2.2.2.2.2.2.2.1+1)≤_; omega
theorem yPE {k:Int} {a:dA} (h:Wk k a) (hk:k+1≤60000):Wk (k+1) (yaH a):=ywJ (ytF _) (yTl h.2.1) (yTj h.2.2.1) (yTY h hk)
theorem yTD {k:Int} {a:dA} (h:Wk k a):Wk k (yqN a):=by
 obtain⟨⟨c1,c2,c3,c4,c5,c6,c7,c8,c9,c10,c11⟩,h2,h3,h4,h5⟩:=h;refine⟨⟨c1,c2,c3,c4,c5,c6,⟨?_,?_⟩,⟨Int.le_refl _,c8.2⟩,?_,c10,c11⟩,h2,h3,h4,h5⟩
 ·show 0≤a.2.2.2.2.2.1; omega
 ·show a.2.2.2.2.2.1≤60000; omega
 ·show a.2.2.2.2.2.1≤a.2.2.2.2.2.1+4; omega
theorem ySg {k:Int} {a:dA} (h:Wk k a) (hk:k+1≤60000):Wk (k+1) (yct a):=by
 rw[yKX h.2.2.1]; exact yPE (yTD (yUm h)) hk
theorem yTC {k:Int} {a:dA} {m:Int} {x:dM} (h:Wk k a) (hm:inb m a.2.2.1.length=true) (hx:yyz a.2.2.2.1 a.2.2.2.2.2.2.2.2.2.2.2 a.2.1.2 m.toNat (nth a.2.2.1 m yc)→yyz a.2.2.2.1 a.2.2.2.2.2.2.2.2.2.2.2 a.2.1.2 m.toNat x):Wk k (yh7 a m x) :=ywJ (a:=a) (b:=yh7 a m x) rfl (yAH h.2.1 hm hx) h.2.2.1 h
theorem yUk {k m:Int} {a:dA} (h:Wk k a) (hl:a.2.2.2.1= -1) (hm:inb m a.2.2.1.length=true) (hk:k+1≤60000):Wk (k+1) (ylR a m):=by
 have hmi:=zj6.1 hm
 have hw:Wk k (ycu a m):=by
  obtain⟨⟨c1,c2,c3,c4,c5,c6,c7,c8,c9,c10,c11⟩,⟨⟨g1,g2⟩,g3⟩,f,b,t⟩:=h;refine⟨⟨c1,c2,c3,⟨?_,?_⟩,⟨Int.le_refl _,by show(0:Int)≤a.2.1.2; omega⟩,fun e=>rfl,c7,c8,c9,c10,c11⟩,⟨⟨?_,?_⟩,g3⟩,f,b,t⟩
  ·show -1≤m; omega
  ·show m≤a.2.1.1-1; omega
  ·show yEJ m a.2.2.2.2.2.2.2.2.2.2.2 a.2.1.2 (a.2.2.1.set m.toNat (ysm (nth a.2.2.1 m yc)))
   refine yDN (fun i hi=> ?_) (fun hi=> ?_)
   ·obtain⟨e1,e2,e3⟩:=g1 i hi
    refine⟨e1,e2,fun e=> ?_⟩;rcases e3 e with e | e
    ·omega
    ·exact .inr e
   ·have:=g1 m.toNat hi
    rw[Int.toNat_of_nonneg hmi.1]at this;exact⟨ySG this.1,this.2.1,fun _=> .inl (Int.toNat_of_nonneg hmi.1)⟩
  ·show((a.2.2.1.set m.toNat (ysm (nth a.2.2.1 m yc))).length:Int)=a.2.1.1
   rw[List.length_set]; exact g2
 unfold ylR;rw[show(a.2.2.2.1== -1)=true from beq_iff_eq.2 hl,h.2.2.1.1,h.2.2.2.1];cases ltb a.2.2.2.2.2.2.2.1 60000
 ·exact ycR hw (by omega)
 ·exact yPE hw hk
theorem yT0 {k:Int} {a:dA} (h:Wk k a) (hl:inb a.2.2.2.1 a.2.2.1.length=true) (hk:k+1≤60000):Wk (k+1) (yaH (yk5 a)):=by
 have hmi:=zj6.1 hl;refine yPE ?_ hk;obtain⟨⟨c1,c2,c3,c4,c5,c6,c7,c8,c9,c10,c11⟩,⟨⟨g1,g2⟩,g3⟩,f,b,t⟩:=h;have hg:=yk.1 c1;refine⟨⟨c1,c2,c3,c4,⟨Int.le_refl _,by show(0:Int)≤a.2.1.2; omega⟩,fun e=>rfl,c7,c8,c9,c10,c11⟩,⟨⟨yDN g1 (fun hi=>⟨yPT (by omega) (by omega),?_,fun e=> ?_⟩),?_⟩,g3⟩,f,b,t⟩
 ·unfold yc9
  rw[zk2 (show 1≤6+a.2.1.2 by omega),zk2 (show 6+a.2.1.2≤20 by omega)];show((List.replicate (6+a.2.1.2).toNat ([]:List Int)).length:Int)=6+a.2.1.2;rw[List.length_replicate]; omega
 ·unfold yc9 at e
  rw[zk2 (show 1≤6+a.2.1.2 by omega),zk2 (show 6+a.2.1.2≤20 by omega)]at e;cases e
 ·show((a.2.2.1.set a.2.2.2.1.toNat (yc9 (6+a.2.1.2))).length:Int)=a.2.1.1
  rw[List.length_set]; exact g2
theorem yUl {k:Int} {a:dA} (h:Wk k a) (hl:inb a.2.2.2.1 a.2.2.1.length=true) (hb:a.2.2.2.2.1<a.2.1.2):Wk k (yBz a).2:=by
 have hp:Wk k (yfN a):=yUA h hl;have e:=yyN a a.2.2.2.1 (ybG a.2.2.2.2.1) [nth (ybp a a.2.2.2.2.1).1 a.2.2.2.1 0];have e1:(yfN a).2.2.2.2.1=a.2.2.2.2.1:=ySS e;have e2:(yfN a).2.1=a.2.1:=yit e;have e3:(yfN a).2.2.2.1=a.2.2.2.1:=congrArg (fun x=>x.2.2.1) e;unfold yBz;cases(ybp a a.2.2.2.2.1).2
 ·exact h
 ·generalize yfN a=R at hp e1 e2 e3 ⊢
  rw[hp.2.2.1.1];have hmi:=zj6.1 hl;obtain⟨⟨c1,c2,c3,c4,c5,c6,c7,c8,c9,c10,c11⟩,g2,g3,g4,g5⟩:=hp;have hg:=yk.1 c1;have e4:i64.wrap (R.2.2.2.2.1+1)=R.2.2.2.2.1+1:=wr (by omega) (by omega);refine⟨⟨c1,c2,c3,c4,⟨?_,?_⟩,fun e=> ?_,c7,c8,c9,c10,c11⟩,g2,g3,g4,g5⟩
  ·show 0≤i64.wrap (R.2.2.2.2.1+1); omega
  ·show i64.wrap (R.2.2.2.2.1+1)≤R.2.1.2; rw[e4,e1,e2]; omega
  ·have:R.2.2.2.1= -1:=e
   omega
def yg2 (a:dA):Prop:=a.2.2.1.length≤1000000000∧(∀m∈a.2.2.1,m.1.length≤1000000000∧m.2.1.length≤1000000000)∧a.2.2.2.2.2.2.2.2.1.length≤1000000000
theorem yIf {d:List dW} {a:dA} (h:yHa d a) (hd:d.length≤1000000000):yg2 a:=by
 refine⟨by have:=h.1; omega,fun m hm=> ?_,by rw[h.2.2]; exact hd⟩;obtain⟨_,_,_,_,h5,h6⟩:=yak (h.2.1 m hm);omega
theorem yS9 {a b:dA} (h:yw a=yw b):a.2.2.2.1=b.2.2.2.1:=congrArg (fun x=>x.2.2.1) h
theorem yR8 (s:dS):yO (yC s)=true:=by
 unfold yC;cases h:yaY s
 ·rfl
 ·unfold yaY at h
  simp only[ycf]at h;cases hg:ye (s.2.2.2.1,s.2.2.2.2.1)
  ·rw[hg]at h; cases h
  have hge:=yk.1 hg;simp only at hge;rw[hg,wq (s.2.2.2.1-1) (by omega) (by omega)]at h;cases h2:(leb 1 s.1&&leb s.1 60000)
  ·rw[h2]at h; cases h
  cases h3:(leb 0 s.2.1&&leb s.2.1 60000)
  ·rw[h2,h3]at h; cases h
  cases h4:(leb 0 s.2.2.1&&leb s.2.2.1 (s.2.2.2.1-1))
  ·rw[h2,h3,h4]at h; cases h
  cases h5:(leb 0 s.2.2.2.2.2.1&&leb s.2.2.2.2.2.1 60000)
  ·rw[h2,h3,h4,h5]at h; cases h
  cases h6:(leb (-1) s.2.2.2.2.2.2.1&&leb s.2.2.2.2.2.2.1 (s.2.2.2.1-1))
  ·rw[h2,h3,h4,h5,h6]at h; cases h
  cases h7:(leb 0 s.2.2.2.2.2.2.2&&leb s.2.2.2.2.2.2.2 s.2.2.2.2.1)
  ·rw[h2,h3,h4,h5,h6,h7]at h; cases h
  simp only[Bool.and_eq_true,zj7]at h2 h3 h4 h5 h6 h7;rw[yTv];refine⟨by show(9:Nat)≤12; omega,?_⟩;have hw:i64.wrap (s.2.2.2.2.2.2.1+1)=s.2.2.2.2.2.2.1+1:=wr (by omega) (by omega);simp only[Bool.not_true,cond_false,hw,List.mem_cons,List.not_mem_nil,or_false]
  rintro x (rfl | rfl | rfl | rfl | rfl | rfl | rfl | rfl | rfl)<;>omega
theorem yS0 {g:dG} (id i:Int) (hg:ye g=true):yq (yz id g i)=true∧((yz id g i).1.length:Int)=6+g.2∧(yz id g i).2=([],false,[]):=by
 have hge:=yk.1 hg
 have hm:yc9 (6+g.2)=(List.replicate (6+g.2).toNat [],[],false,[]):=by
  unfold yc9;rw[zk2 (show 1≤6+g.2 by omega),zk2 (show 6+g.2≤20 by omega)]; rfl
 have key: ∀(l:List Nat) (m:dM),m.1.all yO=true∧m.2=([],false,[])→(l.foldl yBg m).1.all yO=true∧(l.foldl yBg m).2=([],false,[]):=by
  intro l
  induction l with
  | nil=>intro m h; exact h
  | cons x t ih =>
   intro m h;refine ih _ ⟨?_,h.2⟩;rw[List.all_eq_true];intro y hy;rcases List.mem_or_eq_of_mem_set hy with h1 | rfl
   ·exact List.all_eq_true.1 h.1 y h1
   ·rfl
 have ht:(ytN id g i).1.all yO=true∧(ytN id g i).2=([],false,[]):=by
  unfold ytN;rw[hm];refine⟨?_,rfl⟩;rw[List.all_eq_true];intro y hy;rcases List.mem_or_eq_of_mem_set hy with h1 | rfl
  ·rw[List.eq_of_mem_replicate h1]; rfl
  ·exact yR8 _
 have hl:((yz id g i).1.length:Int)=6+g.2:=by
  unfold yz;rw[ySu];unfold ytN;rw[hm];show(((List.replicate (6+g.2).toNat ([]:List Int)).set 0 _).length:Int)=_;rw[List.length_set,List.length_replicate]; omega
 obtain⟨h1,h2⟩:=key (List.range g.2.toNat) _ ht;refine⟨ysq h1 ?_ ?_ ?_ ?_ ?_,hl,h2⟩
 ·show List.all ((yz id g i).2).1 _=true
  rw[show(yz id g i).2=([],false,[])from h2]; rfl
 ·show ylJ _ ((yz id g i).2).2.2=true
  rw[show(yz id g i).2=([],false,[])from h2,yh9];exact⟨fun x hx=>absurd hx List.not_mem_nil,List.Pairwise.nil⟩
 ·show 1≤(yz id g i).1.length; omega
 ·show(yz id g i).1.length≤20; omega
 ·show((yz id g i).2).1.length≤60
  rw[show(yz id g i).2=([],false,[])from h2]; exact Nat.zero_le _
theorem yS6 {id:Int} {g:dG} (hg:ye g=true) (h1:1≤id) (h2:id≤60000):ysY id g=(id,g,(List.range g.1.toNat).map (fun(i:Nat)=>yz id g i),-1,0,0,0,0,[],-1,false,false):=by
 unfold ysY;rw[hg,zk2 h1,zk2 h2]
 have: ∀(n:Nat),(List.range n).foldl (fun a (i:Nat)=>yxD a (yz id g i)) (yxE id g)=(id,g,(List.range n).map (fun(i:Nat)=>yz id g i),-1,0,0,0,0,[],-1,false,false):=by
  intro n
  induction n with
  | zero=>rfl
  | succ n ih=>rw[List.range_succ,List.foldl_append,ih,List.map_append]; rfl
 exact this _
theorem yUz {id:Int} {g:dG} (hg:ye g=true) (h1:1≤id) (h2:id≤60000):Wk 0 (ysY id g):=by
 have hge:=yk.1 hg;rw[yS6 hg h1 h2];have hl:((List.range g.1.toNat).map (fun(i:Nat)=>yz id g i)).length=g.1.toNat:=by rw[List.length_map,List.length_range]
 refine⟨⟨hg,⟨h1,h2⟩,?_,⟨Int.le_refl _,?_⟩,⟨Int.le_refl _,?_⟩,fun _=>rfl,?_,?_,?_,?_,?_⟩,⟨⟨fun i hi=> ?_,?_⟩,?_,?_⟩,⟨rfl,rfl⟩,rfl,Int.le_refl _⟩
 ·rfl
 ·show(-1:Int)≤g.1-1; omega
 ·show(0:Int)≤g.2; omega
 ·show(0:Int)≤0∧(0:Int)≤60000; omega
 ·show(0:Int)≤0∧(0:Int)≤60000; omega
 ·show(0:Int)≤0+4; omega
 ·show(0:Int)≤0; omega
 ·show(0:Int)≤60000; omega
 ·have hi':i<((List.range g.1.toNat).map (fun(i:Nat)=>yz id g i)).length:=hi
  show yyz (-1) false g.2 i (nth ((List.range g.1.toNat).map (fun(i:Nat)=>yz id g i)) i yc);rw[zkS,zkJ hi',List.getElem_map,List.getElem_range];obtain⟨k1,k2,k3⟩:=yS0 id i hg;refine⟨k1,k2,fun e=> ?_⟩;rw[show(yz id g i).2=([],false,[])from k3]at e;cases e
 ·show(((List.range g.1.toNat).map (fun(i:Nat)=>yz id g i)).length:Int)=g.1
  rw[hl]; omega
 ·show(-1:Int)≤ -1; omega
 ·show(-1:Int)≤1000; omega
theorem yT1 {k m n:Int} {a:dA} (h:Wk k a) (hm:inb m a.2.2.1.length=true):Wk k (yh7 a m (spoil (nth a.2.2.1 m yc) n)) :=
 yTC h hm (fun g=>⟨yJ2 n g.1,by rw[(yPW _ _).1]; exact g.2.1,by rw[(yPW _ _).2]; exact g.2.2⟩)
def Lo (d:List dW) (a:dA):Prop:=yHa d a∧ye a.2.1=true∧(a.2.2.1.length:Int)=a.2.1.1∧ -1≤a.2.2.2.1∧a.2.2.2.1≤a.2.1.1-1
theorem yUr {a:dA} (h:yP a=true):Lo a.2.2.2.2.2.2.2.2.1 a:=⟨yIK h,ykJ h,yC8 h,yTK h⟩
theorem yUD {d:List dW} {a b:dA} (hg:b.2.1=a.2.1) (hl:b.2.2.1.length=a.2.2.1.length) (ht:b.2.2.2.1=a.2.2.2.1) (hn:yHa d b) (h:Lo d a):Lo d b:=⟨hn,by rw[hg]; exact h.2.1,by rw[hg,hl]; exact h.2.2.1,by rw[hg,ht]; exact h.2.2.2⟩
theorem yUf {d:List dW} {a:dA} (h:Lo d a):Lo d (yaH a):=yUD ((yit (ytF a)).trans rfl) (yIg a) ((yS9 (ytF a)).trans rfl) (yTq h.1) h
theorem yUe {d:List dW} {a:dA} {m:Int} (h:Lo d a) (hm:inb m a.2.2.1.length=true):Lo d (ylR a m):=by
 obtain⟨f1,f2⟩:=ySp h.1.2.1 hm;have hmi:=zj6.1 hm;have h3:=h.2.2.1;have hL:Lo d (ycu a m):=⟨⟨by rw[f2]; exact h.1.1,f1,h.1.2.2⟩,h.2.1,by rw[f2]; exact h.2.2.1,by show -1≤m; omega,by show m≤a.2.1.1-1; omega⟩;have hB:Lo d (ylQ a m):=⟨⟨by rw[show(ylQ a m).2.2.1=(ycu a m).2.2.1 from rfl,f2]; exact h.1.1,f1,h.1.2.2⟩,h.2.1,by rw[show(ylQ a m).2.2.1=(ycu a m).2.2.1 from rfl,f2]; exact h.2.2.1,h.2.2.2⟩;unfold ylR;cases(a.2.2.2.1== -1||a.2.2.2.1==m)
 ·exact hB
 ·cases(!(yi a)&&(!a.2.2.2.2.2.2.2.2.2.2.2&&ltb a.2.2.2.2.2.2.2.1 60000))
  ·exact hL
  ·exact yUf hL
def yNx:Code:=(f27.body).getD .skip
def yN0:Env:=zkw TT [(31,yvN),(94,ys9)] []
theorem yFs:FrOk prog ⟨yN0,87,fun _=>none⟩ yNx:=zkA mixed yd ⟨yJI,yGA,trivial⟩
abbrev yrN:List Par:= [.rd tA,.rd tA]
abbrev yr4:List OT:= [⟨false,tB,.fz⟩]
def ydj (a0 a1:dA):Option (zaY yr4×zak yrN) :=bif(a0.1==a1.1)then bif((a0.2.1.1==a1.2.1.1)&&((a0.2.1.2==a1.2.1.2)&&true))then bnd (yeG a0.2.2.1 a1.2.2.1) fun r1 =>bif r1.1.1 then bif(a0.2.2.2.1==a1.2.2.2.1)then bif(a0.2.2.2.2.1==a1.2.2.2.2.1)then bif(a0.2.2.2.2.2.1==a1.2.2.2.2.2.1)then bif(a0.2.2.2.2.2.2.1==a1.2.2.2.2.2.2.1)then bif(a0.2.2.2.2.2.2.2.1==a1.2.2.2.2.2.2.2.1)then bnd (ydP a0.2.2.2.2.2.2.2.2.1 a1.2.2.2.2.2.2.2.2.1) fun r2 =>bif r2.1.1 then bif(a0.2.2.2.2.2.2.2.2.2.1==a1.2.2.2.2.2.2.2.2.2.1)then bif(a0.2.2.2.2.2.2.2.2.2.2.1==a1.2.2.2.2.2.2.2.2.2.2.1)then some (((a0.2.2.2.2.2.2.2.2.2.2.2==a1.2.2.2.2.2.2.2.2.2.2.2),()),()) else some ((false,()),()) else some ((false,()),()) else some ((false,()),()) else some ((false,()),()) else some ((false,()),()) else some ((false,()),()) else some ((false,()),()) else some ((false,()),()) else some ((false,()),()) else some ((false,()),()) else some ((false,()),())
theorem yJh:ConOk prog 27 ⟨yrN,yr4,fun x=>ydj x.1 x.2.1⟩:=zkI (yFs) func27 ntmps27.symm fun x=>by kernel_rfl
def yxX:Con:=⟨yrN,yr4,fun x=>ydj x.1 x.2.1⟩
theorem yMW:ConOk prog 27 yxX:=yJh
theorem yR9 (a:dA) (h:yg2 a):ydj a a=some ((true,()),()):=by
 unfold ydj;rw[yTu _ h.1 h.2.1,yS2 _ h.2.2];simp only[beq_self_eq_true,Bool.and_self,zkH,cond_true]
def yoM:Code:=(f69.body).getD .skip
def ywY:Env:=zkw TT [] []
theorem yLm:FrOk prog ⟨ywY,32,fun _=>none⟩ yoM:=zkA mixed yd trivial
def yAP:Nat→Option Seg:=fun _=>none
def ydS:Shape:=⟨[(0,false,[.fz tY]),(3,false,[.int .i64]),(4,false,[.int .i64])],[],[]⟩
def yjW:Shape:=⟨[(0,false,[.fz tY]),(3,false,[.int .i64]),(4,false,[.ci .i64 0])],[],[]⟩
def yjV:Shape:=⟨[(0,false,[.fz tY]),(3,false,[.int .i64])],[],[]⟩
def yj2:Shape:=⟨[],[],[]⟩
def yze (v0:List Int) (v1 v2:Int):Option ((ydS).X ⊕ ((yjV).X ⊕ (yj2).X)) :=bif(ltb v2 (v0.length:Int))then bif(ltb v2 4000)then bif(inb v2 v0.length)then some (.inl (((v0,()),((i64.wrap ((BitVec.ofInt IntKind.i64.bits (i64.wrap ((i64.wrap ((i64.wrap (v1*137))+(i64.wrap (nth v0 v2 0))))+11)) &&& BitVec.ofInt IntKind.i64.bits 1073741823).toNat:Int)),()),((i64.wrap (v2+1)),()),()),(),())) else none else some (.inr (.inl (((v0,()),(v1,()),()),(),()))) else some (.inr (.inl (((v0,()),(v1,()),()),(),())))
def yeH (x:(ydS).X):=yze x.1.1.1 x.1.2.1.1 x.1.2.2.1.1
def yye (x:(yjW).X):(ydS).X:=(((x.1.1.1,()),(x.1.2.1.1,()),(0,()),()),(),())
def yzC:Code:=(zd7 yoM 64 116).getD .skip
theorem yKO:zd7 yoM 64 29=some (.block 0 (.loop yzC)):=by kernel_rfl
theorem yNi (x:(ydS).X):zhu ⟨ywY,32,yAP⟩ 0 yzC 116 ydS yjV yj2 x=yeH x:=by kernel_rfl
def yys (x:(yjW).X):Nat:=18446744073709551616
def ypd (x:(yjW).X):Option ((yjV).X ⊕ (yj2).X):=zF yeH (yys x) (yye x)
def yy7:Seg:=⟨yjW,yjV,yj2,ypd⟩
def yNN:Nat→Option Seg:=fun q=>bif Nat.beq q 29 then some yy7 else yAP q
theorem yLn:FrOk prog ⟨ywY,32,yNN⟩ yoM:=(yLm).loop (sg:=yy7) ydS yye (by decide) yKO yeH yys (by decide) (fun _=>rfl) (fun x r _ h=>h) yNi
abbrev yps:List Par:= [.kp tYs .fz]
abbrev yxu:List OT:= [⟨true,tU,.fz⟩]
def yh1 (a0:List Int):Option (zaY yxu×zak yps) :=zkt (ypd (((a0,()),((i64.wrap (770770+(a0.length:Int))),()),((),()),()),(),())) (fun y0 =>some (((y0.1.1.1,0,y0.1.2.1.1),()),())) (fun y0 =>none)
theorem yO2:ConOk prog 69 ⟨yps,yxu,fun x=>yh1 x.1⟩:=zkI (yLn) func69 ntmps69.symm fun x=>by kernel_rfl
def ydM (a0:List Int):List Int×Int×Int:=(((yh1 a0).getD (((([]:List Int),(0:Int),(0:Int)),()),())).1).1
def yx (u:List Int×Int×Int):Prop:=0≤u.2.1∧(u.1.length:Int)≤140737488355328
theorem yR0 (a0:List Int) (hb:a0.length≤140737488355328): ∃s:Int,yh1 a0=some (((a0,0,s),()),()):=by
 have hl: ∃b,ypd (((a0,()),((i64.wrap (770770+(a0.length:Int))),()),((),()),()),(),())=some b∧(∃s:Int,b= .inl (((a0,()),(s,()),()),(),())):=by
  refine zjj (step:=yeH) (fun x=>(a0.length-(x.1.2.2.1.1:Int).toNat)) (fun x=>(x.1.1.1:List Int)=a0∧(0:Int)≤(x.1.2.2.1.1:Int)) _ ?_ _ _ ⟨rfl,Int.le_refl _⟩ (by show a0.length-_<18446744073709551616; omega)
  rintro⟨⟨⟨(l:List Int),_⟩,⟨(s:Int),_⟩,⟨(i:Int),_⟩,_⟩,_,_⟩ ⟨h0,hi⟩
  simp only at h0 hi;subst h0;simp only[yeH,yze];by_cases h1:i<(l.length:Int)
  ·rw[zky h1]
   by_cases h2:i<4000
   ·rw[zky h2,zj6.2 ⟨hi,h1⟩]
    refine .inl ⟨_,rfl,⟨rfl,?_⟩,?_⟩
    ·show 0≤i64.wrap (i+1); rw[wr (by omega) (by omega)]; omega
    ·show l.length-(i64.wrap (i+1)).toNat<l.length-i.toNat; rw[wr (by omega) (by omega)]; omega
   ·rw[zk3 (Int.not_lt.1 h2)]
    exact .inr ⟨_,rfl,_,rfl⟩
  ·rw[zk3 (Int.not_lt.1 h1)]
   exact .inr ⟨_,rfl,_,rfl⟩
 obtain⟨b,e,s,rfl⟩:=hl;refine⟨s,?_⟩;unfold yh1;rw[e]; rfl
theorem yQZ (a0:List Int) (hk:zjx yps (a0,())):yh1 a0=(fun n=>some ((n,()),())) (ydM a0):=by
 obtain⟨s,e⟩:=yR0 a0 (by have:a0.length*1≤2^47:=hk.1.1; omega);unfold ydM;rw[e]; rfl
theorem yRX (a0:List Int) (hb:a0.length≤140737488355328):yx (ydM a0):=by
 obtain⟨s,e⟩:=yR0 a0 hb;unfold ydM;rw[e];exact⟨Int.le_refl _,by show(a0.length:Int)≤_; omega⟩
def ylN:Con:=⟨yps,yxu,fun x=>(fun n=>some ((n,()),())) (ydM x.1)⟩
theorem yu9:ConOk prog 69 ylN:=(yO2).mono (fun x r hk h=>(yQZ x.1 hk).trans h)
def yQi:Code:=(f71.body).getD .skip
def yQG:Env:=zkw TT [] []
theorem yHN:FrOk prog ⟨yQG,15,fun _=>none⟩ yQi:=zkA mixed yd trivial
abbrev yup:List Par:= [.rd tYs,.rd tI]
abbrev yuO:List OT:= [⟨false,tI,.fz⟩]
def yAs (a0:List Int) (a1:Int):Option (zaY yuO×zak yup) :=bif(ltb a1 (i64.wrap (3+(i64.wrap ((a0.length:Int).tdiv 12)))))then some ((a1,()),()) else some (((i64.wrap (3+(i64.wrap ((a0.length:Int).tdiv 12)))),()),())
theorem yMz:ConOk prog 71 ⟨yup,yuO,fun x=>yAs x.1 x.2.1⟩:=zkI (yHN) func71 ntmps71.symm fun x=>by kernel_rfl
def ycT (a0:List Int) (a1:Int):Int :=bif(ltb a1 (i64.wrap (3+(i64.wrap ((a0.length:Int).tdiv 12)))))then a1 else (i64.wrap (3+(i64.wrap ((a0.length:Int).tdiv 12))))
def ykd:Con:=⟨yup,yuO,fun x=>(fun n=>some ((n,()),())) (ycT x.1 x.2.1)⟩
theorem yOE (a0:List Int) (a1:Int):yAs a0 a1=(fun n=>some ((n,()),())) (ycT a0 a1):=zkV (p:=fun(n:Int)=>((n,()),())) (zkG (p:=fun(n:Int)=>((n,()),())) rfl rfl)
theorem ysv:ConOk prog 71 ykd:=(yMz).mono (fun x r _ h=>(yOE x.1 x.2.1).trans h)
theorem yOi (l:List Int) (n:Int) (hn:0≤n) (hl:l.length≤140737488355328):0≤ycT l n∧ycT l n≤n:=by
 unfold ycT;have h1:0≤(l.length:Int).tdiv 12:=Int.tdiv_nonneg (by omega) (by omega)
 have h2:(l.length:Int).tdiv 12≤(l.length:Int):=by
  rw[Int.tdiv_eq_ediv_of_nonneg (by omega)];exact Int.ediv_le_self _ (by omega)
 rw[wq ((l.length:Int).tdiv 12) (by omega) (by omega),wq (3+(l.length:Int).tdiv 12) (by omega) (by omega)];by_cases h:n<3+(l.length:Int).tdiv 12
 ·rw[zky h]; exact⟨hn,Int.le_refl _⟩
 ·rw[zk3 (by omega),cond_false]; omega
def yQf:Code:=(f147.body).getD .skip
def yQD:Env:=zkw TT [] []
theorem yHK:FrOk prog ⟨yQD,58,fun _=>none⟩ yQf:=zkA mixed yd trivial
abbrev yum:List Par:= [.pt tU .fz]
abbrev yuL:List OT:= [⟨false,tI,.fz⟩]
def ybo (a0:dU):Option (zaY yuL×zak yum) :=bif(ltb a0.2.1 (a0.1.length:Int))then bif(inb a0.2.1 a0.1.length)then some (((i64.wrap ((BitVec.ofInt IntKind.i64.bits (i64.wrap ((i64.wrap ((BitVec.ofInt IntKind.i64.bits (i64.wrap ((BitVec.ofInt IntKind.i64.bits ((i64.wrap ((i64.wrap (a0.2.2*6364136223846793005))+1442695040888963407)).fdiv (2^(min (33:Int).toNat IntKind.i64.bits))) ^^^ BitVec.ofInt IntKind.i64.bits ((i64.wrap ((i64.wrap (a0.2.2*6364136223846793005))+1442695040888963407)).fdiv (2^(min (47:Int).toNat IntKind.i64.bits)))).toNat:Int)) &&& BitVec.ofInt IntKind.i64.bits 255).toNat:Int))+(i64.wrap (nth a0.1 a0.2.1 0)))) &&& BitVec.ofInt IntKind.i64.bits 255).toNat:Int)),()),((a0.1,(i64.wrap (a0.2.1+1)),(i64.wrap ((i64.wrap (a0.2.2*6364136223846793005))+1442695040888963407))),())) else none else some (((i64.wrap ((BitVec.ofInt IntKind.i64.bits (i64.wrap ((BitVec.ofInt IntKind.i64.bits ((i64.wrap ((i64.wrap (a0.2.2*6364136223846793005))+1442695040888963407)).fdiv (2^(min (33:Int).toNat IntKind.i64.bits))) ^^^ BitVec.ofInt IntKind.i64.bits ((i64.wrap ((i64.wrap (a0.2.2*6364136223846793005))+1442695040888963407)).fdiv (2^(min (47:Int).toNat IntKind.i64.bits)))).toNat:Int)) &&& BitVec.ofInt IntKind.i64.bits 255).toNat:Int)),()),((a0.1,a0.2.1,(i64.wrap ((i64.wrap (a0.2.2*6364136223846793005))+1442695040888963407))),()))
theorem yMw:ConOk prog 147 ⟨yum,yuL,fun x=>ybo x.1⟩:=zkI (yHK) func147 ntmps147.symm fun x=>by kernel_rfl
def yzP:Con:=⟨yum,yuL,fun x=>ybo x.1⟩
theorem yPl:ConOk prog 147 yzP:=yMw
theorem yS5 (x:Int):0≤i64.wrap ((BitVec.ofInt IntKind.i64.bits x &&& BitVec.ofInt IntKind.i64.bits 255).toNat:Int)∧i64.wrap ((BitVec.ofInt IntKind.i64.bits x &&& BitVec.ofInt IntKind.i64.bits 255).toNat:Int)≤255:=by
 have h:(BitVec.ofInt IntKind.i64.bits x &&& BitVec.ofInt IntKind.i64.bits 255).toNat≤255:=by
  rw[BitVec.toNat_and];exact Nat.le_trans Nat.and_le_right (by decide)
 rw[wr (by omega) (by omega)];omega
theorem yEH (u:List Int×Int×Int) (h:yx u): ∃(r:Int) (u':List Int×Int×Int),ybo u=some ((r,()),(u',()))∧(0≤r∧r≤255)∧yx u':=by
 unfold ybo;by_cases h1:u.2.1<(u.1.length:Int)
 ·rw[zky h1,zj6.2 ⟨h.1,h1⟩]
  refine⟨_,_,rfl,yS5 _,?_,h.2⟩;show 0≤i64.wrap (u.2.1+1);have:=h.1; have:=h.2;rw[wr (by omega) (by omega)]; omega
 ·rw[zk3 (Int.not_lt.1 h1)]
  exact⟨_,_,rfl,yS5 _,h⟩
def yNF:Code:=(f72.body).getD .skip
def yN8:Env:=zkw TT [(147,yzP)] []
theorem yFI:FrOk prog ⟨yN8,31,fun _=>none⟩ yNF:=zkA mixed yd ⟨yPl,trivial⟩
abbrev yrS:List Par:= [.pt tU .fz,.rd tI]
abbrev ysd:List OT:= [⟨false,tI,.fz⟩]
def yb (a0:dU) (a1:Int):Option (zaY ysd×zak yrS) :=bif(leb a1 0)then some ((0,()),(a0,())) else bif(leb a1 256)then bnd (ybo a0) fun r1 =>bif(a1 !=0)then some (((r1.1.1.tmod a1),()),(r1.2.1,())) else none else bnd (ybo a0) fun r2 =>bnd (ybo r2.2.1) fun r3 =>bnd (ybo r3.2.1) fun r4 =>bif(a1 !=0)then some ((((i64.wrap ((i64.wrap ((i64.wrap (r2.1.1*65536))+(i64.wrap (r3.1.1*256))))+r4.1.1)).tmod a1),()),(r4.2.1,())) else none
theorem yJs:ConOk prog 72 ⟨yrS,ysd,fun x=>yb x.1 x.2.1⟩:=zkI (yFI) func72 ntmps72.symm fun x=>by kernel_rfl
def yr:Con:=⟨yrS,ysd,fun x=>yb x.1 x.2.1⟩
theorem yD:ConOk prog 72 yr:=yJs
theorem yu (u:List Int×Int×Int) (n:Int) (h:yx u): ∃(r:Int) (u':List Int×Int×Int),yb u n=some ((r,()),(u',()))∧(0≤r∧(0<n→r<n)∧(n≤0→r=0))∧yx u':=by
 unfold yb;by_cases h0:n≤0
 ·rw[zk2 h0]
  exact⟨_,_,rfl,⟨Int.le_refl _,fun h=>absurd h0 (by omega),fun _=>rfl⟩,h⟩
 ·have hn:(n !=0)=true:=bne_iff_ne.2 (by omega)
  have key: ∀x:Int,0≤x→0≤x.tmod n∧(0<n→x.tmod n<n)∧(n≤0→x.tmod n=0):=fun x hx =>
   ⟨Int.tmod_nonneg n hx,fun hp=>Int.tmod_lt_of_pos x hp,fun hp=>absurd hp h0⟩
  rw[zk1 (by omega)];by_cases h1:n≤256
  ·rw[zk2 h1]
   obtain⟨r1,u1,e1,q1,d1⟩:=yEH u h;rw[e1,zkZ,zk0,zkH,hn];exact⟨_,_,rfl,key r1 q1.1,d1⟩
  ·rw[zk1 (by omega)]
   obtain⟨r1,u1,e1,q1,d1⟩:=yEH u h;obtain⟨r2,u2,e2,q2,d2⟩:=yEH u1 d1;obtain⟨r3,u3,e3,q3,d3⟩:=yEH u2 d2;simp only[e1,e2,e3,zkZ,zkH,hn,zk0];refine⟨_,_,rfl,key _ ?_,d3⟩;rw[wq (r1*65536) (by omega) (by omega),wq (r2*256) (by omega) (by omega),wq (r1*65536+r2*256) (by omega) (by omega),wr (by omega) (by omega)];omega
def yQh:Code:=(f83.body).getD .skip
def yQF:Env:=zkw TT [(72,yr)] []
theorem yHM:FrOk prog ⟨yQF,9,fun _=>none⟩ yQh:=zkA mixed yd ⟨yD,trivial⟩
abbrev yuo:List Par:= [.pt tU .fz,.rd tI]
abbrev yuN:List OT:= [⟨false,tB,.fz⟩]
def yaA (a0:dU) (a1:Int):Option (zaY yuN×zak yuo) :=bnd (yb a0 a1) fun r1 =>some (((r1.1.1==0),()),(r1.2.1,()))
theorem yMy:ConOk prog 83 ⟨yuo,yuN,fun x=>yaA x.1 x.2.1⟩:=zkI (yHM) func83 ntmps83.symm fun x=>by kernel_rfl
def yp0:Con:=⟨yuo,yuN,fun x=>yaA x.1 x.2.1⟩
theorem yBo:ConOk prog 83 yp0:=yMy
theorem yOh (u:dU) (n:Int) (h:yx u): ∃(r:Bool) (u':dU),yaA u n=some ((r,()),(u',()))∧yx u':=by
 unfold yaA;obtain⟨r,u1,e1,_,d1⟩:=yu u n h;simp only[e1,zkH];exact⟨_,_,rfl,d1⟩
def yQo:Code:=(f85.body).getD .skip
def yQM:Env:=zkw TT [(72,yr),(83,yp0)] []
theorem yH9:FrOk prog ⟨yQM,16,fun _=>none⟩ yQo:=zkA mixed yd ⟨yD,yBo,trivial⟩
abbrev yuv:List Par:= [.pt tU .fz,.kp tA (.pr .fz (.pr (.pr .fz .fz) (.pr (.ow (.pr (.ow .fz) (.pr (.ow (.pr .fz .fz)) (.pr .fz (.ow .fz))))) (.pr .fz (.pr .fz (.pr .fz (.pr .fz (.pr .fz (.pr (.ow (.pr .fz .fz)) (.pr .fz (.pr .fz .fz)))))))))))]
abbrev yuX:List OT:= [⟨false,tA,(.pr .fz (.pr (.pr .fz .fz) (.pr (.ow (.pr (.ow .fz) (.pr (.ow (.pr .fz .fz)) (.pr .fz (.ow .fz))))) (.pr .fz (.pr .fz (.pr .fz (.pr .fz (.pr .fz (.pr (.ow (.pr .fz .fz)) (.pr .fz (.pr .fz .fz)))))))))))⟩]
def ygS (a0:dU) (a1:dA):Option (zaY yuX×zak yuv) :=bnd (yaA a0 2) fun r1 =>bif r1.1.1 then bif(a1.2.2.2.2.2.2.2.2.2.1==(-1))then bnd (yb r1.2.1 14) fun r2 =>some (((a1.1,a1.2.1,a1.2.2.1,a1.2.2.2.1,a1.2.2.2.2.1,a1.2.2.2.2.2.1,a1.2.2.2.2.2.2.1,a1.2.2.2.2.2.2.2.1,a1.2.2.2.2.2.2.2.2.1,r2.1.1,a1.2.2.2.2.2.2.2.2.2.2),()),(r2.2.1,())) else some ((a1,()),(r1.2.1,())) else some ((a1,()),(r1.2.1,()))
theorem yMM:ConOk prog 85 ⟨yuv,yuX,fun x=>ygS x.1 x.2.1⟩:=zkI (yH9) func85 ntmps85.symm fun x=>by kernel_rfl
def yzZ:Con:=⟨yuv,yuX,fun x=>ygS x.1 x.2.1⟩
theorem yPv:ConOk prog 85 yzZ:=yMM
theorem yUb (u:dU) (a:dA) (h:yx u) (ha:yg2 a): ∃(a':dA) (u':dU),ygS u a=some ((a',()),(u',()))∧yg2 a'∧yx u':=by
 unfold ygS;obtain⟨r,u1,e1,d1⟩:=yOh u 2 h;simp only[e1,zkH];cases r
 ·exact⟨_,_,rfl,ha,d1⟩
 ·cases(a.2.2.2.2.2.2.2.2.2.1== -1)
  ·exact⟨_,_,rfl,ha,d1⟩
  ·obtain⟨x,u2,e2,_,d2⟩:=yu u1 14 d1
   simp only[cond_true,e2,zkH];exact⟨_,_,rfl,ha,d2⟩
def yQj:Code:=(f226.body).getD .skip
def yQH:Env:=zkw TT [(82,yj)] []
theorem yHO:FrOk prog ⟨yQH,5,fun _=>none⟩ yQj:=zkA mixed yd ⟨ym,trivial⟩
abbrev yuq:List Par:= [.rd tI]
abbrev yuP:List OT:= [⟨false,tB,.fz⟩]
def yAt (a0:Int):Option (zaY yuP×zak yuq) :=let r1:=ya a0 0 65535;some ((r1,()),())
theorem yMA:ConOk prog 226 ⟨yuq,yuP,fun x=>yAt x.1⟩:=zkI (yHO) func226 ntmps226.symm fun x=>by kernel_rfl
def yS (a0:Int):Bool :=let r1:=ya a0 0 65535;r1
def yzQ:Con:=⟨yuq,yuP,fun x=>(fun n=>some ((n,()),())) (yS x.1)⟩
theorem yOF (a0:Int):yAt a0=(fun n=>some ((n,()),())) (yS a0):=zkV (p:=fun(n:Bool)=>((n,()),())) rfl
theorem yPm:ConOk prog 226 yzQ:=(yMA).mono (fun x r _ h=>(yOF x.1).trans h)
def ylp:Code:=(f200.body).getD .skip
def yrD:Env:=zkw TT [(226,yzQ)] []
theorem yFJ:FrOk prog ⟨yrD,16,fun _=>none⟩ ylp:=zkA mixed yd ⟨yPm,trivial⟩
def ywT:Nat→Option Seg:=fun _=>none
def ycC:Shape:=⟨[(0,false,[.br tI]),(3,false,[.int .i64])],[],[]⟩
def yg6:Shape:=⟨[(0,false,[.br tI]),(3,false,[.ci .i64 0])],[],[]⟩
def yg4:Shape:=⟨[],[],[]⟩
def yhf:Shape:=⟨[(2,false,[.bool])],[],[]⟩
def ylg (v0:List Int) (v1:Int):Option ((ycC).X ⊕ ((yg4).X ⊕ (yhf).X)) :=bif(ltb v1 (v0.length:Int))then bif(inb v1 v0.length)then let r2:=yS (nth v0 v1 0);bif(!r2)then some (.inr (.inr (((false,()),()),(),()))) else some (.inl (((v0,()),((i64.wrap (v1+1)),()),()),(),())) else none else some (.inr (.inl ((),(),())))
def ybA (x:(ycC).X):=ylg x.1.1.1 x.1.2.1.1
def ytm (x:(yg6).X):(ycC).X:=(((x.1.1.1,()),(0,()),()),(),())
def yvA:Code:=(zd7 ylp 64 52).getD .skip
theorem yE7:zd7 ylp 64 13=some (.block 0 (.loop yvA)):=by kernel_rfl
theorem yGN (x:(ycC).X):zhu ⟨yrD,16,ywT⟩ 0 yvA 52 ycC yg4 yhf x=ybA x:=by kernel_rfl
def ytB (x:(yg6).X):Nat:=18446744073709551616
def yma (x:(yg6).X):Option ((yg4).X ⊕ (yhf).X):=zF ybA (ytB x) (ytm x)
def yt0:Seg:=⟨yg6,yg4,yhf,yma⟩
def yG5:Nat→Option Seg:=fun q=>bif Nat.beq q 13 then some yt0 else ywT q
theorem yFK:FrOk prog ⟨yrD,16,yG5⟩ ylp:=(yFJ).loop (sg:=yt0) ycC ytm (by decide) yE7 ybA ytB (by decide) (fun _=>rfl) (fun x r _ h=>h) yGN
abbrev ylB:List Par:= [.rd tL]
abbrev yse:List OT:= [⟨false,tB,.fz⟩]
def yop (a0:List Int):Option (zaY yse×zak ylB) :=zkt (yma (((a0,()),((),()),()),(),())) (fun y2 =>some ((true,()),())) (fun y2 =>some ((y2.1.1.1,()),()))
theorem yJt:ConOk prog 200 ⟨ylB,yse,fun x=>yop x.1⟩:=zkI (yFK) func200 ntmps200.symm fun x=>by kernel_rfl
def yG (a0:List Int):Bool:=a0.all yS
theorem yMb (a0:List Int) (hk:zjx ylB (a0,())):yop a0=(fun n=>some ((n,()),())) (yG a0):=by
 have hb:a0.length*8≤2^47:=hk.1.1
 have hl:yma (((a0,()),((),()),()),(),())=some (bif a0.all yS then .inl ((),(),())else .inr (((false,()),()),(),())) :=
  zj9 (step:=ybA) a0 0 (fun i=>(((a0,()),((i:Int),()),()),(),())) yS _ _ (fun i hi=>by
   simp only[ybA,ylg,zkR hi,zkS,zky (show(i:Int)<a0.length by omega),cond_true,wq ((i:Int)+1) (by omega) (by omega),Int.natCast_add,Int.natCast_one]
   cases yS (a0.getD i 0)<;>rfl) (by simp only[ybA,ylg,zk3 (Int.le_refl _),cond_false]) _ (by show _<18446744073709551616; omega)
 unfold yop yG;rw[hl];cases a0.all yS<;>rfl
def yfo:Con:=⟨ylB,yse,fun x=>(fun n=>some ((n,()),())) (yG x.1)⟩
theorem ykn:ConOk prog 200 yfo:=(yJt).mono (fun x r hk h=>(yMb x.1 hk).trans h)
def yRw:Code:=(f202.body).getD .skip
def yRK:Env:=zkw TT [(200,yfo)] []
theorem yLh:FrOk prog ⟨yRK,10,fun _=>none⟩ yRw:=zkA mixed yd ⟨ykn,trivial⟩
abbrev yw9:List Par:= [.rd tL]
abbrev yxq:List OT:= [⟨false,tB,.fz⟩]
def yBx (a0:List Int):Option (zaY yxq×zak yw9) :=bif(leb (a0.length:Int) 12)then let r1:=yG a0;some ((r1,()),()) else some ((false,()),())
theorem yOY:ConOk prog 202 ⟨yw9,yxq,fun x=>yBx x.1⟩:=zkI (yLh) func202 ntmps202.symm fun x=>by kernel_rfl
def yft (a0:List Int):Bool :=bif(leb (a0.length:Int) 12)then let r1:=yG a0;r1 else false
def ysi:Con:=⟨yw9,yxq,fun x=>(fun n=>some ((n,()),())) (yft x.1)⟩
theorem yQX (a0:List Int):yBx a0=(fun n=>some ((n,()),())) (yft a0):=zkV (p:=fun(n:Bool)=>((n,()),())) (zkG (p:=fun(n:Bool)=>((n,()),())) rfl rfl)
theorem yB8:ConOk prog 202 ysi:=(yOY).mono (fun x r _ h=>(yQX x.1).trans h)
theorem yAK:yft=yO:=funext fun s=>by
 unfold yft yO yG;rw[show yS=isW from funext fun x=>by unfold yS; rw[ycf]; rfl];cases leb (s.length:Int) 12<;>rfl
def ybF:Code:=(f160.body).getD .skip
def yeY:Env:=zkw TT [(82,yj),(202,ysi)] []
theorem yLc:FrOk prog ⟨yeY,91,fun _=>none⟩ ybF:=zkA mixed yd ⟨ym,yB8,trivial⟩
def yAN:Nat→Option Seg:=fun _=>none
def yck:Shape:=⟨[(1,false,[.ptr 0 0]),(3,false,[.int .i64]),(4,false,[.int .i64])],[(0,[.br tL,.br tW,.bool,.br tI])],[]⟩
def yge:Shape:=⟨[(1,false,[.ptr 0 0]),(3,false,[.int .i64]),(4,false,[.ci .i64 0])],[(0,[.br tL,.br tW,.bool,.br tI])],[]⟩
def yf0:Shape:=⟨[(1,false,[.ptr 0 0]),(3,false,[.int .i64])],[(0,[.br tL,.br tW,.bool,.br tI])],[]⟩
def ygw:Shape:=⟨[(2,false,[.bool])],[],[]⟩
abbrev yn3 (v0 v1:Int) (v2:dM):(yck).X:=((((),()),(v0,()),(v1,()),()),((v2.1,v2.2.1,v2.2.2.1,v2.2.2.2,()),()),())
abbrev yIu (v0:Int) (v1:dM):(yge).X:=((((),()),(v0,()),((),()),()),((v1.1,v1.2.1,v1.2.2.1,v1.2.2.2,()),()),())
abbrev yIl (v0:Int) (v1:dM):(yf0).X:=((((),()),(v0,()),()),((v1.1,v1.2.1,v1.2.2.1,v1.2.2.2,()),()),())
abbrev yIH (v0:Bool):(ygw).X:=(((v0,()),()),(),())
def yoy (v0 v1:Int) (v2:List (List Int)) (v3:List dW) (v4:Bool) (v5:List Int):Option ((yck).X ⊕ ((yf0).X ⊕ (ygw).X)) :=bif(ltb v1 v0)then bif(inb v1 v2.length)then let r2:=yft (nth v2 v1 []);bif(!r2)then some (.inr (.inr (((false,()),()),(),()))) else some (.inl ((((),()),(v0,()),((i64.wrap (v1+1)),()),()),((v2,v3,v4,v5,()),()),())) else none else some (.inr (.inl ((((),()),(v0,()),()),((v2,v3,v4,v5,()),()),())))
def ycI (x:(yck).X):=yoy x.1.2.1.1 x.1.2.2.1.1 x.2.1.1.1 x.2.1.1.2.1 x.2.1.1.2.2.1 x.2.1.1.2.2.2.1
def yyb (x:(yge).X):(yck).X:=((((),()),(x.1.2.1.1,()),(0,()),()),((x.2.1.1.1,x.2.1.1.2.1,x.2.1.1.2.2.1,x.2.1.1.2.2.2.1,()),()),())
def yzz:Code:=(zd7 ybF 64 116).getD .skip
theorem yKL:zd7 ybF 64 29=some (.block 0 (.loop yzz)):=by kernel_rfl
theorem yNf (x:(yck).X):zhu ⟨yeY,91,yAN⟩ 0 yzz 116 yck yf0 ygw x=ycI x:=by kernel_rfl
def yyp (x:(yge).X):Nat:=18446744073709551616
def ypa (x:(yge).X):Option ((yf0).X ⊕ (ygw).X):=zF ycI (yyp x) (yyb x)
def yy4:Seg:=⟨yge,yf0,ygw,ypa⟩
def yrw:Nat→Option Seg:=fun q=>bif Nat.beq q 29 then some yy4 else yAN q
theorem yLd:FrOk prog ⟨yeY,91,yrw⟩ ybF:=(yLc).loop (sg:=yy4) yck yyb (by decide) yKL ycI yyp (by decide) (fun _=>rfl) (fun x r _ h=>h) yNf
def ycl:Shape:=⟨[(1,false,[.ptr 0 0]),(3,false,[.int .i64]),(5,false,[.int .i64])],[(0,[.br tL,.br tW,.bool,.br tI])],[]⟩
def ygf:Shape:=⟨[(1,false,[.ptr 0 0]),(3,false,[.int .i64]),(5,false,[.ci .i64 0])],[(0,[.br tL,.br tW,.bool,.br tI])],[]⟩
def yf1:Shape:=⟨[(1,false,[.ptr 0 0]),(3,false,[.int .i64])],[(0,[.br tL,.br tW,.bool,.br tI])],[]⟩
def ygx:Shape:=⟨[(2,false,[.bool])],[],[]⟩
abbrev yn4 (v0 v1:Int) (v2:dM):(ycl).X:=((((),()),(v0,()),(v1,()),()),((v2.1,v2.2.1,v2.2.2.1,v2.2.2.2,()),()),())
abbrev yIv (v0:Int) (v1:dM):(ygf).X:=((((),()),(v0,()),((),()),()),((v1.1,v1.2.1,v1.2.2.1,v1.2.2.2,()),()),())
abbrev yIm (v0:Int) (v1:dM):(yf1).X:=((((),()),(v0,()),()),((v1.1,v1.2.1,v1.2.2.1,v1.2.2.2,()),()),())
abbrev yII (v0:Bool):(ygx).X:=(((v0,()),()),(),())
def yoz (v0 v1:Int) (v2:List (List Int)) (v3:List dW) (v4:Bool) (v5:List Int):Option ((ycl).X ⊕ ((yf1).X ⊕ (ygx).X)) :=bif(ltb v1 (v3.length:Int))then bif(inb v1 v3.length)then let r6:=ya ((nth v3 v1 (0,[])).1) 0 (i64.wrap (v0-1));bif(!(!r6))then bif(inb v1 v3.length)then let r7:=yft ((nth v3 v1 (0,[])).2);bif(!r7)then some (.inr (.inr (((false,()),()),(),()))) else some (.inl ((((),()),(v0,()),((i64.wrap (v1+1)),()),()),((v2,v3,v4,v5,()),()),())) else none else some (.inr (.inr (((false,()),()),(),()))) else none else some (.inr (.inl ((((),()),(v0,()),()),((v2,v3,v4,v5,()),()),())))
def ycJ (x:(ycl).X):=yoz x.1.2.1.1 x.1.2.2.1.1 x.2.1.1.1 x.2.1.1.2.1 x.2.1.1.2.2.1 x.2.1.1.2.2.2.1
def yyc (x:(ygf).X):(ycl).X:=((((),()),(x.1.2.1.1,()),(0,()),()),((x.2.1.1.1,x.2.1.1.2.1,x.2.1.1.2.2.1,x.2.1.1.2.2.2.1,()),()),())
def yzA:Code:=(zd7 ybF 64 244).getD .skip
theorem yKM:zd7 ybF 64 61=some (.block 2 (.loop yzA)):=by kernel_rfl
theorem yNg (x:(ycl).X):zhu ⟨yeY,91,yrw⟩ 2 yzA 244 ycl yf1 ygx x=ycJ x:=by kernel_rfl
def yyq (x:(ygf).X):Nat:=18446744073709551616
def ypb (x:(ygf).X):Option ((yf1).X ⊕ (ygx).X):=zF ycJ (yyq x) (yyc x)
def yy5:Seg:=⟨ygf,yf1,ygx,ypb⟩
def yrx:Nat→Option Seg:=fun q=>bif Nat.beq q 61 then some yy5 else yrw q
theorem yLe:FrOk prog ⟨yeY,91,yrx⟩ ybF:=(yLd).loop (sg:=yy5) ycl yyc (by decide) yKM ycJ yyq (by decide) (fun _=>rfl) (fun x r _ h=>h) yNg
def ybN:Shape:=⟨[(1,false,[.ptr 0 0]),(3,false,[.int .i64]),(6,false,[.int .i64])],[(0,[.br tL,.br tW,.bool,.br tI])],[]⟩
def yfd:Shape:=⟨[(1,false,[.ptr 0 0]),(3,false,[.int .i64]),(6,false,[.ci .i64 0])],[(0,[.br tL,.br tW,.bool,.br tI])],[]⟩
def ye2:Shape:=⟨[(1,false,[.ptr 0 0]),(3,false,[.int .i64])],[(0,[.br tL,.br tW,.bool,.br tI])],[]⟩
def yfm:Shape:=⟨[(2,false,[.bool])],[],[]⟩
abbrev ymp (v0 v1:Int) (v2:dM):(ybN).X:=((((),()),(v0,()),(v1,()),()),((v2.1,v2.2.1,v2.2.2.1,v2.2.2.2,()),()),())
abbrev yF0 (v0:Int) (v1:dM):(yfd).X:=((((),()),(v0,()),((),()),()),((v1.1,v1.2.1,v1.2.2.1,v1.2.2.2,()),()),())
abbrev yFT (v0:Int) (v1:dM):(ye2).X:=((((),()),(v0,()),()),((v1.1,v1.2.1,v1.2.2.1,v1.2.2.2,()),()),())
abbrev yF8 (v0:Bool):(yfm).X:=(((v0,()),()),(),())
def ymR (v0 v1:Int) (v2:List (List Int)) (v3:List dW) (v4:Bool) (v5:List Int):Option ((ybN).X ⊕ ((ye2).X ⊕ (yfm).X)) :=bif(ltb v1 (v5.length:Int))then bif(inb v1 v5.length)then let r10:=ya (nth v5 v1 0) 0 (i64.wrap (v0-1));bif(!(!r10))then bif(ltb 0 v1)then bif(inb (i64.wrap (v1-1)) v5.length)then bif(inb v1 v5.length)then bif(leb (nth v5 v1 0) (nth v5 (i64.wrap (v1-1)) 0))then some (.inr (.inr (((false,()),()),(),()))) else some (.inl ((((),()),(v0,()),((i64.wrap (v1+1)),()),()),((v2,v3,v4,v5,()),()),())) else none else none else some (.inl ((((),()),(v0,()),((i64.wrap (v1+1)),()),()),((v2,v3,v4,v5,()),()),())) else some (.inr (.inr (((false,()),()),(),()))) else none else some (.inr (.inl ((((),()),(v0,()),()),((v2,v3,v4,v5,()),()),())))
def yb8 (x:(ybN).X):=ymR x.1.2.1.1 x.1.2.2.1.1 x.2.1.1.1 x.2.1.1.2.1 x.2.1.1.2.2.1 x.2.1.1.2.2.2.1
def yvU (x:(yfd).X):(ybN).X:=((((),()),(x.1.2.1.1,()),(0,()),()),((x.2.1.1.1,x.2.1.1.2.1,x.2.1.1.2.2.1,x.2.1.1.2.2.2.1,()),()),())
def yxH:Code:=(zd7 ybF 64 500).getD .skip
theorem yHd:zd7 ybF 64 125=some (.block 4 (.loop yxH)):=by kernel_rfl
theorem yJT (x:(ybN).X):zhu ⟨yeY,91,yrx⟩ 4 yxH 500 ybN ye2 yfm x=yb8 x:=by kernel_rfl
def yv5 (x:(yfd).X):Nat:=18446744073709551616
def ynE (x:(yfd).X):Option ((ye2).X ⊕ (yfm).X):=zF yb8 (yv5 x) (yvU x)
def ywp:Seg:=⟨yfd,ye2,yfm,ynE⟩
def yNL:Nat→Option Seg:=fun q=>bif Nat.beq q 125 then some ywp else yrx q
theorem yLf:FrOk prog ⟨yeY,91,yNL⟩ ybF:=(yLe).loop (sg:=ywp) ybN yvU (by decide) yHd yb8 yv5 (by decide) (fun _=>rfl) (fun x r _ h=>h) yJT
abbrev ypp:List Par:= [.rd tM]
abbrev yxo:List OT:= [⟨false,tB,.fz⟩]
def ysI (a0:dM):Option (zaY yxo×zak ypp) :=zkt (ypa ((((),()),((a0.1.length:Int),()),((),()),()),((a0.1,a0.2.1,a0.2.2.1,a0.2.2.2,()),()),())) (fun y2 =>zkt (ypb ((((),()),(y2.1.2.1.1,()),((),()),()),((y2.2.1.1.1,y2.2.1.1.2.1,y2.2.1.1.2.2.1,y2.2.1.1.2.2.2.1,()),()),())) (fun y7 =>zkt (ynE ((((),()),(y7.1.2.1.1,()),((),()),()),((y7.2.1.1.1,y7.2.1.1.2.1,y7.2.1.1.2.2.1,y7.2.1.1.2.2.2.1,()),()),())) (fun y10 =>let r12:=ya y10.1.2.1.1 1 20;bif r12 then some (((leb (y10.2.1.1.2.1.length:Int) 60),()),()) else some ((false,()),())) (fun y10 =>some ((y10.1.1.1,()),()))) (fun y7 =>some ((y7.1.1.1,()),()))) (fun y2 =>some ((y2.1.1.1,()),()))
theorem yOW:ConOk prog 160 ⟨ypp,yxo,fun x=>ysI x.1⟩:=zkI (yLf) func160 ntmps160.symm fun x=>by kernel_rfl
def yU (a0:dM):Bool:=yq a0
theorem yQV (a0:dM) (hk:zjx ypp (a0,())):ysI a0=(fun n=>some ((n,()),())) (yU a0):=by
 have hb1:a0.1.length*24≤2^47:=hk.1.1.1;have hb2:a0.2.1.length*32≤2^47:=hk.1.2.1.1;have hb3:a0.2.2.2.length*8≤2^47:=hk.1.2.2.2.1
 have h1:ypa (yIu a0.1.length a0)=some (bif a0.1.all yO then .inl (yIl a0.1.length a0)else .inr (yIH false)) :=
  zj9 (step:=ycI) a0.1 [] (fun i=>yn3 a0.1.length i a0) yO _ _ (fun i hi=>by
   simp only[ycI,yn3,yoy,zky (show(i:Int)<a0.1.length by omega),cond_true,wq ((i:Int)+1) (by omega) (by omega),Int.natCast_add,Int.natCast_one,Int.toNat_natCast,zkR hi,zkS,yAK]
   cases yO (a0.1.getD i [])<;>rfl) (by simp only[ycI,yn3,yoy,zk3 (Int.le_refl _),cond_false]) _ (by show _<18446744073709551616; omega)
 have h2:ypb (yIv a0.1.length a0)=some (bif a0.2.1.all (yqP a0.1.length)then .inl (yIm a0.1.length a0)else .inr (yII false)) :=
  zj9 (step:=ycJ) a0.2.1 (0,[]) (fun i=>yn4 a0.1.length i a0) (yqP a0.1.length) _ _ (fun i hi=>by
   simp only[ycJ,yn4,yoz,zky (show(i:Int)<a0.2.1.length by omega),cond_true,wq ((i:Int)+1) (by omega) (by omega),Int.natCast_add,Int.natCast_one,Int.toNat_natCast,zkR hi,zkS,yAK,ygB (show a0.1.length≤1152921504606846976 by omega),yqP]
   cases inb (a0.2.1.getD i (0,[])).1 a0.1.length<;>cases yO (a0.2.1.getD i (0,[])).2<;>rfl) (by simp only[ycJ,yn4,yoz,zk3 (Int.le_refl _),cond_false]) _ (by show _<18446744073709551616; omega)
 have h3:ynE (yF0 a0.1.length a0)=some (bif(List.range a0.2.2.2.length).any (yzt a0.1.length a0.2.2.2)then .inr (yF8 false)else .inl (yFT a0.1.length a0)) :=
  zji (step:=yb8) (fun i=>ymp a0.1.length i a0) a0.2.2.2.length (yzt a0.1.length a0.2.2.2) _ _ (fun i hi=>by
   simp only[yb8,ymp,ymR,zky (show(i:Int)<a0.2.2.2.length by omega),cond_true,wq ((i:Int)+1) (by omega) (by omega),Int.natCast_add,Int.natCast_one,Int.toNat_natCast,zkR hi,zkS,ygB (show a0.1.length≤1152921504606846976 by omega),yzt];rcases Nat.eq_zero_or_pos i with rfl | h0
   ·cases inb (a0.2.2.2.getD 0 0) a0.1.length<;>rfl
   ·rw[show i64.wrap ((i:Int)-1)=((i-1:Nat):Int)by rw[wr (by omega) (by omega)]; omega,zkR (show i-1<a0.2.2.2.length by omega),zkS,zky (show(0:Int)<i by omega),decide_eq_true h0]
    cases inb (a0.2.2.2.getD i 0) a0.1.length<;>cases leb (a0.2.2.2.getD i 0) (a0.2.2.2.getD (i-1) 0)<;>rfl) (by simp only[yb8,ymp,ymR,zk3 (Int.le_refl _),cond_false]) _ (by show _<18446744073709551616; omega)
 unfold ysI yU yq;rw[h1];cases a0.1.all yO
 ·rfl
 simp only[cond_true,zkN,h2];cases a0.2.1.all (yqP a0.1.length)
 ·rfl
 simp only[cond_true,zkN,h3,yPF,ycf];cases ylJ a0.1.length a0.2.2.2
 ·rfl
 simp only[Bool.not_true,cond_false,zkN];cases leb 1 (a0.1.length:Int)<;>cases leb (a0.1.length:Int) 20<;>rfl
def yeR:Con:=⟨ypp,yxo,fun x=>(fun n=>some ((n,()),())) (yU x.1)⟩
theorem yi3:ConOk prog 160 yeR:=(yOW).mono (fun x r hk h=>(yQV x.1 hk).trans h)
def yQk:Code:=(f178.body).getD .skip
def yQI:Env:=zkw TT [] []
theorem yH3:FrOk prog ⟨yQI,6,fun _=>none⟩ yQk:=zkA mixed yd trivial
abbrev yut:List Par:= [.rd tG]
abbrev yuU:List OT:= [⟨false,tI,.fz⟩]
def yAu (a0:dG):Option (zaY yuU×zak yut) :=some (((i64.wrap (6+a0.2)),()),())
theorem yMH:ConOk prog 178 ⟨yut,yuU,fun x=>yAu x.1⟩:=zkI (yH3) func178 ntmps178.symm fun x=>by kernel_rfl
def ybK (a0:dG):Int :=(i64.wrap (6+a0.2))
def yke:Con:=⟨yut,yuU,fun x=>(fun n=>some ((n,()),())) (ybK x.1)⟩
theorem yOK (a0:dG):yAu a0=(fun n=>some ((n,()),())) (ybK a0):=zkV (p:=fun(n:Int)=>((n,()),())) rfl
theorem ysw:ConOk prog 178 yke:=(yMH).mono (fun x r _ h=>(yOK x.1).trans h)
def ym8:Code:=(f151.body).getD .skip
def yt8:Env:=zkw TT [(160,yeR),(178,yke)] []
theorem yH1:FrOk prog ⟨yt8,51,fun _=>none⟩ ym8:=zkA mixed yd ⟨yi3,ysw,trivial⟩
def yzp:Nat→Option Seg:=fun _=>none
def ybU:Shape:=⟨[(1,false,[.ptr 0 0]),(3,false,[.int .i64])],[(0,[.int .i64,.int .i64,.int .i64,.br tM,.int .i64,.int .i64,.int .i64,.int .i64,.int .i64,.br tW,.int .i64,.bool,.bool])],[]⟩
def yfk:Shape:=⟨[(1,false,[.ptr 0 0]),(3,false,[.ci .i64 0])],[(0,[.int .i64,.int .i64,.int .i64,.br tM,.int .i64,.int .i64,.int .i64,.int .i64,.int .i64,.br tW,.int .i64,.bool,.bool])],[]⟩
def ye9:Shape:=⟨[(1,false,[.ptr 0 0])],[(0,[.int .i64,.int .i64,.int .i64,.br tM,.int .i64,.int .i64,.int .i64,.int .i64,.int .i64,.br tW,.int .i64,.bool,.bool])],[]⟩
def yfn:Shape:=⟨[(2,false,[.bool])],[],[]⟩
abbrev ymu (v0:Int) (v1:dA):(ybU).X:=((((),()),(v0,()),()),((v1.1,v1.2.1.1,v1.2.1.2,v1.2.2.1,v1.2.2.2.1,v1.2.2.2.2.1,v1.2.2.2.2.2.1,v1.2.2.2.2.2.2.1,v1.2.2.2.2.2.2.2.1,v1.2.2.2.2.2.2.2.2.1,v1.2.2.2.2.2.2.2.2.2.1,v1.2.2.2.2.2.2.2.2.2.2.1,v1.2.2.2.2.2.2.2.2.2.2.2,()),()),())
abbrev yF6 (v0:dA):(yfk).X:=((((),()),((),()),()),((v0.1,v0.2.1.1,v0.2.1.2,v0.2.2.1,v0.2.2.2.1,v0.2.2.2.2.1,v0.2.2.2.2.2.1,v0.2.2.2.2.2.2.1,v0.2.2.2.2.2.2.2.1,v0.2.2.2.2.2.2.2.2.1,v0.2.2.2.2.2.2.2.2.2.1,v0.2.2.2.2.2.2.2.2.2.2.1,v0.2.2.2.2.2.2.2.2.2.2.2,()),()),())
abbrev yFX (v0:dA):(ye9).X:=((((),()),()),((v0.1,v0.2.1.1,v0.2.1.2,v0.2.2.1,v0.2.2.2.1,v0.2.2.2.2.1,v0.2.2.2.2.2.1,v0.2.2.2.2.2.2.1,v0.2.2.2.2.2.2.2.1,v0.2.2.2.2.2.2.2.2.1,v0.2.2.2.2.2.2.2.2.2.1,v0.2.2.2.2.2.2.2.2.2.2.1,v0.2.2.2.2.2.2.2.2.2.2.2,()),()),())
abbrev yF9 (v0:Bool):(yfn).X:=(((v0,()),()),(),())
def ymX (v0 v1 v2 v3:Int) (v4:List dM) (v5 v6 v7 v8 v9:Int) (v10:List dW) (v11:Int) (v12 v13:Bool):Option ((ybU).X ⊕ ((ye9).X ⊕ (yfn).X)) :=bif(ltb v0 (v4.length:Int))then bif(inb v0 v4.length)then let r3:=yU ((nth v4 v0 ([],[],false,[])).1,((nth v4 v0 ([],[],false,[])).2).1,(((nth v4 v0 ([],[],false,[])).2).2));bif(!(!r3))then let r4:=ybK (v2,v3);bif(!((((nth v4 v0 ([],[],false,[])).1).length:Int) !=r4))then bif(((nth v4 v0 ([],[],false,[])).2).2).1 then bif(v0 !=v5)then bif(!v13)then some (.inr (.inr (((false,()),()),(),()))) else some (.inl ((((),()),((i64.wrap (v0+1)),()),()),((v1,v2,v3,v4,v5,v6,v7,v8,v9,v10,v11,v12,v13,()),()),())) else some (.inl ((((),()),((i64.wrap (v0+1)),()),()),((v1,v2,v3,v4,v5,v6,v7,v8,v9,v10,v11,v12,v13,()),()),())) else some (.inl ((((),()),((i64.wrap (v0+1)),()),()),((v1,v2,v3,v4,v5,v6,v7,v8,v9,v10,v11,v12,v13,()),()),())) else some (.inr (.inr (((false,()),()),(),()))) else some (.inr (.inr (((false,()),()),(),()))) else none else some (.inr (.inl ((((),()),()),((v1,v2,v3,v4,v5,v6,v7,v8,v9,v10,v11,v12,v13,()),()),())))
def ycd (x:(ybU).X):=ymX x.1.2.1.1 x.2.1.1.1 x.2.1.1.2.1 x.2.1.1.2.2.1 x.2.1.1.2.2.2.1 x.2.1.1.2.2.2.2.1 x.2.1.1.2.2.2.2.2.1 x.2.1.1.2.2.2.2.2.2.1 x.2.1.1.2.2.2.2.2.2.2.1 x.2.1.1.2.2.2.2.2.2.2.2.1 x.2.1.1.2.2.2.2.2.2.2.2.2.1 x.2.1.1.2.2.2.2.2.2.2.2.2.2.1 x.2.1.1.2.2.2.2.2.2.2.2.2.2.2.1 x.2.1.1.2.2.2.2.2.2.2.2.2.2.2.2.1
def yv1 (x:(yfk).X):(ybU).X:=((((),()),(0,()),()),((x.2.1.1.1,x.2.1.1.2.1,x.2.1.1.2.2.1,x.2.1.1.2.2.2.1,x.2.1.1.2.2.2.2.1,x.2.1.1.2.2.2.2.2.1,x.2.1.1.2.2.2.2.2.2.1,x.2.1.1.2.2.2.2.2.2.2.1,x.2.1.1.2.2.2.2.2.2.2.2.1,x.2.1.1.2.2.2.2.2.2.2.2.2.1,x.2.1.1.2.2.2.2.2.2.2.2.2.2.1,x.2.1.1.2.2.2.2.2.2.2.2.2.2.2.1,x.2.1.1.2.2.2.2.2.2.2.2.2.2.2.2.1,()),()),())
def yxO:Code:=(zd7 ym8 64 52).getD .skip
theorem yHk:zd7 ym8 64 13=some (.block 0 (.loop yxO)):=by kernel_rfl
theorem yJ0 (x:(ybU).X):zhu ⟨yt8,51,yzp⟩ 0 yxO 52 ybU ye9 yfn x=ycd x:=by kernel_rfl
def ywc (x:(yfk).X):Nat:=18446744073709551616
def ynK (x:(yfk).X):Option ((ye9).X ⊕ (yfn).X):=zF ycd (ywc x) (yv1 x)
def yww:Seg:=⟨yfk,ye9,yfn,ynK⟩
def yKq:Nat→Option Seg:=fun q=>bif Nat.beq q 13 then some yww else yzp q
theorem yH2:FrOk prog ⟨yt8,51,yKq⟩ ym8:=(yH1).loop (sg:=yww) ybU yv1 (by decide) yHk ycd ywc (by decide) (fun _=>rfl) (fun x r _ h=>h) yJ0
abbrev yiN:List Par:= [.rd tA]
abbrev ynn:List OT:= [⟨false,tB,.fz⟩]
def yqB (a0:dA):Option (zaY ynn×zak yiN) :=zkt (ynK ((((),()),((),()),()),((a0.1,a0.2.1.1,a0.2.1.2,a0.2.2.1,a0.2.2.2.1,a0.2.2.2.2.1,a0.2.2.2.2.2.1,a0.2.2.2.2.2.2.1,a0.2.2.2.2.2.2.2.1,a0.2.2.2.2.2.2.2.2.1,a0.2.2.2.2.2.2.2.2.2.1,a0.2.2.2.2.2.2.2.2.2.2.1,a0.2.2.2.2.2.2.2.2.2.2.2,()),()),())) (fun y4 =>some ((((y4.2.1.1.2.2.2.1.length:Int)==y4.2.1.1.2.1),()),())) (fun y4 =>some ((y4.1.1.1,()),()))
theorem yMG:ConOk prog 151 ⟨yiN,ynn,fun x=>yqB x.1⟩:=zkI (yH2) func151 ntmps151.symm fun x=>by kernel_rfl
def yi0 (a0:dA):Bool:=yiS a0
def yvd (a0:dA):Bool:=ye a0.2.1
theorem yOJ (a0:dA) (hk:zjx yiN (a0,())) (hq:yvd a0=true):yqB a0=(fun n=>some ((n,()),())) (yi0 a0):=by
 have hb:a0.2.2.1.length*80≤2^47:=hk.1.2.2.1.1;have hg:=yk.1 hq
 have h1:ynK (yF6 a0)=some (bif(List.range a0.2.2.1.length).any (yfp a0)then .inr (yF9 false)else .inl (yFX a0)) :=
  zji (step:=ycd) (fun i=>ymu i a0) a0.2.2.1.length (yfp a0) _ _ (fun i hi=>by
   simp only[ycd,ymu,ymX,zky (show(i:Int)<a0.2.2.1.length by omega),cond_true,wq ((i:Int)+1) (by omega) (by omega),Int.natCast_add,Int.natCast_one,Int.toNat_natCast,zkR hi,zkX,yU,yfp,ybK,wq (6+a0.2.1.2) (by omega) (by omega),yc]
   cases yq (nth a0.2.2.1 i ([],[],false,[]))<;>cases(((nth a0.2.2.1 i ([],[],false,[])).1.length:Int) !=6+a0.2.1.2)<;>cases(nth a0.2.2.1 i ([],[],false,[])).2.2.1<;>cases((i:Int) !=a0.2.2.2.1)<;>cases a0.2.2.2.2.2.2.2.2.2.2.2<;>rfl) (by simp only[ycd,ymu,ymX,zk3 (Int.le_refl _),cond_false]) _ (by show _<18446744073709551616; omega)
 unfold yqB yi0 yiS;rw[h1];cases(List.range a0.2.2.1.length).any (yfp a0)<;>rfl
def yns (a0:dA):Option (zaY ynn×zak yiN):=bif yvd a0 then(fun n=>some ((n,()),())) (yi0 a0)else none
theorem yPy (a0:dA) (h:yvd a0=true):yns a0=(fun n=>some ((n,()),())) (yi0 a0):=by unfold yns; rw[h]; rfl
def yzU:Con:=⟨yiN,ynn,fun x=>yns x.1⟩
theorem yPq:ConOk prog 151 yzU:=(yMG).mono (fun x r hk h=>zkY h (fun hq=>yOJ x.1 hk hq))
def ylq:Code:=(f152.body).getD .skip
def yrE:Env:=zkw TT [(82,yj),(200,yfo)] []
theorem yFL:FrOk prog ⟨yrE,57,fun _=>none⟩ ylq:=zkA mixed yd ⟨ym,ykn,trivial⟩
def ywU:Nat→Option Seg:=fun _=>none
def ybk:Shape:=⟨[(1,false,[.ptr 0 0]),(3,false,[.int .i64])],[(0,[.int .i64,.int .i64,.int .i64,.br tM,.int .i64,.int .i64,.int .i64,.int .i64,.int .i64,.br tW,.int .i64,.bool,.bool])],[]⟩
def yew:Shape:=⟨[(1,false,[.ptr 0 0]),(3,false,[.ci .i64 0])],[(0,[.int .i64,.int .i64,.int .i64,.br tM,.int .i64,.int .i64,.int .i64,.int .i64,.int .i64,.br tW,.int .i64,.bool,.bool])],[]⟩
def yek:Shape:=⟨[],[],[]⟩
def yeB:Shape:=⟨[(2,false,[.bool])],[],[]⟩
abbrev ykX (v0:Int) (v1:dA):(ybk).X:=((((),()),(v0,()),()),((v1.1,v1.2.1.1,v1.2.1.2,v1.2.2.1,v1.2.2.2.1,v1.2.2.2.2.1,v1.2.2.2.2.2.1,v1.2.2.2.2.2.2.1,v1.2.2.2.2.2.2.2.1,v1.2.2.2.2.2.2.2.2.1,v1.2.2.2.2.2.2.2.2.2.1,v1.2.2.2.2.2.2.2.2.2.2.1,v1.2.2.2.2.2.2.2.2.2.2.2,()),()),())
abbrev yD5 (v0:dA):(yew).X:=((((),()),((),()),()),((v0.1,v0.2.1.1,v0.2.1.2,v0.2.2.1,v0.2.2.2.1,v0.2.2.2.2.1,v0.2.2.2.2.2.1,v0.2.2.2.2.2.2.1,v0.2.2.2.2.2.2.2.1,v0.2.2.2.2.2.2.2.2.1,v0.2.2.2.2.2.2.2.2.2.1,v0.2.2.2.2.2.2.2.2.2.2.1,v0.2.2.2.2.2.2.2.2.2.2.2,()),()),())
abbrev yDT  :(yek).X:=((),(),())
abbrev yEa (v0:Bool):(yeB).X:=(((v0,()),()),(),())
def yli (v0 v1 v2 v3:Int) (v4:List dM) (v5 v6 v7 v8 v9:Int) (v10:List dW) (v11:Int) (v12 v13:Bool):Option ((ybk).X ⊕ ((yek).X ⊕ (yeB).X)) :=bif(ltb v0 (v10.length:Int))then bif(inb v0 v10.length)then let r3:=ya ((nth v10 v0 (0,[])).1) 0 (i64.wrap (v3-1));bif(!(!r3))then bif(!((((nth v10 v0 (0,[])).2).length:Int) !=(i64.wrap (v2-1))))then let r4:=yG ((nth v10 v0 (0,[])).2);bif(!(!r4))then bif(ltb 0 v0)then bif(inb (i64.wrap (v0-1)) v10.length)then bif(leb ((nth v10 v0 (0,[])).1) ((nth v10 (i64.wrap (v0-1)) (0,[])).1))then some (.inr (.inr (((false,()),()),(),()))) else some (.inl ((((),()),((i64.wrap (v0+1)),()),()),((v1,v2,v3,v4,v5,v6,v7,v8,v9,v10,v11,v12,v13,()),()),())) else none else some (.inl ((((),()),((i64.wrap (v0+1)),()),()),((v1,v2,v3,v4,v5,v6,v7,v8,v9,v10,v11,v12,v13,()),()),())) else some (.inr (.inr (((false,()),()),(),()))) else some (.inr (.inr (((false,()),()),(),()))) else some (.inr (.inr (((false,()),()),(),()))) else none else some (.inr (.inl ((),(),())))
def ybC (x:(ybk).X):=yli x.1.2.1.1 x.2.1.1.1 x.2.1.1.2.1 x.2.1.1.2.2.1 x.2.1.1.2.2.2.1 x.2.1.1.2.2.2.2.1 x.2.1.1.2.2.2.2.2.1 x.2.1.1.2.2.2.2.2.2.1 x.2.1.1.2.2.2.2.2.2.2.1 x.2.1.1.2.2.2.2.2.2.2.2.1 x.2.1.1.2.2.2.2.2.2.2.2.2.1 x.2.1.1.2.2.2.2.2.2.2.2.2.2.1 x.2.1.1.2.2.2.2.2.2.2.2.2.2.2.1 x.2.1.1.2.2.2.2.2.2.2.2.2.2.2.2.1
def yto (x:(yew).X):(ybk).X:=((((),()),(0,()),()),((x.2.1.1.1,x.2.1.1.2.1,x.2.1.1.2.2.1,x.2.1.1.2.2.2.1,x.2.1.1.2.2.2.2.1,x.2.1.1.2.2.2.2.2.1,x.2.1.1.2.2.2.2.2.2.1,x.2.1.1.2.2.2.2.2.2.2.1,x.2.1.1.2.2.2.2.2.2.2.2.1,x.2.1.1.2.2.2.2.2.2.2.2.2.1,x.2.1.1.2.2.2.2.2.2.2.2.2.2.1,x.2.1.1.2.2.2.2.2.2.2.2.2.2.2.1,x.2.1.1.2.2.2.2.2.2.2.2.2.2.2.2.1,()),()),())
def yvC:Code:=(zd7 ylq 64 52).getD .skip
theorem yE9:zd7 ylq 64 13=some (.block 0 (.loop yvC)):=by kernel_rfl
theorem yGP (x:(ybk).X):zhu ⟨yrE,57,ywU⟩ 0 yvC 52 ybk yek yeB x=ybC x:=by kernel_rfl
def ytD (x:(yew).X):Nat:=18446744073709551616
def ymc (x:(yew).X):Option ((yek).X ⊕ (yeB).X):=zF ybC (ytD x) (yto x)
def yt2:Seg:=⟨yew,yek,yeB,ymc⟩
def yG6:Nat→Option Seg:=fun q=>bif Nat.beq q 13 then some yt2 else ywU q
theorem yFM:FrOk prog ⟨yrE,57,yG6⟩ ylq:=(yFL).loop (sg:=yt2) ybk yto (by decide) yE9 ybC ytD (by decide) (fun _=>rfl) (fun x r _ h=>h) yGP
abbrev yht:List Par:= [.rd tA]
abbrev ylF:List OT:= [⟨false,tB,.fz⟩]
def yoq (a0:dA):Option (zaY ylF×zak yht) :=zkt (ymc ((((),()),((),()),()),((a0.1,a0.2.1.1,a0.2.1.2,a0.2.2.1,a0.2.2.2.1,a0.2.2.2.2.1,a0.2.2.2.2.2.1,a0.2.2.2.2.2.2.1,a0.2.2.2.2.2.2.2.1,a0.2.2.2.2.2.2.2.2.1,a0.2.2.2.2.2.2.2.2.2.1,a0.2.2.2.2.2.2.2.2.2.2.1,a0.2.2.2.2.2.2.2.2.2.2.2,()),()),())) (fun y4 =>some ((true,()),())) (fun y4 =>some ((y4.1.1.1,()),()))
theorem yJu:ConOk prog 152 ⟨yht,ylF,fun x=>yoq x.1⟩:=zkI (yFM) func152 ntmps152.symm fun x=>by kernel_rfl
def yhS (a0:dA):Bool:=yaB a0.2.1 a0.2.2.2.2.2.2.2.2.1
def ysC (a0:dA):Bool:=ye a0.2.1
theorem yvg (l:List Int):yG l=l.all isW:=by
 unfold yG;rw[show yS=isW from funext fun x=>by unfold yS; rw[ycf]; rfl]
theorem yMc (a0:dA) (hk:zjx yht (a0,())) (hq:ysC a0=true):yoq a0=(fun n=>some ((n,()),())) (yhS a0):=by
 have hb:a0.2.2.2.2.2.2.2.2.1.length*32≤2^47:=hk.1.2.2.2.2.2.2.2.2.1.1;have hg:=yk.1 hq
 have h1:ymc (yD5 a0)=some (bif(List.range a0.2.2.2.2.2.2.2.2.1.length).any (yfK a0.2.1 a0.2.2.2.2.2.2.2.2.1)then .inr (yEa false)else .inl yDT) :=
  zji (step:=ybC) (fun i=>ykX i a0) a0.2.2.2.2.2.2.2.2.1.length (yfK a0.2.1 a0.2.2.2.2.2.2.2.2.1) _ _ (fun i hi=>by
   simp only[ybC,ykX,yli,zky (show(i:Int)<a0.2.2.2.2.2.2.2.2.1.length by omega),cond_true,wq ((i:Int)+1) (by omega) (by omega),Int.natCast_add,Int.natCast_one,Int.toNat_natCast,zkR hi,ycf,yvg,wq (a0.2.1.2-1) (by omega) (by omega),wq (a0.2.1.1-1) (by omega) (by omega),yfK];rcases Nat.eq_zero_or_pos i with rfl | h0
   ·cases(leb 0 (nth a0.2.2.2.2.2.2.2.2.1 ((0:Nat):Int) (0,[])).1&&leb (nth a0.2.2.2.2.2.2.2.2.1 ((0:Nat):Int) (0,[])).1 (a0.2.1.2-1))<;>cases(((nth a0.2.2.2.2.2.2.2.2.1 ((0:Nat):Int) (0,[])).2.length:Int) !=a0.2.1.1-1)<;>cases((nth a0.2.2.2.2.2.2.2.2.1 ((0:Nat):Int) (0,[])).2.all isW)<;>rfl
   ·rw[show i64.wrap ((i:Int)-1)=((i-1:Nat):Int)by rw[wr (by omega) (by omega)]; omega,zkR (show i-1<a0.2.2.2.2.2.2.2.2.1.length by omega),zky (show(0:Int)<i by omega),decide_eq_true h0]
    cases(leb 0 (nth a0.2.2.2.2.2.2.2.2.1 (i:Int) (0,[])).1&&leb (nth a0.2.2.2.2.2.2.2.2.1 (i:Int) (0,[])).1 (a0.2.1.2-1))<;>cases(((nth a0.2.2.2.2.2.2.2.2.1 (i:Int) (0,[])).2.length:Int) !=a0.2.1.1-1)<;>cases((nth a0.2.2.2.2.2.2.2.2.1 (i:Int) (0,[])).2.all isW)<;>cases leb (nth a0.2.2.2.2.2.2.2.2.1 (i:Int) (0,[])).1 (nth a0.2.2.2.2.2.2.2.2.1 ((i-1:Nat):Int) (0,[])).1<;>rfl) (by simp only[ybC,ykX,yli,zk3 (Int.le_refl _),cond_false]) _ (by show _<18446744073709551616; omega)
 unfold yoq yhS yaB;rw[h1];cases(List.range a0.2.2.2.2.2.2.2.2.1.length).any (yfK a0.2.1 a0.2.2.2.2.2.2.2.2.1)<;>rfl
def ylZ (a0:dA):Option (zaY ylF×zak yht):=bif ysC a0 then(fun n=>some ((n,()),())) (yhS a0)else none
theorem yM8 (a0:dA) (h:ysC a0=true):ylZ a0=(fun n=>some ((n,()),())) (yhS a0):=by unfold ylZ; rw[h]; rfl
def yx5:Con:=⟨yht,ylF,fun x=>ylZ x.1⟩
theorem yM4:ConOk prog 152 yx5:=(yJu).mono (fun x r hk h=>zkY h (fun hq=>yMc x.1 hk hq))
def yRt:Code:=(f78.body).getD .skip
def yRH:Env:=zkw TT [(82,yj),(150,yeQ),(151,yzU),(152,yx5)] []
theorem yLa:FrOk prog ⟨yRH,78,fun _=>none⟩ yRt:=zkA mixed yd ⟨ym,yi2,yPq,yM4,trivial⟩
abbrev ypo:List Par:= [.rd tA]
abbrev yxm:List OT:= [⟨false,tB,.fz⟩]
def ysH (a0:dA):Option (zaY yxm×zak ypo) :=let r1:=ye a0.2.1;bif(!(!r1))then let r2:=ya a0.1 1 60000;bif(!(!r2))then bnd (yns a0) fun r3 =>bif(!(!r3.1.1))then bnd (ylZ a0) fun r4 =>bif(!r4.1.1)then some ((false,()),()) else let r5:=ya a0.2.2.2.1 (-1) (i64.wrap (a0.2.1.1-1));bif(!(!r5))then let r6:=ya a0.2.2.2.2.1 0 a0.2.1.2;bif(!(!r6))then bif(a0.2.2.2.1==(-1))then bif(a0.2.2.2.2.1 !=0)then some ((false,()),()) else let r7:=ya a0.2.2.2.2.2.2.1 0 60000;bif r7 then let r8:=ya a0.2.2.2.2.2.1 a0.2.2.2.2.2.2.1 60000;bif r8 then bif(leb a0.2.2.2.2.2.1 (i64.wrap (a0.2.2.2.2.2.2.1+4)))then let r9:=ya a0.2.2.2.2.2.2.2.1 0 60000;bif r9 then let r10:=ya a0.2.2.2.2.2.2.2.2.2.1 (-1) 1000;some ((r10,()),()) else some ((false,()),()) else some ((false,()),()) else some ((false,()),()) else some ((false,()),()) else let r11:=ya a0.2.2.2.2.2.2.1 0 60000;bif r11 then let r12:=ya a0.2.2.2.2.2.1 a0.2.2.2.2.2.2.1 60000;bif r12 then bif(leb a0.2.2.2.2.2.1 (i64.wrap (a0.2.2.2.2.2.2.1+4)))then let r13:=ya a0.2.2.2.2.2.2.2.1 0 60000;bif r13 then let r14:=ya a0.2.2.2.2.2.2.2.2.2.1 (-1) 1000;some ((r14,()),()) else some ((false,()),()) else some ((false,()),()) else some ((false,()),()) else some ((false,()),()) else some ((false,()),()) else some ((false,()),()) else some ((false,()),()) else some ((false,()),()) else some ((false,()),())
theorem yOU:ConOk prog 78 ⟨ypo,yxm,fun x=>ysH x.1⟩:=zkI (yLa) func78 ntmps78.symm fun x=>by kernel_rfl
def yag (a0:dA):Bool:=yP a0
theorem yQT (a0:dA) (hk:zjx ypo (a0,())):ysH a0=(fun n=>some ((n,()),())) (yag a0):=by
 unfold ysH yag yP;simp only[ycf];cases hg:ye a0.2.1
 ·rfl
 have hg2:=yk.1 hg;rw[yPy a0 hg,yM8 a0 hg,wq (a0.2.1.1-1) (by omega) (by omega)];simp only[zkH,yi0,yhS,Bool.not_not,cond_true];cases(leb 1 a0.1&&leb a0.1 60000)
 ·rfl
 cases yiS a0
 ·rfl
 cases yaB a0.2.1 a0.2.2.2.2.2.2.2.2.1
 ·rfl
 cases(leb (-1) a0.2.2.2.1&&leb a0.2.2.2.1 (a0.2.1.1-1))
 ·rfl
 cases(leb 0 a0.2.2.2.2.1&&leb a0.2.2.2.2.1 a0.2.1.2)
 ·rfl
 have ht:(leb 0 a0.2.2.2.2.2.2.1&&leb a0.2.2.2.2.2.2.1 60000)=true→i64.wrap (a0.2.2.2.2.2.2.1+4)=a0.2.2.2.2.2.2.1+4:=fun h=>by
  rw[Bool.and_eq_true,zj7,zj7]at h;exact wr (by omega) (by omega)
 cases hT:(leb 0 a0.2.2.2.2.2.2.1&&leb a0.2.2.2.2.2.2.1 60000)
 ·cases(a0.2.2.2.1== -1)<;>cases(a0.2.2.2.2.1 !=0)<;>rfl
 rw[ht hT];cases(leb a0.2.2.2.2.2.2.1 a0.2.2.2.2.2.1&&leb a0.2.2.2.2.2.1 60000)
 ·cases(a0.2.2.2.1== -1)<;>cases(a0.2.2.2.2.1 !=0)<;>rfl
 cases leb a0.2.2.2.2.2.1 (a0.2.2.2.2.2.2.1+4)
 ·cases(a0.2.2.2.1== -1)<;>cases(a0.2.2.2.2.1 !=0)<;>rfl
 cases(leb 0 a0.2.2.2.2.2.2.2.1&&leb a0.2.2.2.2.2.2.2.1 60000)<;>cases(a0.2.2.2.1== -1)<;>cases(a0.2.2.2.2.1 !=0)<;>rfl
def yhE:Con:=⟨ypo,yxm,fun x=>(fun n=>some ((n,()),())) (yag x.1)⟩
theorem ynu:ConOk prog 78 yhE:=(yOU).mono (fun x r hk h=>(yQT x.1 hk).trans h)
def yRy:Code:=(f80.body).getD .skip
def yRM:Env:=zkw TT [(72,yr)] []
theorem yLl:FrOk prog ⟨yRM,12,fun _=>none⟩ yRy:=zkA mixed yd ⟨yD,trivial⟩
abbrev yxb:List Par:= [.pt tU .fz,.rd tL]
abbrev yxt:List OT:= [⟨false,tI,.fz⟩]
def yp (a0:dU) (a1:List Int):Option (zaY yxt×zak yxb) :=bnd (yb a0 (a1.length:Int)) fun r1 =>bif(inb r1.1.1 a1.length)then some (((nth a1 r1.1.1 0),()),(r1.2.1,())) else none
theorem yO1:ConOk prog 80 ⟨yxb,yxt,fun x=>yp x.1 x.2.1⟩:=zkI (yLl) func80 ntmps80.symm fun x=>by kernel_rfl
def yb1:Con:=⟨yxb,yxt,fun x=>yp x.1 x.2.1⟩
theorem yd6:ConOk prog 80 yb1:=yO1
theorem yhH (u:List Int×Int×Int) (l:List Int) (h:yx u) (hl:l≠ []): ∃(r:Int) (u':List Int×Int×Int),yp u l=some ((r,()),(u',()))∧r∈l∧yx u':=by
 unfold yp;obtain⟨r1,u1,e1,q1,d1⟩:=yu u (l.length:Int) h;have hp:0<l.length:=List.length_pos_iff.2 hl;have hr:=q1.2.1 (by omega);simp only[e1,zkH,zj6.2 ⟨q1.1,hr⟩,cond_true];refine⟨_,_,rfl,?_,d1⟩;have:r1.toNat<l.length:=by have:=q1.1; omega
 unfold nth;rw[List.getD_eq_getElem?_getD,List.getElem?_eq_getElem this,Option.getD_some];exact List.getElem_mem this
def yQe:Code:=(f91.body).getD .skip
def yQC:Env:=zkw TT [] []
theorem yHJ:FrOk prog ⟨yQC,8,fun _=>none⟩ yQe:=zkA mixed yd trivial
abbrev yul:List Par:= [.rd tI]
abbrev yuK:List OT:= [⟨false,tI,.fz⟩]
def yAr (a0:Int):Option (zaY yuK×zak yul) :=bif(ltb a0 0)then some (((-1),()),()) else some (((i64.wrap (2+(a0.tmod 4))),()),())
theorem yMv:ConOk prog 91 ⟨yul,yuK,fun x=>yAr x.1⟩:=zkI (yHJ) func91 ntmps91.symm fun x=>by kernel_rfl
def yiZ (a0:Int):Int :=bif(ltb a0 0)then (-1) else (i64.wrap (2+(a0.tmod 4)))
def yzO:Con:=⟨yul,yuK,fun x=>(fun n=>some ((n,()),())) (yiZ x.1)⟩
theorem yOD (a0:Int):yAr a0=(fun n=>some ((n,()),())) (yiZ a0):=zkV (p:=fun(n:Int)=>((n,()),())) (zkG (p:=fun(n:Int)=>((n,()),())) rfl rfl)
theorem yPk:ConOk prog 91 yzO:=(yMv).mono (fun x r _ h=>(yOD x.1).trans h)
def yQa:Code:=(f113.body).getD .skip
def yQy:Env:=zkw TT [(82,yj)] []
theorem yHD:FrOk prog ⟨yQy,9,fun _=>none⟩ yQa:=zkA mixed yd ⟨ym,trivial⟩
abbrev yuk:List Par:= [.rd tI]
abbrev yuF:List OT:= [⟨false,tI,.fz⟩]
def yAq (a0:Int):Option (zaY yuF×zak yuk) :=let r1:=ya a0 0 1099511627776;bif(!r1)then some (((-1),()),()) else some (((i64.wrap ((i64.wrap (a0+2))+4)),()),())
theorem yMq:ConOk prog 113 ⟨yuk,yuF,fun x=>yAq x.1⟩:=zkI (yHD) func113 ntmps113.symm fun x=>by kernel_rfl
def yK (a0:Int):Int :=let r1:=ya a0 0 1099511627776;bif(!r1)then (-1) else (i64.wrap ((i64.wrap (a0+2))+4))
def yay:Con:=⟨yuk,yuF,fun x=>(fun n=>some ((n,()),())) (yK x.1)⟩
theorem yOy (a0:Int):yAq a0=(fun n=>some ((n,()),())) (yK a0):=zkV (p:=fun(n:Int)=>((n,()),())) (zkG (p:=fun(n:Int)=>((n,()),())) rfl rfl)
theorem yb3:ConOk prog 113 yay:=(yMq).mono (fun x r _ h=>(yOy x.1).trans h)
theorem yaZ (s:Int):yK s=ybG s:=by
 unfold yK ybG;rw[ycf];by_cases h:0≤s∧s≤1099511627776
 ·rw[zk2 h.1,zk2 h.2,wq (s+2) (by omega) (by omega),wr (by omega) (by omega)]
  show s+2+4=s+6;omega
 ·cases h1:(leb 0 s&&leb s 1099511627776)
  ·rfl
  ·rw[Bool.and_eq_true,zj7,zj7]at h1; exact absurd h1 h
end
end Go.Tf
