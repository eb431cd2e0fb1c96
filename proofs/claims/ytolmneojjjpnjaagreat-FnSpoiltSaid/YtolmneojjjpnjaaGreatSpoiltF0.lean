/- Functions of the program, and what they come to. -/
import Derived.Test.YtolmneojjjpnjaaGreatSpoiltTt
import Derived.Shelf.SlLaysM
import Derived.Shelf.SlLaysN
import Derived.Shelf.SlicesG.CompactI
import Derived.Shelf.SortM.Plain
namespace Go.Tf
noncomputable section
open Go.Proofs Go.Proofs.Tryz IntKind
set_option synthInstance.maxHeartbeats 400000
set_option synthInstance.maxSize 10000
set_option linter.unusedVariables false
set_option linter.unusedSimpArgs false
set_option maxRecDepth 100000
def yTR:Code:=(f14.body).getD .skip
def yTS:Env:=zkw TT [] []
theorem yRv:FrOk prog ⟨yTS,6,fun _=>none⟩ yTR:=zkA mixed yc trivial
abbrev yCa:List Par:= [.rd tYs]
abbrev yCb:List OT:= [⟨false,tB,.fz⟩]
def yE4 (a0:List Int):Option (zaY yCb×zak yCa) :=some (((ltb 1048576 (a0.length:Int)),()),())
theorem ySZ:ConOk prog 14 ⟨yCa,yCb,fun x=>yE4 x.1⟩:=zkI (yRv) func14 ntmps14.symm fun x=>by kernel_rfl
def ywQ (a0:List Int):Bool :=(ltb 1048576 (a0.length:Int))
def yDM:Con:=⟨yCa,yCb,fun x=>(fun n=>some ((n,()),())) (ywQ x.1)⟩
theorem yTu (a0:List Int):yE4 a0=(fun n=>some ((n,()),())) (ywQ a0):=zkV (p:=fun(n:Bool)=>((n,()),())) rfl
theorem yTw:ConOk prog 14 yDM:=(ySZ).mono (fun x r _ h=>(yTu x.1).trans h)
def yag {α:Type} (p:α→Bool) (l:List α):Int:=bif l.any p then((l.takeWhile (fun x=> !p x)).length:Int)else -1
theorem yQj {α:Type} (p:α→Bool):yag p []= -1:=rfl
theorem ywN {α:Type} (p:α→Bool) (x:α) (l:List α):yag p (x::l)=bif p x then 0 else bif leb 0 (yag p l)then yag p l+1 else -1:=by
 unfold yag;rw[List.any_cons,List.takeWhile_cons];cases p x
 ·cases l.any p
  ·rfl
  ·simp only[Bool.false_or,Bool.not_false,if_true,cond_true,cond_false,List.length_cons]
   rw[zk2 (show(0:Int)≤((l.takeWhile (fun x=> !p x)).length:Int)by omega),cond_true]; omega
 ·simp
theorem yoq {α:Type} {p:α→Bool} {d:α}: ∀{l:List α},leb 0 (yag p l)=true→inb (yag p l) l.length=true∧p (nth l (yag p l) d)=true
 | [],h=>by rw[yQj]at h; cases h
 | x::l,h=>by
  rw[ywN]at h ⊢;cases hx:p x
  ·rw[hx]at h
   cases hl:leb 0 (yag p l)
   ·rw[hl]at h; cases h
   ·obtain⟨h1,h2⟩:=yoq (d:=d) hl
    have h3:=zj6.1 h1;have h4:=zj7.1 hl;simp only[cond_false,cond_true,List.length_cons];refine⟨zj6.2 (by omega),?_⟩;unfold nth at h2 ⊢;rw[show(yag p l+1).toNat=(yag p l).toNat+1 by omega,List.getD_cons_succ];exact h2
  ·simp only[cond_true,List.length_cons]
   refine⟨zj6.2 (by omega),?_⟩;exact hx
theorem yQo {A B α:Type} {step:A→Option (A ⊕ B)} (l:List α) (d:α) (f:Nat→A) (p:α→Bool) (b:Int→B) (c:B)
  (h: ∀i,i<l.length→step (f i)=some (bif p (l.getD i d)then .inr (b i)else .inl (f (i+1)))) (e:step (f l.length)=some (.inr c)) (fuel:Nat) (hf:l.length<fuel) :
  zF step fuel (f 0)=some (bif leb 0 (yag p l)then b (yag p l)else c):=by
 have: ∀(t q:List α) (fuel:Nat),q++t=l→t.length<fuel→zF step fuel (f q.length)=some (bif leb 0 (yag p t)then b (q.length+yag p t)else c):=by
  intro t
  induction t with
  | nil =>
   intro q fuel hq hf;obtain⟨fuel,rfl⟩: ∃m,fuel=m+1:=⟨fuel-1,by omega⟩;rw[List.append_nil]at hq;subst hq;simp only[zF,e]; rfl
  | cons x t ih =>
   intro q fuel hq hf;obtain⟨fuel,rfl⟩: ∃m,fuel=m+1:=⟨fuel-1,by omega⟩
   have hx:l.getD q.length d=x:=by
    subst hq;rw[zkJ (by simp)]; simp
   have hs:=h q.length (by rw[← hq]; simp);rw[hx]at hs;rw[ywN];cases hp:p x
   ·rw[hp]at hs
    have:=ih (q++ [x]) fuel (by rw[← hq]; simp) (by simp at hf; omega);simp only[List.length_append,List.length_cons,List.length_nil]at this;simp only[zF,hs,cond_false];rw[show q.length+1=q.length+(0+1)by omega,this];cases hl:leb 0 (yag p t)
    ·rfl
    ·have:=zj7.1 hl
     rw[cond_true,cond_true,zk2 (show 0≤yag p t+1 by omega),cond_true];congr 2; omega
   ·rw[hp]at hs
    simp only[zF,hs,cond_true];rw[zk2 (Int.le_refl 0),cond_true,Int.add_zero]
 have:=this l [] fuel rfl hf;simpa using this
theorem ywK {α β:Type} (f:α→β): ∀(l:List α) (s:List β),l.foldl (fun s i=>s++ [f i]) s=s++l.map f
 | [],s=>by simp
 | x::l,s=>by rw[List.foldl_cons,ywK f l]; simp
theorem ysF {α:Type} (l:List α):l.foldl (fun s i=>s++ [i]) []=l:=by
 have:=ywK id l [];simpa using this
theorem yUB {α:Type} (l:List α) (d:α) {i:Nat} (h:i<l.length):l.take i++ [nth l i d]=l.take (i+1):=by rw[zkS,zkJ h,List.take_append_getElem h]
def ybV (e:dW) (s:Bool×List dW) (x:dW):Bool×List dW:=(s.1||leb e.1 x.1,(bif !s.1&&leb e.1 x.1 then s.2++ [e]else s.2)++(bif x.1 !=e.1 then[x]else[]))
def yEX (l:List dW) (e:dW):List dW:=bif(l.foldl (ybV e) (false,[])).1 then(l.foldl (ybV e) (false,[])).2 else(l.foldl (ybV e) (false,[])).2++ [e]
def yy4 (a:dA) (l:List dW):dA:=(a.1,a.2.1,a.2.2.1,a.2.2.2.1,a.2.2.2.2.1,a.2.2.2.2.2.1,a.2.2.2.2.2.2.1,a.2.2.2.2.2.2.2.1,l,a.2.2.2.2.2.2.2.2.2)
abbrev yf:dM:=([],[],false,[])
def isW (x:Int):Bool:=leb 0 x&&leb x 65535
def yad (s:List Int):Bool:=leb (s.length:Int) 12&&s.all isW
theorem ysI {x:Int}:isW x=true↔0≤x∧x≤65535:=by simp[isW,zj7]
theorem yAM {s:List Int}:yad s=true↔s.length≤12∧ ∀x∈s,0≤x∧x≤65535:=by
 simp only[yad,Bool.and_eq_true,zj7,List.all_eq_true,ysI];constructor
 ·rintro⟨h1,h2⟩; exact⟨by omega,h2⟩
 ·rintro⟨h1,h2⟩; exact⟨by omega,h2⟩
theorem yTD: ∀{l:List Int},l.Pairwise (· < ·)↔ ∀i,i+1<l.length→l.getD i 0<l.getD (i+1) 0
 | []=>by simp
 | [x]=>by simp
 | x::y::l=>by
  have ih:=yTD (l:=y::l);constructor
  ·intro h i hi
   cases h with
   | cons h1 h2 =>
    cases i with
    | zero=>exact h1 y List.mem_cons_self
    | succ i=>exact ih.1 h2 i (by simpa using hi)
  ·intro h
   have h2:(y::l).Pairwise (· < ·):=ih.2 fun i hi=>h (i+1) (by simpa using hi)
   refine .cons (fun z hz=> ?_) h2;have h3:x<y:=h 0 (by simp);rcases List.mem_cons.1 hz with rfl | hz
   ·exact h3
   ·cases h2 with
    | cons h4 _=>exact Int.lt_trans h3 (h4 z hz)
def yl7 (n:Nat) (l:List Int):Bool:=l.all (fun x=>inb x n)&&decide (l.Pairwise (· < ·))
def yo9 (n:Nat) (w:dW):Bool:=inb w.1 n&&yad w.2
def yu (m:dM):Bool:=m.1.all yad&&m.2.1.all (yo9 m.1.length)&&yl7 m.1.length m.2.2.2&&leb 1 (m.1.length:Int)&&leb (m.1.length:Int) 20&&leb (m.2.1.length:Int) 60
def yzD (n:Nat) (l:List Int) (i:Nat):Bool:= !(inb (l.getD i 0) n)||(decide (0<i)&&leb (l.getD i 0) (l.getD (i-1) 0))
theorem yQa (n:Nat) (l:List Int):(List.range l.length).any (yzD n l)= !(yl7 n l):=by
 rw[Bool.eq_iff_iff,List.any_eq_true,Bool.not_eq_true',yl7,Bool.and_eq_false_iff,decide_eq_false_iff_not,yTD,List.all_eq_false];simp only[List.mem_range,yzD,Bool.or_eq_true,Bool.not_eq_true',Bool.and_eq_true,decide_eq_true_eq,zj7];constructor
 ·rintro⟨i,hi,h | ⟨h1,h2⟩⟩
  ·exact .inl ⟨l[i],List.getElem_mem hi,by rw[zkJ hi]at h; simp[h]⟩
  ·refine .inr fun h3=> ?_
   have:=h3 (i-1) (by omega);rw[show i-1+1=i by omega]at this;omega
 ·rintro(⟨x,hx,h⟩ | h)
  ·obtain⟨i,hi,rfl⟩:=List.getElem_of_mem hx
   exact⟨i,hi,.inl (by rw[zkJ hi]; simpa using h)⟩
  ·refine Classical.byContradiction fun hc=>h fun i hi=> ?_
   refine Classical.byContradiction fun h4=>hc ⟨i+1,hi,.inr ⟨by omega,?_⟩⟩
   rw[Nat.add_sub_cancel]; omega
def yfP (n:Int) (c:List dW) (s:List Int):List Int:=c.foldl (fun s w=>bif w.1==n then w.2 else s) s
def ywT (m:dM) (n:Int):Bool:=yu m&&(!m.2.2.1&&(inb n m.1.length&& !(m.2.2.2.any (· ==n))))
def yf8 (m:dM) (n:Int):List Int×Bool:=bif ywT m n then(yfP n m.2.1 (nth m.1 n []),true)else([],false)
theorem yCz {P:List Int→Prop} {n:Int}: ∀{c:List dW} {s:List Int},P s→(∀w∈c,P w.2)→P (yfP n c s)
 | [],_,h,_=>h
 | w::c,s,h,hc=>yCz (c:=c) (zkQ (hc w List.mem_cons_self) h) (fun x hx=>hc x (List.mem_cons_of_mem _ hx))
theorem ywU {α:Type} {P:α→Prop} {l:List α} {i:Int} {d:α} (h:inb i l.length=true) (hl: ∀x∈l,P x):P (nth l i d):=by
 obtain⟨h1,h2⟩:=zj6.1 h;unfold nth;rw[zkJ (show i.toNat<l.length by omega)];exact hl _ (List.getElem_mem _)
theorem yOE {α:Type} {p:α→Bool} {l:List α} (h:leb 0 (yag p l)=false):yag p l= -1:=by
 unfold yag at h ⊢;cases ha:l.any p
 ·rfl
 ·rw[ha,cond_true,zk2 (show(0:Int)≤((l.takeWhile (fun x=> !p x)).length:Int)by omega)]at h; cases h
theorem yQk {α:Type} {p:α→Bool}: ∀{l:List α},leb 0 (yag p l)=true→(l.take ((yag p l).toNat+1)).filter (fun x=> !p x)=l.take (yag p l).toNat
 | [],h=>by rw[yQj]at h; cases h
 | x::l,h=>by
  rw[ywN]at h ⊢;cases hx:p x
  ·rw[hx]at h
   cases hl:leb 0 (yag p l)
   ·rw[hl]at h; cases h
   ·have h4:=zj7.1 hl
    simp only[cond_false,cond_true];rw[show(yag p l+1).toNat=(yag p l).toNat+1 by omega,List.take_succ_cons,List.take_succ_cons,List.filter_cons,hx,yQk hl]; rfl
  ·simp only[cond_true]
   show List.filter (fun x=> !p x) [x]= [];rw[List.filter_cons,hx]; rfl
theorem yU2 {α:Type} {p:α→Bool} {l:List α} (h:leb 0 (yag p l)=false):l.filter (fun x=> !p x)=l:=by
 rw[List.filter_eq_self];intro x hx;unfold yag at h;cases ha:l.any p
 ·have:=List.any_eq_false.1 ha x hx
  simpa using this
 ·rw[ha,cond_true,zk2 (show(0:Int)≤((l.takeWhile (fun x=> !p x)).length:Int)by omega)]at h; cases h
def yU (a:dA):dA:=(a.1,a.2.1,a.2.2.1,a.2.2.2.1,a.2.2.2.2.1,i64.wrap (a.2.2.2.2.2.1+1),a.2.2.2.2.2.2)
def yy (s:Int):Int:=bif leb 0 s&&leb s 1099511627776 then s+6 else -1
def ybR (a:dA) (m s:Int):Bool:=inb m a.2.2.1.length&&(!(nth a.2.2.1 m yf).2.2.1&&(m !=a.2.2.2.1||ltb s a.2.2.2.2.1))
def ycB (a:dA) (m s:Int):List Int×Bool:=yf8 (nth a.2.2.1 m yf) (yy s)
def yn (a:dA) (m s:Int):Bool:=ybR a m s&&((ycB a m s).2&&((ycB a m s).1.length:Int)==1)
def ynm (a:dA) (m s:Int):Int:=bif yn a m s then nth (ycB a m s).1 0 0 else 0
def xw (a b:Int):Int:=i64.wrap ((BitVec.ofInt IntKind.i64.bits a ^^^ BitVec.ofInt IntKind.i64.bits b).toNat:Int)
def yai (l:List Int):Int:=l.foldl xw 0
def bv (x:Int):BitVec 64:=BitVec.ofInt 64 x
theorem ySd (a b:Int):xw a b=(bv a ^^^ bv b).toInt:=by
 show i64.wrap ((bv a ^^^ bv b).toNat:Int)=_;rw[IntKind.wrap_i64,BitVec.toInt_eq_toNat_cond];have:=(bv a ^^^ bv b).isLt;split<;>omega
theorem ysA (v:BitVec 64):bv v.toInt=v:=by unfold bv; simp
theorem yVe {x:Int} (h: -9223372036854775808≤x) (h2:x≤9223372036854775807):(bv x).toInt=x:=by
 unfold bv;rw[BitVec.toInt_ofInt,Int.bmod_def];simp only[Nat.reducePow]at *;omega
def yeb (l:List Int):BitVec 64:=l.foldl (fun v x=>v ^^^ bv x) 0#64
theorem ylJ (l:List Int):yai l=(yeb l).toInt:=by
 have: ∀(l:List Int) (v:BitVec 64),l.foldl xw v.toInt=(l.foldl (fun v x=>v ^^^ bv x) v).toInt:=by
  intro l
  induction l with
  | nil=>intro _; rfl
  | cons x l ih =>
   intro v;rw[List.foldl_cons,List.foldl_cons,ySd,ysA,ih]
 have h:=this l 0#64;rwa[show(0#64:BitVec 64).toInt=0 from by decide]at h
theorem yUN (l:List Int) (x:Int):yeb (l++ [x])=yeb l ^^^ bv x:=by unfold yeb; rw[List.foldl_append]; rfl
theorem yVm {i:Int} {n:Nat} (h: ¬(0≤i∧i<(n:Int))):inb i n=false:=by
 cases e:inb i n
 ·rfl
 ·exact absurd (zj6.1 e) h
def ylf (l:List Int) (k:Int):Int:=bif inb k l.length then xw (yai l) (nth l k 0)else yai l
theorem yQz (u v:BitVec 64):u ^^^ v ^^^ v=u:=by rw[BitVec.xor_assoc,BitVec.xor_self,BitVec.xor_zero]
theorem yUx (l:List Int) (k:Int):(List.range l.length).foldl (fun n (i:Nat)=>bif(i:Int) !=k then xw n (nth l i 0)else n) 0=ylf l k:=by
 have: ∀n,n≤l.length→(List.range n).foldl (fun n (i:Nat)=>bif(i:Int) !=k then xw n (nth l i 0)else n) 0=(bif inb k n then yeb (l.take n) ^^^ bv (nth l k 0)else yeb (l.take n)).toInt:=by
  intro n
  induction n with
  | zero =>
   intro _;rw[yVm (show ¬(0≤k∧k<((0:Nat):Int))by omega)];rfl
  | succ n ih =>
   intro hn;rw[List.range_succ,List.foldl_append,List.foldl_cons,List.foldl_nil,ih (by omega),← yUB l 0 (show n<l.length by omega),yUN];by_cases hk:(n:Int)=k
   ·subst hk
    rw[show((n:Int) !=n)=false by simp,cond_false,yVm (show ¬(0≤(n:Int)∧(n:Int)<(n:Int))by omega),show inb (n:Int) (n+1)=true from zkR (Nat.lt_succ_self n),cond_false,cond_true,yQz]
   ·rw[show((n:Int) !=k)=true from bne_iff_ne.2 hk,cond_true,show inb k (n+1)=inb k n by rw[Bool.eq_iff_iff,zj6,zj6]; omega,ySd,ysA]
    cases inb k n
    ·rfl
    ·rw[cond_true,cond_true,BitVec.xor_assoc,BitVec.xor_comm (bv (nth l k 0)),← BitVec.xor_assoc]
 rw[this l.length (Nat.le_refl _),List.take_length];unfold ylf;rw[ySd,ylJ,ysA];cases inb k l.length<;>rfl
theorem yUw {l:List Int} {k:Int} (h:inb k l.length=true) (h0:nth l k 0=0):ylf l k=yai l:=by
 unfold ylf;rw[h,h0,cond_true,ySd,ylJ,ysA,show bv 0=0#64 by decide,BitVec.xor_zero]
abbrev yhK:dA:=(0,(0,0),[],0,0,0,0,0,[],0,false,false)
def yfI (b:Nat→Bool) (c:List dW) (l:List (List Int)) (i:Nat):List (List Int):=bif b i then l.set (nth c i (0,[])).1.toNat (nth c i (0,[])).2 else l
def yia (b:Nat→Bool) (c:List dW) (l:List (List Int)):List (List Int):=(List.range c.length).foldl (yfI b c) l
theorem ybT {m:dM} (h:yu m=true):m.1.all yad=true∧m.2.1.all (yo9 m.1.length)=true∧yl7 m.1.length m.2.2.2=true∧1≤m.1.length∧m.1.length≤20∧m.2.1.length≤60:=by
 simp only[yu,Bool.and_eq_true,zj7]at h;exact⟨h.1.1.1.1.1,h.1.1.1.1.2,h.1.1.1.2,by omega,by omega,by omega⟩
theorem ySU {m:dM} (h:yu m=true) {i:Nat} (hi:i<m.2.1.length):inb (nth m.2.1 i (0,[])).1 m.1.length=true∧yad (nth m.2.1 i (0,[])).2=true:=by
 have h1:=List.all_eq_true.1 (ybT h).2.1 m.2.1[i] (List.getElem_mem hi);rw[zkS,zkJ hi];exact Bool.and_eq_true_iff.1 h1
theorem ywP {b:Nat→Bool} {c:List dW} {l:List (List Int)} {i:Nat}:(yfI b c l i).length=l.length:=by
 unfold yfI; cases b i
 ·rfl
 ·exact List.length_set
theorem yLp {α β:Type} (P:β→Prop) (f:β→α→β) (h: ∀s x,P s→P (f s x)): ∀(l:List α) (s:β),P s→P (l.foldl f s)
 | [],_,hs=>hs
 | x::l,s,hs=>yLp P f h l (f s x) (h s x hs)
theorem ytd {b:Nat→Bool} {c:List dW} {l:List (List Int)}:(yia b c l).length=l.length :=
 yLp (fun x=>x.length=l.length) _ (fun s x hs=>by rw[ywP]; exact hs) _ l rfl
theorem yTs {P:List Int→Prop} {b:Nat→Bool} {c:List dW} {l:List (List Int)} (hl: ∀x∈l,P x) (hc: ∀w∈c,P w.2): ∀x∈yia b c l,P x:=by
 have: ∀(n:Nat),n≤c.length→ ∀x∈(List.range n).foldl (yfI b c) l,P x:=by
  intro n
  induction n with
  | zero=>intro _; exact hl
  | succ n ih =>
   intro hn x hx;rw[List.range_succ,List.foldl_append,List.foldl_cons,List.foldl_nil,yfI]at hx;cases hb:b n
   ·rw[hb]at hx; exact ih (by omega) x hx
   ·rw[hb,cond_true]at hx
    rcases List.mem_or_eq_of_mem_set hx with h | h
    ·exact ih (by omega) x h
    ·rw[h,zkS,zkJ (show n<c.length by omega)]
     exact hc _ (List.getElem_mem _)
 exact this _ (Nat.le_refl _)
def ya9 (m:dM) (n:Int) (s:List Int):Bool:=yu m&&(!m.2.2.1&&(inb n m.1.length&&(yad s&&ltb (m.2.1.length:Int) 60)))
def yCH (l:List Int) (n:Int):List Int:=l.filter (· !=n)
def yX (m:dM) (n:Int) (s:List Int):dM×Bool:=bif ya9 m n s then((m.1,m.2.1++ [(n,s)],m.2.2.1,yCH m.2.2.2 n),true)else(m,false)
def yr (m:dM):dM:=bif yu m&& !m.2.2.1 then(yia (fun _=>true) m.2.1 m.1,[],m.2.2.1,m.2.2.2)else m
def yjI (m:dM):dM:=(m.1,[],true,m.2.2.2)
def yQL:Code:=(f81.body).getD .skip
def yRe:Env:=zkw TT [] []
theorem yId:FrOk prog ⟨yRe,15,fun _=>none⟩ yQL:=zkA mixed yc trivial
abbrev yuz:List Par:= [.rd tI,.rd tI,.rd tI]
abbrev yuY:List OT:= [⟨false,tB,.fz⟩]
def yAE (a0 a1 a2:Int):Option (zaY yuY×zak yuz) :=bif(leb a1 a0)then some (((leb a0 a2),()),()) else some ((false,()),())
theorem yMO:ConOk prog 81 ⟨yuz,yuY,fun x=>yAE x.1 x.2.1 x.2.2.1⟩:=zkI (yId) func81 ntmps81.symm fun x=>by kernel_rfl
def ye (a0 a1 a2:Int):Bool :=bif(leb a1 a0)then (leb a0 a2) else false
def yE:Con:=⟨yuz,yuY,fun x=>(fun n=>some ((n,()),())) (ye x.1 x.2.1 x.2.2.1)⟩
theorem yOV (a0 a1 a2:Int):yAE a0 a1 a2=(fun n=>some ((n,()),())) (ye a0 a1 a2):=zkV (p:=fun(n:Bool)=>((n,()),())) (zkG (p:=fun(n:Bool)=>((n,()),())) rfl rfl)
theorem yS:ConOk prog 81 yE:=(yMO).mono (fun x r _ h=>(yOV x.1 x.2.1 x.2.2.1).trans h)
def yTf:Code:=(f82.body).getD .skip
def yTh:Env:=zkw TT [] []
theorem yOA:FrOk prog ⟨yTh,15,fun _=>none⟩ yTf:=zkA mixed yc trivial
abbrev yAT:List Par:= [.rd tI,.rd tI,.rd tI]
abbrev yAW:List OT:= [⟨false,tB,.fz⟩]
def yCR (a0 a1 a2:Int):Option (zaY yAW×zak yAT) :=bif(leb a1 a0)then some (((leb a0 a2),()),()) else some ((false,()),())
theorem yRR:ConOk prog 82 ⟨yAT,yAW,fun x=>yCR x.1 x.2.1 x.2.2.1⟩:=zkI (yOA) func82 ntmps82.symm fun x=>by kernel_rfl
def ya (a0 a1 a2:Int):Bool :=bif(leb a1 a0)then (leb a0 a2) else false
def yz:Con:=⟨yAT,yAW,fun x=>(fun n=>some ((n,()),())) (ya x.1 x.2.1 x.2.2.1)⟩
theorem ySW (a0 a1 a2:Int):yCR a0 a1 a2=(fun n=>some ((n,()),())) (ya a0 a1 a2):=zkV (p:=fun(n:Bool)=>((n,()),())) (zkG (p:=fun(n:Bool)=>((n,()),())) rfl rfl)
theorem yF:ConOk prog 82 yz:=(yRR).mono (fun x r _ h=>(ySW x.1 x.2.1 x.2.2.1).trans h)
theorem yqO {a b c:Int}:ya a b c=true↔b≤a∧a≤c:=by
 unfold ya;cases h:leb b a
 ·have:=mt zk2 (by rw[h]; simp: ¬leb b a=true)
  simp[this]
 ·simp[zj7,zj7.1 h]
theorem yWn {a b c:Int} (h:b≤a) (h2:a≤c):ya a b c=true:=yqO.2 ⟨h,h2⟩
theorem yW (a b c:Int):ye a b c=ya a b c:=by kernel_rfl
theorem ybA (x a b:Int):ya x a b=(leb a x&&leb x b):=by
 unfold ya; cases leb a x<;>rfl
theorem yh8 {x:Int} {n:Nat} (h:n≤1152921504606846976):ya x 0 (i64.wrap ((n:Int)-1))=inb x n:=by
 rw[wr (by omega) (by omega),Bool.eq_iff_iff,yqO,zj6]; omega
def ySe:Code:=(f123.body).getD .skip
def ySp:Env:=zkw TT [(81,yE)] []
theorem yLs:FrOk prog ⟨ySp,11,fun _=>none⟩ ySe:=zkA mixed yc ⟨yS,trivial⟩
abbrev yxf:List Par:= [.rd tG]
abbrev yxo:List OT:= [⟨false,tB,.fz⟩]
def yB1 (a0:dG):Option (zaY yxo×zak yxf) :=let r1:=ye a0.1 3 5;bif r1 then let r2:=ye a0.2 1 8;some ((r2,()),()) else some ((false,()),())
theorem yPi:ConOk prog 123 ⟨yxf,yxo,fun x=>yB1 x.1⟩:=zkI (yLs) func123 ntmps123.symm fun x=>by kernel_rfl
def yd0 (a0:dG):Bool :=let r1:=ye a0.1 3 5;bif r1 then let r2:=ye a0.2 1 8;r2 else false
def yl8:Con:=⟨yxf,yxo,fun x=>(fun n=>some ((n,()),())) (yd0 x.1)⟩
theorem yRy (a0:dG):yB1 a0=(fun n=>some ((n,()),())) (yd0 a0):=zkV (p:=fun(n:Bool)=>((n,()),())) (zkG (p:=fun(n:Bool)=>((n,()),())) rfl rfl)
theorem yvr:ConOk prog 123 yl8:=(yPi).mono (fun x r _ h=>(yRy x.1).trans h)
def yQK:Code:=(f125.body).getD .skip
def yRd:Env:=zkw TT [(81,yE)] []
theorem yIc:FrOk prog ⟨yRd,26,fun _=>none⟩ yQK:=zkA mixed yc ⟨yS,trivial⟩
abbrev yuy:List Par:= [.rd tG,.rd tI,.rd tI]
abbrev yuX:List OT:= [⟨false,tB,.fz⟩]
def yAD (a0:dG) (a1 a2:Int):Option (zaY yuX×zak yuy) :=let r1:=ye a1 (-1) (i64.wrap (a0.1-1));bif r1 then let r2:=ye a2 0 a0.2;bif r2 then bif(!(a2==0))then some (((a1 !=(-1)),()),()) else some ((true,()),()) else some ((false,()),()) else some ((false,()),())
theorem yMN:ConOk prog 125 ⟨yuy,yuX,fun x=>yAD x.1 x.2.1 x.2.2.1⟩:=zkI (yIc) func125 ntmps125.symm fun x=>by kernel_rfl
def yes (a0:dG) (a1 a2:Int):Bool :=let r1:=ye a1 (-1) (i64.wrap (a0.1-1));bif r1 then let r2:=ye a2 0 a0.2;bif r2 then bif(!(a2==0))then (a1 !=(-1)) else true else false else false
def yqy:Con:=⟨yuy,yuX,fun x=>(fun n=>some ((n,()),())) (yes x.1 x.2.1 x.2.2.1)⟩
theorem yOU (a0:dG) (a1 a2:Int):yAD a0 a1 a2=(fun n=>some ((n,()),())) (yes a0 a1 a2):=zkV (p:=fun(n:Bool)=>((n,()),())) (zkG (p:=fun(n:Bool)=>((n,()),())) (zkG (p:=fun(n:Bool)=>((n,()),())) (zkG (p:=fun(n:Bool)=>((n,()),())) rfl rfl) rfl) rfl)
theorem yBR:ConOk prog 125 yqy:=(yMN).mono (fun x r _ h=>(yOU x.1 x.2.1 x.2.2.1).trans h)
def yHz:Code:=(f109.body).getD .skip
def yHL:Env:=zkw TT [(81,yE),(123,yl8)] []
theorem yC5:FrOk prog ⟨yHL,14,fun _=>none⟩ yHz:=zkA mixed yc ⟨yS,yvr,trivial⟩
abbrev yoi:List Par:= [.rd tG,.rd tI]
abbrev yoj:List OT:= [⟨false,tB,.fz⟩]
def yt4 (a0:dG) (a1:Int):Option (zaY yoj×zak yoi) :=let r1:=yd0 a0;bif r1 then let r2:=ye a1 0 (i64.wrap (a0.2-1));some ((r2,()),()) else some ((false,()),())
theorem yEL:ConOk prog 109 ⟨yoi,yoj,fun x=>yt4 x.1 x.2.1⟩:=zkI (yC5) func109 ntmps109.symm fun x=>by kernel_rfl
def yL (a0:dG) (a1:Int):Bool :=let r1:=yd0 a0;bif r1 then let r2:=ye a1 0 (i64.wrap (a0.2-1));r2 else false
def yav:Con:=⟨yoi,yoj,fun x=>(fun n=>some ((n,()),())) (yL x.1 x.2.1)⟩
theorem yGL (a0:dG) (a1:Int):yt4 a0 a1=(fun n=>some ((n,()),())) (yL a0 a1):=zkV (p:=fun(n:Bool)=>((n,()),())) (zkG (p:=fun(n:Bool)=>((n,()),())) rfl rfl)
theorem yby:ConOk prog 109 yav:=(yEL).mono (fun x r _ h=>(yGL x.1 x.2.1).trans h)
def yQJ:Code:=(f135.body).getD .skip
def yRc:Env:=zkw TT [(81,yE)] []
theorem yIb:FrOk prog ⟨yRc,5,fun _=>none⟩ yQJ:=zkA mixed yc ⟨yS,trivial⟩
abbrev yux:List Par:= [.rd tI]
abbrev yuW:List OT:= [⟨false,tB,.fz⟩]
def yAC (a0:Int):Option (zaY yuW×zak yux) :=let r1:=ye a0 0 65535;some ((r1,()),())
theorem yMM:ConOk prog 135 ⟨yux,yuW,fun x=>yAC x.1⟩:=zkI (yIb) func135 ntmps135.symm fun x=>by kernel_rfl
def yal (a0:Int):Bool :=let r1:=ye a0 0 65535;r1
def yzY:Con:=⟨yux,yuW,fun x=>(fun n=>some ((n,()),())) (yal x.1)⟩
theorem yOT (a0:Int):yAC a0=(fun n=>some ((n,()),())) (yal a0):=zkV (p:=fun(n:Bool)=>((n,()),())) rfl
theorem yPI:ConOk prog 135 yzY:=(yMM).mono (fun x r _ h=>(yOT x.1).trans h)
def ylN:Code:=(f187.body).getD .skip
def yr2:Env:=zkw TT [(135,yzY)] []
theorem yF5:FrOk prog ⟨yr2,15,fun _=>none⟩ ylN:=zkA mixed yc ⟨yPI,trivial⟩
def yw0:Nat→Option Seg:=fun _=>none
def yc0:Shape:=⟨[(5,false,[.br tI]),(6,false,[.int .i64]),(7,false,[.int .i64])],[],[]⟩
def yht:Shape:=⟨[(5,false,[.br tI]),(6,false,[.int .i64]),(7,false,[.ci .i64 0])],[],[]⟩
def yhr:Shape:=⟨[],[],[]⟩
def yhC:Shape:=⟨[(2,false,[.bool])],[],[]⟩
def ylE (v0:List Int) (v1 v2:Int):Option ((yc0).X ⊕ ((yhr).X ⊕ (yhC).X)) :=bif(ltb v2 v1)then bif(inb v2 v0.length)then let r2:=yal (nth v0 v2 0);bif(!r2)then some (.inr (.inr (((false,()),()),(),()))) else some (.inl (((v0,()),(v1,()),((i64.wrap (v2+1)),()),()),(),())) else none else some (.inr (.inl ((),(),())))
def ybK (x:(yc0).X):=ylE x.1.1.1 x.1.2.1.1 x.1.2.2.1.1
def ytC (x:(yht).X):(yc0).X:=(((x.1.1.1,()),(x.1.2.1.1,()),(0,()),()),(),())
def yvL:Code:=(zd7 ylN 64 52).getD .skip
theorem yFL:zd7 ylN 64 13=some (.block 0 (.loop yvL)):=by kernel_rfl
theorem yHi (x:(yc0).X):zhu ⟨yr2,15,yw0⟩ 0 yvL 52 yc0 yhr yhC x=ybK x:=by kernel_rfl
def ytP (x:(yht).X):Nat:=18446744073709551616
def ymu (x:(yht).X):Option ((yhr).X ⊕ (yhC).X):=zF ybK (ytP x) (ytC x)
def yub:Seg:=⟨yht,yhr,yhC,ymu⟩
def yHE:Nat→Option Seg:=fun q=>bif Nat.beq q 13 then some yub else yw0 q
theorem yF6:FrOk prog ⟨yr2,15,yHE⟩ ylN:=(yF5).loop (sg:=yub) yc0 ytC (by decide) yFL ybK ytP (by decide) (fun _=>rfl) (fun x r _ h=>h) yHi
abbrev ylW:List Par:= [.rd tL]
abbrev ysq:List OT:= [⟨false,tB,.fz⟩]
def yoM (a0:List Int):Option (zaY ysq×zak ylW) :=zkt (ymu (((a0,()),((a0.length:Int),()),((),()),()),(),())) (fun y2 =>some ((true,()),())) (fun y2 =>some ((y2.1.1.1,()),()))
theorem yJN:ConOk prog 187 ⟨ylW,ysq,fun x=>yoM x.1⟩:=zkI (yF6) func187 ntmps187.symm fun x=>by kernel_rfl
def yaf (a0:List Int):Bool:=a0.all yal
theorem yMo (a0:List Int) (hk:zjx ylW (a0,())):yoM a0=(fun n=>some ((n,()),())) (yaf a0):=by
 have hb:a0.length*8≤2^47:=hk.1.1
 have hl:ymu (((a0,()),((a0.length:Int),()),((),()),()),(),())=some (bif a0.all yal then .inl ((),(),())else .inr (((false,()),()),(),())) :=
  zj9 (step:=ybK) a0 0 (fun i=>(((a0,()),((a0.length:Int),()),((i:Int),()),()),(),())) yal _ _ (fun i hi=>by
   simp only[ybK,ylE,zkR hi,zkS,zky (show(i:Int)<a0.length by omega),cond_true,wq ((i:Int)+1) (by omega) (by omega),Int.natCast_add,Int.natCast_one]
   cases yal (a0.getD i 0)<;>rfl) (by simp only[ybK,ylE,zk3 (Int.le_refl _),cond_false]) _ (by show _<18446744073709551616; omega)
 unfold yoM yaf;rw[hl];cases a0.all yal<;>rfl
def yi1:Con:=⟨ylW,ysq,fun x=>(fun n=>some ((n,()),())) (yaf x.1)⟩
theorem yqY:ConOk prog 187 yi1:=(yJN).mono (fun x r hk h=>(yMo x.1 hk).trans h)
def yQG:Code:=(f129.body).getD .skip
def yQ9:Env:=zkw TT [(187,yi1)] []
theorem yH8:FrOk prog ⟨yQ9,15,fun _=>none⟩ yQG:=zkA mixed yc ⟨yqY,trivial⟩
abbrev yuu:List Par:= [.rd tG,.rd tL]
abbrev yuT:List OT:= [⟨false,tB,.fz⟩]
def yAz (a0:dG) (a1:List Int):Option (zaY yuT×zak yuu) :=bif((a1.length:Int)==(i64.wrap (a0.1-1)))then let r1:=yaf a1;some ((r1,()),()) else some ((false,()),())
theorem yMJ:ConOk prog 129 ⟨yuu,yuT,fun x=>yAz x.1 x.2.1⟩:=zkI (yH8) func129 ntmps129.symm fun x=>by kernel_rfl
def ydi (a0:dG) (a1:List Int):Bool :=bif((a1.length:Int)==(i64.wrap (a0.1-1)))then let r1:=yaf a1;r1 else false
def yqx:Con:=⟨yuu,yuT,fun x=>(fun n=>some ((n,()),())) (ydi x.1 x.2.1)⟩
theorem yOQ (a0:dG) (a1:List Int):yAz a0 a1=(fun n=>some ((n,()),())) (ydi a0 a1):=zkV (p:=fun(n:Bool)=>((n,()),())) (zkG (p:=fun(n:Bool)=>((n,()),())) rfl rfl)
theorem yBQ:ConOk prog 129 yqx:=(yMJ).mono (fun x r _ h=>(yOQ x.1 x.2.1).trans h)
def ySi:Code:=(f150.body).getD .skip
def ySt:Env:=zkw TT [(82,yz)] []
theorem yLE:FrOk prog ⟨ySt,11,fun _=>none⟩ ySi:=zkA mixed yc ⟨yF,trivial⟩
abbrev yxi:List Par:= [.rd tG]
abbrev yxv:List OT:= [⟨false,tB,.fz⟩]
def yB4 (a0:dG):Option (zaY yxv×zak yxi) :=let r1:=ya a0.1 3 5;bif r1 then let r2:=ya a0.2 1 8;some ((r2,()),()) else some ((false,()),())
theorem yPp:ConOk prog 150 ⟨yxi,yxv,fun x=>yB4 x.1⟩:=zkI (yLE) func150 ntmps150.symm fun x=>by kernel_rfl
def yd (a0:dG):Bool :=let r1:=ya a0.1 3 5;bif r1 then let r2:=ya a0.2 1 8;r2 else false
def ye5:Con:=⟨yxi,yxv,fun x=>(fun n=>some ((n,()),())) (yd x.1)⟩
theorem yRF (a0:dG):yB4 a0=(fun n=>some ((n,()),())) (yd a0):=zkV (p:=fun(n:Bool)=>((n,()),())) (zkG (p:=fun(n:Bool)=>((n,()),())) rfl rfl)
theorem yjC:ConOk prog 150 ye5:=(yPp).mono (fun x r _ h=>(yRF x.1).trans h)
theorem yl {a:Int×Int}:yd a=true↔(3≤a.1∧a.1≤5)∧1≤a.2∧a.2≤8:=by
 unfold yd;cases h:ya a.1 3 5
 ·have: ¬(3≤a.1∧a.1≤5):=fun e=>by rw[yqO.2 e]at h; simp at h
  simp[this]
 ·simp only[cond_true,yqO]
  exact⟨fun e=>⟨yqO.1 h,e⟩,fun e=>e.2⟩
def yfJ (a:dA) (i:Nat):Bool:= !(yu (nth a.2.2.1 i yf))||((((nth a.2.2.1 i yf).1.length:Int) !=6+a.2.1.2)||((nth a.2.2.1 i yf).2.2.1&&(((i:Int) !=a.2.2.2.1)&& !a.2.2.2.2.2.2.2.2.2.2.2)))
def yjs (a:dA):Bool:= !((List.range a.2.2.1.length).any (yfJ a))&&(a.2.2.1.length:Int)==a.2.1.1
def yf2 (g:dG) (l:List dW) (i:Nat):Bool:= !(leb 0 (nth l i (0,[])).1&&leb (nth l i (0,[])).1 (g.2-1))||(((nth l i (0,[])).2.length:Int) !=g.1-1||(!((nth l i (0,[])).2.all isW)||(decide (0<i)&&leb (nth l i (0,[])).1 (nth l ((i-1:Nat):Int) (0,[])).1)))
def yaH (g:dG) (l:List dW):Bool:= !((List.range l.length).any (yf2 g l))
def ya2 (a:dA):Bool :=yd a.2.1&&((leb 1 a.1&&leb a.1 60000)&&(yjs a&&(yaH a.2.1 a.2.2.2.2.2.2.2.2.1&&((leb (-1) a.2.2.2.1&&leb a.2.2.2.1 (a.2.1.1-1))&&((leb 0 a.2.2.2.2.1&&leb a.2.2.2.2.1 a.2.1.2)&&(!(a.2.2.2.1== -1&&a.2.2.2.2.1 !=0) && ((leb 0 a.2.2.2.2.2.2.1&&leb a.2.2.2.2.2.2.1 60000)&&((leb a.2.2.2.2.2.2.1 a.2.2.2.2.2.1&&leb a.2.2.2.2.2.1 60000)&&(leb a.2.2.2.2.2.1 (a.2.2.2.2.2.2.1+4)&&((leb 0 a.2.2.2.2.2.2.2.1&&leb a.2.2.2.2.2.2.2.1 60000)&&(leb (-1) a.2.2.2.2.2.2.2.2.2.1&&leb a.2.2.2.2.2.2.2.2.2.1 1000)))))))))))
theorem ydZ {a:dA} (h:ya2 a=true):yd a.2.1=true:=(Bool.and_eq_true_iff.1 h).1
theorem yTU {a:dA} (h:ya2 a=true):yjs a=true:=by simp only[ya2,Bool.and_eq_true]at h; exact h.2.2.1
theorem yth {a:dA} (h:ya2 a=true):(a.2.2.1.length:Int)=a.2.1.1:=by have:=yTU h; simp only[yjs,Bool.and_eq_true,beq_iff_eq]at this; exact this.2
theorem yUv {a:dA} (h:yjs a=true) {i:Nat} (hi:i<a.2.2.1.length):yu (nth a.2.2.1 i yf)=true∧((nth a.2.2.1 i yf).1.length:Int)=6+a.2.1.2∧((nth a.2.2.1 i yf).2.2.1=true→(i:Int)=a.2.2.2.1∨a.2.2.2.2.2.2.2.2.2.2.2=true):=by
 simp only[yjs,Bool.and_eq_true,Bool.not_eq_true',List.any_eq_false,List.mem_range]at h;have:=h.1 i hi;simp only[yfJ,Bool.not_eq_true,Bool.or_eq_false_iff,Bool.not_eq_false',bne_eq_false_iff_eq,Bool.and_eq_false_iff]at this;refine⟨this.1,this.2.1,fun hf=> ?_⟩;rcases this.2.2 with h1 | h1 | h1
 ·rw[hf]at h1; cases h1
 ·exact .inl h1
 ·exact .inr h1
theorem yEj (a:Int×Int):yd0 a=yd a:=by kernel_rfl
theorem yFe: ∀{l:List Int} {lo n:Int},l.Pairwise (· < ·)→(∀x∈l,lo≤x∧x<n)→lo≤n→(l.length:Int)≤n-lo
 | [],lo,n,_,_,h=>by simp; omega
 | x::l,lo,n,hp,hx,h=>by
  cases hp with
  | cons h1 h2 =>
   have h3:=hx x List.mem_cons_self;have:=yFe (l:=l) (lo:=x+1) (n:=n) h2 (fun y hy=>⟨h1 y hy,(hx y (List.mem_cons_of_mem _ hy)).2⟩) (by omega);rw[List.length_cons]; omega
theorem ylc {n:Nat} {l:List Int}:yl7 n l=true↔(∀x∈l,0≤x∧x<n)∧l.Pairwise (· < ·):=by
 simp only[yl7,Bool.and_eq_true,List.all_eq_true,zj6,decide_eq_true_eq]
theorem ysJ {m:dM} (h1:m.1.all yad=true) (h2:m.2.1.all (yo9 m.1.length)=true) (h3:yl7 m.1.length m.2.2.2=true) (h4:1≤m.1.length) (h5:m.1.length≤20) (h6:m.2.1.length≤60):yu m=true:=by
 simp only[yu,h1,h2,h3,Bool.true_and,Bool.and_eq_true,zj7];omega
theorem yT3 {m:dM} (b:Nat→Bool) (h:yu m=true):(yia b m.2.1 m.1).all yad=true:=by
 obtain⟨h1,h2,_⟩:=ybT h;rw[List.all_eq_true];exact yTs (P:=fun x=>yad x=true) (fun x hx=>List.all_eq_true.1 h1 x hx) (fun w hw=>(Bool.and_eq_true_iff.1 (List.all_eq_true.1 h2 w hw)).2)
theorem yTe {m:dM} (n:Int) (s:List Int) (h:yu m=true):yu (yX m n s).1=true:=by
 unfold yX;cases hc:ya9 m n s
 ·exact h
 ·simp only[ya9,Bool.and_eq_true,Bool.not_eq_true',zka]at hc
  obtain⟨h1,h2,h3,h4,h5,h6⟩:=ybT h;refine ysJ h1 ?_ ?_ h4 h5 (by show(m.2.1++ [(n,s)]).length≤60; rw[List.length_append]; simp only[List.length_cons,List.length_nil]; omega)
  ·show(m.2.1++ [(n,s)]).all (yo9 m.1.length)=true
   rw[List.all_append,h2];simp[yo9,hc.2.2.1,hc.2.2.2.1]
  ·show yl7 m.1.length (yCH m.2.2.2 n)=true
   obtain⟨b1,b2⟩:=ylc.1 h3;exact ylc.2 ⟨fun x hx=>b1 x (List.mem_filter.1 hx).1,b2.filter _⟩
theorem yuh (m:dM) (n:Int) (s:List Int):(yX m n s).1.1=m.1∧(yX m n s).1.2.2.1=m.2.2.1:=by
 unfold yX;cases ya9 m n s<;>exact⟨rfl,rfl⟩
theorem yUW {m:dM} (h:yu m=true):yu (yr m)=true:=by
 unfold yr;cases hc:(yu m&& !m.2.2.1)
 ·exact h
 ·obtain⟨h1,h2,h3,h4,h5,h6⟩:=ybT h
  refine ysJ (yT3 _ h) rfl ?_ ?_ ?_ (Nat.zero_le _)
  ·show yl7 (yia _ m.2.1 m.1).length m.2.2.2=true; rw[ytd]; exact h3
  ·show 1≤(yia _ m.2.1 m.1).length; rw[ytd]; exact h4
  ·show(yia _ m.2.1 m.1).length≤20; rw[ytd]; exact h5
theorem yiG (m:dM):(yr m).1.length=m.1.length∧(yr m).2.2.1=m.2.2.1:=by
 unfold yr;cases(yu m&& !m.2.2.1)
 ·exact⟨rfl,rfl⟩
 ·exact⟨ytd,rfl⟩
theorem yTF {m:dM} (h:yu m=true):yu (yjI m)=true:=by
 obtain⟨h1,h2,h3,h4,h5,h6⟩:=ybT h;exact ysJ h1 rfl h3 h4 h5 (Nat.zero_le _)
def yeg (p:Nat→Bool) (n:Nat):Nat:=((List.range n).filter (fun i=> !p i)).length
theorem yU5 (p:Nat→Bool) (n:Nat):yeg p n≤n:=by
 have:=List.length_filter_le (fun i=> !p i) (List.range n);rwa[List.length_range]at this
theorem ye0 (p:Nat→Bool) (n:Nat):yeg p (n+1)=bif p n then yeg p n else yeg p n+1:=by
 unfold yeg;rw[List.range_succ,List.filter_append,List.length_append,List.filter_cons];cases p n<;>simp
def yBK (a:dA) (s:Int):Int:=bif ya2 a&&(leb 0 s&&leb s (a.2.1.2-1))then(yeg (fun(i:Nat)=>yn a i s) a.2.1.1.toNat:Nat)else a.2.1.1
theorem yTI {α:Type} (A:List α) (y:α) (t:List α) (d:α):(A++y::t).getD A.length d=y:=by
 rw[List.getD_eq_getElem?_getD,List.getElem?_append_right (Nat.le_refl _),Nat.sub_self]; rfl
theorem yTM {α:Type} (A:List α) (y z:α) (t:List α):(A++y::t).set A.length z=A++z::t:=by
 rw[List.set_append_right _ _ (Nat.le_refl _),Nat.sub_self]; rfl
def yh9 (l:List Int) (n:Int):List Int:=l.filter (fun x=>ltb x n)++n::l.filter (fun x=>ltb n x)
def spoil (m:dM) (n:Int):dM:=bif yu m&&(inb n m.1.length&& !(m.2.2.2.any (· ==n)))then(m.1,m.2.1,m.2.2.1,yh9 m.2.2.2 n)else m
theorem yS3 {l:List Int} {n:Int} (h:l.Pairwise (· < ·)) (hn:n∉l):l=l.filter (fun x=>ltb x n)++l.filter (fun x=>ltb n x):=by
 induction l with
 | nil=>rfl
 | cons x t ih =>
  obtain⟨hx,ht⟩:=List.pairwise_cons.1 h;simp only[List.mem_cons,not_or]at hn;rw[List.filter_cons,List.filter_cons];by_cases hlt:x<n
  ·rw[zky hlt,zk3 (show x≤n by omega)]
   simp only[if_true,Bool.false_eq_true,if_false,List.cons_append];rw[← ih ht hn.2]
  ·have h3:t.filter (fun x=>ltb x n)= []:=List.filter_eq_nil_iff.2 (fun y hy=>by rw[zk3 (by have:=hx y hy; omega)]; simp)
   have h4:t.filter (fun x=>ltb n x)=t:=List.filter_eq_self.2 (fun y hy=>zky (by have:=hx y hy; omega));rw[zk3 (show n≤x by omega),zky (show n<x by omega),h3,h4]; rfl
theorem yS4 {m:dM} (n:Int) (h:yu m=true):yu (spoil m n)=true:=by
 unfold spoil;cases hc:(yu m&&(inb n m.1.length&& !(m.2.2.2.any (· ==n))))
 ·exact h
 ·simp only[Bool.and_eq_true]at hc
  have hi:=zj6.1 hc.2.1;obtain⟨h1,h2,h3,h4,h5,h6⟩:=ybT h;rw[ylc]at h3;refine ysJ h1 h2 ?_ h4 h5 h6;show yl7 m.1.length (yh9 m.2.2.2 n)=true;rw[ylc];unfold yh9;refine⟨fun x hx=> ?_,?_⟩
  ·rcases List.mem_append.1 hx with g | g
   ·exact h3.1 x (List.mem_filter.1 g).1
   ·rcases List.mem_cons.1 g with rfl | g
    ·exact hi
    ·exact h3.1 x (List.mem_filter.1 g).1
  ·rw[List.pairwise_append,List.pairwise_cons]
   refine⟨h3.2.filter _,⟨fun y hy=>zka.1 (List.mem_filter.1 hy).2,h3.2.filter _⟩,fun x hx y hy=> ?_⟩;have g1:=zka.1 (List.mem_filter.1 hx).2;rcases List.mem_cons.1 hy with rfl | hy
   ·exact g1
   ·exact Int.lt_trans g1 (zka.1 (List.mem_filter.1 hy).2)
theorem yug (m:dM) (n:Int):(spoil m n).1=m.1∧(spoil m n).2.2.1=m.2.2.1:=by
 unfold spoil;cases(yu m&&(inb n m.1.length&& !(m.2.2.2.any (· ==n))))<;>exact⟨rfl,rfl⟩
def yO (g:dG) (s:Int):Bool:=yd g&&(leb 0 s&&leb s (g.2-1))
def yg (g:dG) (s:Int):Int:=bif yO g s then g.1-1-s.tmod g.1 else -1
def yba (g:dG) (s i:Int):Int:=bif yO g s&&(leb 0 i&&leb i (g.1-2))then(yg g s+1+i).tmod g.1 else -1
theorem yah {g:dG} {s:Int}:yO g s=true↔yd g=true∧0≤s∧s≤g.2-1:=by simp[yO,zj7]
theorem yiI {g:dG} {s:Int} (h:yO g s=true):0≤yg g s∧yg g s≤g.1-1:=by
 have h1:=yah.1 h;have h2:=yl.1 h1.1;unfold yg;rw[h,cond_true,Int.tmod_eq_emod_of_nonneg h1.2.1];have:=Int.emod_nonneg s (show g.1≠0 by omega);have:=Int.emod_lt_of_pos s (show 0<g.1 by omega);omega
theorem yOz {g:dG} {s i:Int} (h:yO g s=true) (h1:0≤i) (h2:i≤g.1-2):0≤yba g s i∧yba g s i≤g.1-1:=by
 have h3:=yl.1 (yah.1 h).1;have h4:=yiI h;unfold yba;rw[h,zk2 h1,zk2 h2,Bool.and_self,Bool.and_self,cond_true,Int.tmod_eq_emod_of_nonneg (by omega)];have:=Int.emod_nonneg (yg g s+1+i) (show g.1≠0 by omega);have:=Int.emod_lt_of_pos (yg g s+1+i) (show 0<g.1 by omega);omega
def yv (p:Nat→Bool):Nat→Int
 | 0=> -1
 | n+1=>bif p n then yv p n else n
def ydL (p:Nat→Bool) (n:Nat):Bool:=(List.range n).any (fun i=> !p i&&leb 0 (yv p i))
theorem yEm (p:Nat→Bool): ∀n,yv p n= -1∨(0≤yv p n∧yv p n<n∧p (yv p n).toNat=false)
 | 0=> .inl rfl
 | n+1=>by
  unfold yv;cases h:p n
  ·exact .inr ⟨by show(0:Int)≤n; omega,by show(n:Int)<_; omega,h⟩
  ·rcases yEm p n with h1 | h1
   ·exact .inl h1
   ·exact .inr ⟨h1.1,by show yv p n<_; omega,h1.2.2⟩
def yQ (a:dA) (s:Int) (n:Nat):List Int:=(List.range n).map (fun(i:Nat)=>ynm a i s)
theorem yea (a:dA) (s:Int) (n:Nat):(yQ a s n).length=n:=by unfold yQ; rw[List.length_map,List.length_range]
theorem yCU (a:dA) (s:Int) (n:Nat):yQ a s n++ [ynm a n s]=yQ a s (n+1):=by unfold yQ; rw[List.range_succ,List.map_append]; rfl
theorem yTA (a:dA) (s:Int) {i n:Nat} (h:i<n):nth (yQ a s n) i 0=ynm a i s:=by
 unfold yQ;rw[zkS,zkJ (by rw[List.length_map,List.length_range]; exact h)]; simp
def yP (a:dA) (s:Int):List Int×Bool :=bif ydL (fun(i:Nat)=>yn a i s) a.2.1.1.toNat then([],false) else bif leb 0 (yv (fun(i:Nat)=>yn a i s) a.2.1.1.toNat)then((yQ a s a.2.1.1.toNat).set (yv (fun(i:Nat)=>yn a i s) a.2.1.1.toNat).toNat (yai (yQ a s a.2.1.1.toNat)),true) else(yQ a s a.2.1.1.toNat,true)
theorem yFa {a:dA} {s:Int} (h:(yP a s).2=true):(yP a s).1.length=a.2.1.1.toNat:=by
 unfold yP at h ⊢;cases h1:ydL (fun(i:Nat)=>yn a i s) a.2.1.1.toNat
 ·cases leb 0 (yv (fun(i:Nat)=>yn a i s) a.2.1.1.toNat)
  ·exact yea _ _ _
  ·simp only[cond_false,cond_true,List.length_set]; exact yea _ _ _
 ·rw[h1]at h; cases h
theorem yQs (a:dA) (s:Int) (n:Nat) (h:leb 0 (yv (fun(i:Nat)=>yn a i s) n)=true):inb (yv (fun(i:Nat)=>yn a i s) n) (yQ a s n).length=true∧ylf (yQ a s n) (yv (fun(i:Nat)=>yn a i s) n)=yai (yQ a s n):=by
 rcases yEm (fun(i:Nat)=>yn a i s) n with h1 | h1
 ·rw[h1]at h; cases h
 ·have h2:inb (yv (fun(i:Nat)=>yn a i s) n) (yQ a s n).length=true:=by rw[yea,zj6]; exact⟨h1.1,h1.2.1⟩
  refine⟨h2,yUw h2 ?_⟩;have h3:=yTA a s (show(yv (fun(i:Nat)=>yn a i s) n).toNat<n by omega);rw[show(((yv (fun(i:Nat)=>yn a i s) n).toNat:Nat):Int)=yv (fun(i:Nat)=>yn a i s) n by omega]at h3;rw[h3];unfold ynm
  have h4:yn a (yv (fun(i:Nat)=>yn a i s) n) s=false:=by
   have:=h1.2.2;have this:yn a ((yv (fun(i:Nat)=>yn a i s) n).toNat:Nat) s=false:=h1.2.2;rwa[show(((yv (fun(i:Nat)=>yn a i s) n).toNat:Nat):Int)=yv (fun(i:Nat)=>yn a i s) n by omega]at this
  rw[h4]; rfl
def yta (a:dA) (s:Int):List Int×Bool:=bif(yP a s).2 then((List.range (a.2.1.1-1).toNat).map (fun(i:Nat)=>nth (yP a s).1 (yba a.2.1 s i) 0),true)else([],false)
def yyb (a:dA) (s:Int):List Int×Bool:=bif ya2 a&&(!a.2.2.2.2.2.2.2.2.2.2.2&&yO a.2.1 s)then yta a s else([],false)
theorem yns (g:dG) (s:Int):yL g s=yO g s:=by
 unfold yL yO;rw[yEj];cases hg:yd g
 ·rfl
 have:=yl.1 hg;rw[yW,ybA,wr (by omega) (by omega)]; rfl
theorem yL8 (p:Nat→Bool): ∀n,leb 0 (yv p n)=decide (1≤yeg p n)∧ydL p n=decide (2≤yeg p n)
 | 0=>⟨rfl,rfl⟩
 | n+1=>by
  obtain⟨h1,h2⟩:=yL8 p n
  have e:ydL p (n+1)=(ydL p n||(!p n&&leb 0 (yv p n))):=by
   unfold ydL;rw[List.range_succ,List.any_append]; simp
  have e2:yv p (n+1)=bif p n then yv p n else n:=rfl;rw[e,e2,ye0,h2,h1];cases hp:p n
  ·simp only[cond_false,Bool.not_false,Bool.true_and]
   refine⟨by rw[zk2 (show(0:Int)≤n by omega)]; simp,?_⟩;rw[Bool.eq_iff_iff,Bool.or_eq_true,decide_eq_true_eq,decide_eq_true_eq,decide_eq_true_eq]; omega
  ·simp[h1]
def yjQ (m:dM) (n:Int):List Int:=yfP n m.2.1 (nth m.1 n [])
def yh5 (m:dM) (n:Int):Bool:=m.2.2.2.any (· ==n)
def yUO (m:dM) (n:Int) (v:List Int):Prop:=v=nth m.1 n []∨ ∃w∈m.2.1,w.1=n∧w.2=v
theorem yMe (n:Int): ∀(c:List dW) (s:List Int),yfP n c s=s∨ ∃w∈c,w.1=n∧w.2=yfP n c s
 | [],s=> .inl rfl
 | w::c,s=>by
  show yfP n c (bif w.1==n then w.2 else s)=s∨ ∃x∈w::c,x.1=n∧x.2=yfP n c (bif w.1==n then w.2 else s);rcases yMe n c (bif w.1==n then w.2 else s)with h | ⟨x,hx,h1,h2⟩
  ·rw[h]
   cases hw:(w.1==n)
   ·exact .inl rfl
   ·exact .inr ⟨w,List.mem_cons_self,beq_iff_eq.1 hw,rfl⟩
  ·exact .inr ⟨x,List.mem_cons_of_mem _ hx,h1,h2⟩
theorem yUS (m:dM) (n:Int):yUO m n (yjQ m n):=yMe n m.2.1 _
theorem yHs (n:Int) (c:List dW) (w:dW) (s:List Int):yfP n (c++ [w]) s=bif w.1==n then w.2 else yfP n c s:=by
 unfold yfP; rw[List.foldl_append]; rfl
theorem yU9 {m:dM} {n:Int} (h:yu m=true) (h1:m.2.2.1=false) (h2:inb n m.1.length=true):yf8 m n=bif yh5 m n then([],false)else(yjQ m n,true):=by
 unfold yf8 ywT;rw[h,h1,h2];show(bif !(yh5 m n)then(yjQ m n,true)else([],false))=_;cases yh5 m n<;>rfl
theorem yAZ {m:dM} {n:Int} {s:List Int} (h:yu m=true) (h1:m.2.2.1=false) (h2:inb n m.1.length=true) (h3:yad s=true) (h4:m.2.1.length<60):ya9 m n s=true:=by
 unfold ya9;rw[h,h1,h2,h3,zky (by omega)]; rfl
theorem yKu {m:dM} {n:Int} {s:List Int} (h:ya9 m n s=true):(yX m n s).1=(m.1,m.2.1++ [(n,s)],m.2.2.1,yCH m.2.2.2 n):=by unfold yX; rw[h]; rfl
theorem yAf {m:dM} {n:Int} {s:List Int} (h:ya9 m n s=true) (k:Int):yjQ (yX m n s).1 k=bif n==k then s else yjQ m k:=by
 rw[yKu h]; exact yHs _ _ _ _
theorem yUP (l:List Int) (n k:Int):(yCH l n).any (· ==k)=(l.any (· ==k)&&k !=n):=by
 rw[Bool.eq_iff_iff];simp only[yCH,List.any_eq_true,List.mem_filter,Bool.and_eq_true,beq_iff_eq,bne_iff_ne];constructor
 ·rintro⟨x,⟨h1,h2⟩,rfl⟩; exact⟨⟨x,h1,rfl⟩,h2⟩
 ·rintro⟨⟨x,h1,rfl⟩,h2⟩; exact⟨x,⟨h1,h2⟩,rfl⟩
theorem yti {m:dM} {n:Int} {s:List Int} (h:ya9 m n s=true) (k:Int):yh5 (yX m n s).1 k=(yh5 m k&&k !=n):=by
 rw[yKu h]; exact yUP _ _ _
theorem yyN {α:Type} {l:List α} {i k:Int} {x d:α} (hi:inb i l.length=true) (hk:0≤k):nth (l.set i.toNat x) k d=bif i==k then x else nth l k d:=by
 have h1:=zj6.1 hi;unfold nth;rw[List.getD_eq_getElem?_getD,List.getD_eq_getElem?_getD,List.getElem?_set];by_cases h:i=k
 ·subst h; simp[show i.toNat<l.length by omega]
 ·rw[if_neg (by omega),show(i==k)=false from beq_eq_false_iff_ne.2 h]; rfl
theorem yVC (b:Nat→Bool) {c:List dW} {l:List (List Int)} {k:Int} (hk:0≤k) (hc: ∀w∈c,inb w.1 l.length=true) :
  ∀n,n≤c.length→((List.range n).foldl (yfI b c) l).length=l.length∧(nth ((List.range n).foldl (yfI b c) l) k []=nth l k []∨ ∃w∈c,w.1=k∧w.2=nth ((List.range n).foldl (yfI b c) l) k []) ∧
   ((∀i,b i=true)→nth ((List.range n).foldl (yfI b c) l) k []=yfP k (c.take n) (nth l k [])):=by
 intro n
 induction n with
 | zero=>intro _; exact⟨rfl,.inl rfl,fun _=>rfl⟩
 | succ n ih =>
  intro hn;obtain⟨h1,h2,h3⟩:=ih (by omega);rw[List.range_succ,List.foldl_append,List.foldl_cons,List.foldl_nil];have hnc:n<c.length:=by omega
  generalize (List.range n).foldl (yfI b c) l=L at h1 h2 h3 ⊢;refine⟨ywP.trans h1,?_⟩;unfold yfI;rw[zkS,zkJ hnc];have hw:inb c[n].1 L.length=true:=by rw[h1]; exact hc _ (List.getElem_mem hnc)
  cases hb:b n
  ·refine⟨h2,fun h=> ?_⟩
   rw[h n]at hb; cases hb
  ·simp only[cond_true,yyN hw hk]
   constructor
   ·cases he:(c[n].1==k)
    ·exact h2
    ·exact .inr ⟨c[n],List.getElem_mem hnc,beq_iff_eq.1 he,rfl⟩
   ·intro h
    rw[h3 h,List.take_add_one,List.getElem?_eq_getElem hnc];exact(yHs k _ _ _).symm
theorem yU8 {m:dM} (h:yu m=true): ∀w∈m.2.1,inb w.1 m.1.length=true:=fun w hw=>by
 have:=List.all_eq_true.1 (ybT h).2.1 w hw;simp only[yo9,Bool.and_eq_true]at this; exact this.1
theorem yUo {m:dM} {k:Int} (h:yu m=true) (h1:m.2.2.1=false) (hk:0≤k):nth (yr m).1 k []=yjQ m k:=by
 have:=(yVC (fun _=>true) hk (yU8 h) m.2.1.length (Nat.le_refl _)).2.2 (fun _=>rfl);rw[List.take_length]at this;unfold yr;rw[h,h1]; exact this
theorem yCg {m:dM} (h:yu m=true) (h1:m.2.2.1=false):(yr m).2.1= []∧(yr m).2.2=m.2.2:=by
 unfold yr;rw[h,h1];refine⟨rfl,?_⟩;show(false,m.2.2.2)=m.2.2;rw[← h1]
theorem yT2 {m:dM} {k:Int} {v:List Int} (h:yu m=true) (h1:m.2.2.1=false) (hk:0≤k) (hv:yUO (yr m) k v):v=yjQ m k:=by
 rcases hv with hv | ⟨w,hw,_⟩
 ·rw[hv,yUo h h1 hk]
 ·rw[(yCg h h1).1]at hw; cases hw
theorem yUn {m:dM} {k:Int} (h:yu m=true) (h1:m.2.2.1=false) (hk:0≤k):yjQ (yr m) k=yjQ m k:=yT2 h h1 hk (yUS _ _)
theorem yQh (m:dM) (k:Int):yh5 (yr m) k=yh5 m k:=by
 unfold yr;cases(yu m&& !m.2.2.1)<;>rfl
theorem yVO {x:Int} (h:isW x=true):(bv x).toNat<2^16:=by
 have:=ysI.1 h;unfold bv;rw[BitVec.toNat_ofInt];omega
theorem yVS {v:BitVec 64} (h:v.toNat<2^16):isW v.toInt=true:=by
 rw[BitVec.toInt_eq_toNat_of_lt (by omega)];exact ysI.2 (by omega)
theorem yVM: ∀(l:List Int),l.all isW=true→(yeb l).toNat<2^16:=by
 intro l h
 have: ∀(l:List Int) (v:BitVec 64),v.toNat<2^16→l.all isW=true→(l.foldl (fun v x=>v ^^^ bv x) v).toNat<2^16:=by
  intro l
  induction l with
  | nil=>intro v hv _; exact hv
  | cons x t ih =>
   intro v hv h;simp only[List.all_cons,Bool.and_eq_true]at h;refine ih _ ?_ h.2;rw[BitVec.toNat_xor];exact Nat.xor_lt_two_pow hv (yVO h.1)
 exact this l 0#64 (by decide) h
theorem yQy {l:List Int} (h:l.all isW=true):isW (yai l)=true:=by
 rw[ylJ]; exact yVS (yVM l h)
theorem yFc {l:List Int}:l.all isW=true↔ ∀x∈l,isW x=true:=by simp
theorem yPg {l:List Int} {i:Int} (h:l.all isW=true):isW (nth l i 0)=true:=by
 unfold nth;rw[List.getD_eq_getElem?_getD];cases e:l[i.toNat]? with
 | none=>rfl
 | some x=>exact yFc.1 h x (List.mem_of_getElem? e)
theorem yP5 {l:List Int} {i:Nat} {x:Int} (h:l.all isW=true) (hx:isW x=true):(l.set i x).all isW=true:=by
 rw[yFc]at h ⊢;intro y hy;rcases List.mem_or_eq_of_mem_set hy with h1 | rfl
 ·exact h y h1
 ·exact hx
theorem yUa {m:dM} {n:Int} (h:(yf8 m n).2=true):yad (yf8 m n).1=true:=by
 unfold yf8 at h ⊢;cases hc:ywT m n
 ·rw[hc]at h; cases h
 ·simp only[ywT,Bool.and_eq_true]at hc
  obtain⟨h1,h2,h3,_,_,_⟩:=ybT hc.1;refine yCz (P:=fun s=>yad s=true) ?_ fun w hw=> ?_
  ·exact ywU (P:=fun s=>yad s=true) hc.2.2.1 (fun x hx=>List.all_eq_true.1 h1 x hx)
  ·have:=List.all_eq_true.1 h2 w hw
   simp only[yo9,Bool.and_eq_true]at this;exact this.2
theorem yVj (a:dA) (m s:Int):isW (ynm a m s)=true:=by
 unfold ynm;cases h:yn a m s
 ·rfl
 ·simp only[yn,Bool.and_eq_true]at h
  have:=yUa (m:=nth a.2.2.1 m yf) (n:=yy s) h.2.1;simp only[yad,Bool.and_eq_true]at this;exact yPg this.2
theorem yzo (a:dA) (s:Int) (n:Nat):(yQ a s n).all isW=true:=by
 rw[yFc];unfold yQ;intro x hx;obtain⟨i,_,rfl⟩:=List.mem_map.1 hx;exact yVj a i s
theorem yUJ (a:dA) (s:Int):(yP a s).1.all isW=true:=by
 unfold yP;cases ydL (fun(i:Nat)=>yn a i s) a.2.1.1.toNat
 ·cases leb 0 (yv (fun(i:Nat)=>yn a i s) a.2.1.1.toNat)
  ·exact yzo _ _ _
  ·exact yP5 (yzo _ _ _) (yQy (yzo _ _ _))
 ·rfl
theorem yDN (a:dA) (s:Int):(yta a s).1.all isW=true:=by
 unfold yta;cases(yP a s).2
 ·rfl
 ·rw[yFc]
  intro x hx;obtain⟨i,_,rfl⟩:=List.mem_map.1 hx;exact yPg (yUJ a s)
def yM (a:dA) (m s:Int):dA:=bif ya2 a&&(inb m a.2.2.1.length&&yO a.2.1 s)then(a.1,a.2.1,a.2.2.1.set m.toNat (spoil (nth a.2.2.1 m yf) (yy s)),a.2.2.2)else a
def ylM:Code:=(f126.body).getD .skip
def yr1:Env:=zkw TT [(109,yav),(129,yqx)] []
theorem yF0:FrOk prog ⟨yr1,44,fun _=>none⟩ ylM:=zkA mixed yc ⟨yby,yBQ,trivial⟩
def ywZ:Nat→Option Seg:=fun _=>none
def ybt:Shape:=⟨[(1,false,[.ptr 0 0]),(6,false,[.br tW]),(7,false,[.int .i64]),(8,false,[.int .i64])],[(0,[.int .i64,.int .i64,.int .i64,.br tM,.int .i64,.int .i64,.int .i64,.int .i64,.int .i64,.br tW,.int .i64,.bool,.bool])],[]⟩
def yeJ:Shape:=⟨[(1,false,[.ptr 0 0]),(6,false,[.br tW]),(7,false,[.int .i64]),(8,false,[.ci .i64 0])],[(0,[.int .i64,.int .i64,.int .i64,.br tM,.int .i64,.int .i64,.int .i64,.int .i64,.int .i64,.br tW,.int .i64,.bool,.bool])],[]⟩
def yeA:Shape:=⟨[],[],[]⟩
def yeO:Shape:=⟨[(2,false,[.bool])],[],[]⟩
abbrev yll (v0:List dW) (v1 v2:Int) (v3:dA):(ybt).X:=((((),()),(v0,()),(v1,()),(v2,()),()),((v3.1,v3.2.1.1,v3.2.1.2,v3.2.2.1,v3.2.2.2.1,v3.2.2.2.2.1,v3.2.2.2.2.2.1,v3.2.2.2.2.2.2.1,v3.2.2.2.2.2.2.2.1,v3.2.2.2.2.2.2.2.2.1,v3.2.2.2.2.2.2.2.2.2.1,v3.2.2.2.2.2.2.2.2.2.2.1,v3.2.2.2.2.2.2.2.2.2.2.2,()),()),())
abbrev yEw (v0:List dW) (v1:Int) (v2:dA):(yeJ).X:=((((),()),(v0,()),(v1,()),((),()),()),((v2.1,v2.2.1.1,v2.2.1.2,v2.2.2.1,v2.2.2.2.1,v2.2.2.2.2.1,v2.2.2.2.2.2.1,v2.2.2.2.2.2.2.1,v2.2.2.2.2.2.2.2.1,v2.2.2.2.2.2.2.2.2.1,v2.2.2.2.2.2.2.2.2.2.1,v2.2.2.2.2.2.2.2.2.2.2.1,v2.2.2.2.2.2.2.2.2.2.2.2,()),()),())
abbrev yEo  :(yeA).X:=((),(),())
abbrev yEA (v0:Bool):(yeO).X:=(((v0,()),()),(),())
def ylD (v0:List dW) (v1 v2 v3 v4 v5:Int) (v6:List dM) (v7 v8 v9 v10 v11:Int) (v12:List dW) (v13:Int) (v14 v15:Bool):Option ((ybt).X ⊕ ((yeA).X ⊕ (yeO).X)) :=bif(ltb v2 v1)then bif(inb v2 v0.length)then let r4:=yL (v4,v5) ((nth v0 v2 (0,[])).1);bif(!(!r4))then bif(ltb 0 v2)then bif(inb (i64.wrap (v2-1)) v12.length)then bif(!(leb ((nth v0 v2 (0,[])).1) ((nth v12 (i64.wrap (v2-1)) (0,[])).1)))then let r5:=ydi (v4,v5) ((nth v0 v2 (0,[])).2);bif(!r5)then some (.inr (.inr (((false,()),()),(),()))) else some (.inl ((((),()),(v0,()),(v1,()),((i64.wrap (v2+1)),()),()),((v3,v4,v5,v6,v7,v8,v9,v10,v11,v12,v13,v14,v15,()),()),())) else some (.inr (.inr (((false,()),()),(),()))) else none else let r6:=ydi (v4,v5) ((nth v0 v2 (0,[])).2);bif(!r6)then some (.inr (.inr (((false,()),()),(),()))) else some (.inl ((((),()),(v0,()),(v1,()),((i64.wrap (v2+1)),()),()),((v3,v4,v5,v6,v7,v8,v9,v10,v11,v12,v13,v14,v15,()),()),())) else some (.inr (.inr (((false,()),()),(),()))) else none else some (.inr (.inl ((),(),())))
def ybJ (x:(ybt).X):=ylD x.1.2.1.1 x.1.2.2.1.1 x.1.2.2.2.1.1 x.2.1.1.1 x.2.1.1.2.1 x.2.1.1.2.2.1 x.2.1.1.2.2.2.1 x.2.1.1.2.2.2.2.1 x.2.1.1.2.2.2.2.2.1 x.2.1.1.2.2.2.2.2.2.1 x.2.1.1.2.2.2.2.2.2.2.1 x.2.1.1.2.2.2.2.2.2.2.2.1 x.2.1.1.2.2.2.2.2.2.2.2.2.1 x.2.1.1.2.2.2.2.2.2.2.2.2.2.1 x.2.1.1.2.2.2.2.2.2.2.2.2.2.2.1 x.2.1.1.2.2.2.2.2.2.2.2.2.2.2.2.1
def ytB (x:(yeJ).X):(ybt).X:=((((),()),(x.1.2.1.1,()),(x.1.2.2.1.1,()),(0,()),()),((x.2.1.1.1,x.2.1.1.2.1,x.2.1.1.2.2.1,x.2.1.1.2.2.2.1,x.2.1.1.2.2.2.2.1,x.2.1.1.2.2.2.2.2.1,x.2.1.1.2.2.2.2.2.2.1,x.2.1.1.2.2.2.2.2.2.2.1,x.2.1.1.2.2.2.2.2.2.2.2.1,x.2.1.1.2.2.2.2.2.2.2.2.2.1,x.2.1.1.2.2.2.2.2.2.2.2.2.2.1,x.2.1.1.2.2.2.2.2.2.2.2.2.2.2.1,x.2.1.1.2.2.2.2.2.2.2.2.2.2.2.2.1,()),()),())
def yvK:Code:=(zd7 ylM 64 52).getD .skip
theorem yFK:zd7 ylM 64 13=some (.block 0 (.loop yvK)):=by kernel_rfl
theorem yHh (x:(ybt).X):zhu ⟨yr1,44,ywZ⟩ 0 yvK 52 ybt yeA yeO x=ybJ x:=by kernel_rfl
def ytO (x:(yeJ).X):Nat:=18446744073709551616
def ymt (x:(yeJ).X):Option ((yeA).X ⊕ (yeO).X):=zF ybJ (ytO x) (ytB x)
def yua:Seg:=⟨yeJ,yeA,yeO,ymt⟩
def yHD:Nat→Option Seg:=fun q=>bif Nat.beq q 13 then some yua else ywZ q
theorem yF1:FrOk prog ⟨yr1,44,yHD⟩ ylM:=(yF0).loop (sg:=yua) ybt ytB (by decide) yFK ybJ ytO (by decide) (fun _=>rfl) (fun x r _ h=>h) yHh
abbrev yhR:List Par:= [.rd tA]
abbrev yl0:List OT:= [⟨false,tB,.fz⟩]
def yoL (a0:dA):Option (zaY yl0×zak yhR) :=zkt (ymt ((((),()),(a0.2.2.2.2.2.2.2.2.1,()),((a0.2.2.2.2.2.2.2.2.1.length:Int),()),((),()),()),((a0.1,a0.2.1.1,a0.2.1.2,a0.2.2.1,a0.2.2.2.1,a0.2.2.2.2.1,a0.2.2.2.2.2.1,a0.2.2.2.2.2.2.1,a0.2.2.2.2.2.2.2.1,a0.2.2.2.2.2.2.2.2.1,a0.2.2.2.2.2.2.2.2.2.1,a0.2.2.2.2.2.2.2.2.2.2.1,a0.2.2.2.2.2.2.2.2.2.2.2,()),()),())) (fun y6 =>some ((true,()),())) (fun y6 =>some ((y6.1.1.1,()),()))
theorem yJJ:ConOk prog 126 ⟨yhR,yl0,fun x=>yoL x.1⟩:=zkI (yF1) func126 ntmps126.symm fun x=>by kernel_rfl
def yij (a0:dA):Bool:=yaH a0.2.1 a0.2.2.2.2.2.2.2.2.1
def ysQ (a0:dA):Bool:=yd a0.2.1
theorem yqN (l:List Int):yaf l=l.all isW:=by
 unfold yaf;rw[show yal=isW from funext fun x=>by unfold yal; rw[yW,ybA]; rfl]
theorem yMk (a0:dA) (hk:zjx yhR (a0,())) (hq:ysQ a0=true):yoL a0=(fun n=>some ((n,()),())) (yij a0):=by
 have hb:a0.2.2.2.2.2.2.2.2.1.length*32≤2^47:=hk.1.2.2.2.2.2.2.2.2.1.1;have hg:=yl.1 hq;have hq':yd a0.2.1=true:=hq
 have h1:ymt (yEw a0.2.2.2.2.2.2.2.2.1 a0.2.2.2.2.2.2.2.2.1.length a0)=some (bif(List.range a0.2.2.2.2.2.2.2.2.1.length).any (yf2 a0.2.1 a0.2.2.2.2.2.2.2.2.1)then .inr (yEA false)else .inl yEo) :=
  zji (step:=ybJ) (fun i=>yll a0.2.2.2.2.2.2.2.2.1 a0.2.2.2.2.2.2.2.2.1.length i a0) a0.2.2.2.2.2.2.2.2.1.length (yf2 a0.2.1 a0.2.2.2.2.2.2.2.2.1) _ _ (fun i hi=>by
   simp only[ybJ,yll,ylD,zky (show(i:Int)<a0.2.2.2.2.2.2.2.2.1.length by omega),cond_true,wq ((i:Int)+1) (by omega) (by omega),Int.natCast_add,Int.natCast_one,Int.toNat_natCast,zkR hi,zkX,yL,ydi,yEj,hq',yW,ybA,yqN,wq (a0.2.1.2-1) (by omega) (by omega),wq (a0.2.1.1-1) (by omega) (by omega),yf2,bne];rcases Nat.eq_zero_or_pos i with rfl | h0
   ·cases(leb 0 (nth a0.2.2.2.2.2.2.2.2.1 ((0:Nat):Int) (0,[])).1&&leb (nth a0.2.2.2.2.2.2.2.2.1 ((0:Nat):Int) (0,[])).1 (a0.2.1.2-1))<;>cases(((nth a0.2.2.2.2.2.2.2.2.1 ((0:Nat):Int) (0,[])).2.length:Int)==a0.2.1.1-1)<;>cases((nth a0.2.2.2.2.2.2.2.2.1 ((0:Nat):Int) (0,[])).2.all isW)<;>rfl
   ·rw[show i64.wrap ((i:Int)-1)=((i-1:Nat):Int)by rw[wr (by omega) (by omega)]; omega,zkR (show i-1<a0.2.2.2.2.2.2.2.2.1.length by omega),zky (show(0:Int)<i by omega),decide_eq_true h0]
    cases(leb 0 (nth a0.2.2.2.2.2.2.2.2.1 (i:Int) (0,[])).1&&leb (nth a0.2.2.2.2.2.2.2.2.1 (i:Int) (0,[])).1 (a0.2.1.2-1))<;>cases(((nth a0.2.2.2.2.2.2.2.2.1 (i:Int) (0,[])).2.length:Int)==a0.2.1.1-1)<;>cases((nth a0.2.2.2.2.2.2.2.2.1 (i:Int) (0,[])).2.all isW)<;>cases leb (nth a0.2.2.2.2.2.2.2.2.1 (i:Int) (0,[])).1 (nth a0.2.2.2.2.2.2.2.2.1 ((i-1:Nat):Int) (0,[])).1<;>rfl) (by simp only[ybJ,yll,ylD,zk3 (Int.le_refl _),cond_false]) _ (by show _<18446744073709551616; omega)
 unfold yoL yij yaH;rw[h1];cases(List.range a0.2.2.2.2.2.2.2.2.1.length).any (yf2 a0.2.1 a0.2.2.2.2.2.2.2.2.1)<;>rfl
def ymg (a0:dA):Option (zaY yl0×zak yhR):=bif ysQ a0 then(fun n=>some ((n,()),())) (yij a0)else none
theorem yNu (a0:dA) (h:ysQ a0=true):ymg a0=(fun n=>some ((n,()),())) (yij a0):=by unfold ymg; rw[h]; rfl
def yxX:Con:=⟨yhR,yl0,fun x=>ymg x.1⟩
theorem yNh:ConOk prog 126 yxX:=(yJJ).mono (fun x r hk h=>zkY h (fun hq=>yMk x.1 hk hq))
def yQI:Code:=(f156.body).getD .skip
def yRb:Env:=zkw TT [(81,yE)] []
theorem yIa:FrOk prog ⟨yRb,11,fun _=>none⟩ yQI:=zkA mixed yc ⟨yS,trivial⟩
abbrev yuw:List Par:= [.rd tM,.rd tI]
abbrev yuV:List OT:= [⟨false,tB,.fz⟩]
def yAB (a0:dM) (a1:Int):Option (zaY yuV×zak yuw) :=let r1:=ye a1 0 (i64.wrap ((a0.1.length:Int)-1));some ((r1,()),())
theorem yML:ConOk prog 156 ⟨yuw,yuV,fun x=>yAB x.1 x.2.1⟩:=zkI (yIa) func156 ntmps156.symm fun x=>by kernel_rfl
def yak (a0:dM) (a1:Int):Bool :=let r1:=ye a1 0 (i64.wrap ((a0.1.length:Int)-1));r1
def ygY:Con:=⟨yuw,yuV,fun x=>(fun n=>some ((n,()),())) (yak x.1 x.2.1)⟩
theorem yOS (a0:dM) (a1:Int):yAB a0 a1=(fun n=>some ((n,()),())) (yak a0 a1):=zkV (p:=fun(n:Bool)=>((n,()),())) rfl
theorem ymj:ConOk prog 156 ygY:=(yML).mono (fun x r _ h=>(yOS x.1 x.2.1).trans h)
def ySg:Code:=(f186.body).getD .skip
def ySr:Env:=zkw TT [(187,yi1)] []
theorem yLy:FrOk prog ⟨ySr,10,fun _=>none⟩ ySg:=zkA mixed yc ⟨yqY,trivial⟩
abbrev yxh:List Par:= [.rd tL]
abbrev yxr:List OT:= [⟨false,tB,.fz⟩]
def yB3 (a0:List Int):Option (zaY yxr×zak yxh) :=bif(leb (a0.length:Int) 12)then let r1:=yaf a0;some ((r1,()),()) else some ((false,()),())
theorem yPl:ConOk prog 186 ⟨yxh,yxr,fun x=>yB3 x.1⟩:=zkI (yLy) func186 ntmps186.symm fun x=>by kernel_rfl
def yfL (a0:List Int):Bool :=bif(leb (a0.length:Int) 12)then let r1:=yaf a0;r1 else false
def ysB:Con:=⟨yxh,yxr,fun x=>(fun n=>some ((n,()),())) (yfL x.1)⟩
theorem yRB (a0:List Int):yB3 a0=(fun n=>some ((n,()),())) (yfL a0):=zkV (p:=fun(n:Bool)=>((n,()),())) (zkG (p:=fun(n:Bool)=>((n,()),())) rfl rfl)
theorem yCN:ConOk prog 186 ysB:=(yPl).mono (fun x r _ h=>(yRB x.1).trans h)
theorem yA0:yfL=yad:=funext fun s=>by
 unfold yfL yad yaf;rw[show yal=isW from funext fun x=>by unfold yal; rw[yW,ybA]; rfl];cases leb (s.length:Int) 12<;>rfl
def ybP:Code:=(f127.body).getD .skip
def yfc:Env:=zkw TT [(81,yE),(156,ygY),(186,ysB)] []
theorem yLt:FrOk prog ⟨yfc,76,fun _=>none⟩ ybP:=zkA mixed yc ⟨yS,ymj,yCN,trivial⟩
def yBc:Nat→Option Seg:=fun _=>none
def ycD:Shape:=⟨[(1,false,[.ptr 0 0]),(10,false,[.br tL]),(11,false,[.int .i64]),(12,false,[.int .i64])],[(0,[.br tL,.br tW,.bool,.br tI])],[]⟩
def ygz:Shape:=⟨[(1,false,[.ptr 0 0]),(10,false,[.br tL]),(11,false,[.int .i64]),(12,false,[.ci .i64 0])],[(0,[.br tL,.br tW,.bool,.br tI])],[]⟩
def ygl:Shape:=⟨[(1,false,[.ptr 0 0])],[(0,[.br tL,.br tW,.bool,.br tI])],[]⟩
def ygO:Shape:=⟨[(2,false,[.bool])],[],[]⟩
abbrev yos (v0:List (List Int)) (v1 v2:Int) (v3:dM):(ycD).X:=((((),()),(v0,()),(v1,()),(v2,()),()),((v3.1,v3.2.1,v3.2.2.1,v3.2.2.2,()),()),())
abbrev yI1 (v0:List (List Int)) (v1:Int) (v2:dM):(ygz).X:=((((),()),(v0,()),(v1,()),((),()),()),((v2.1,v2.2.1,v2.2.2.1,v2.2.2.2,()),()),())
abbrev yIT (v0:dM):(ygl).X:=((((),()),()),((v0.1,v0.2.1,v0.2.2.1,v0.2.2.2,()),()),())
abbrev yJe (v0:Bool):(ygO).X:=(((v0,()),()),(),())
def yoX (v0:List (List Int)) (v1 v2:Int) (v3:List (List Int)) (v4:List dW) (v5:Bool) (v6:List Int):Option ((ycD).X ⊕ ((ygl).X ⊕ (ygO).X)) :=bif(ltb v2 v1)then bif(inb v2 v0.length)then let r2:=yfL (nth v0 v2 []);bif(!r2)then some (.inr (.inr (((false,()),()),(),()))) else some (.inl ((((),()),(v0,()),(v1,()),((i64.wrap (v2+1)),()),()),((v3,v4,v5,v6,()),()),())) else none else some (.inr (.inl ((((),()),()),((v3,v4,v5,v6,()),()),())))
def yc5 (x:(ycD).X):=yoX x.1.2.1.1 x.1.2.2.1.1 x.1.2.2.2.1.1 x.2.1.1.1 x.2.1.1.2.1 x.2.1.1.2.2.1 x.2.1.1.2.2.2.1
def yyd (x:(ygz).X):(ycD).X:=((((),()),(x.1.2.1.1,()),(x.1.2.2.1.1,()),(0,()),()),((x.2.1.1.1,x.2.1.1.2.1,x.2.1.1.2.2.1,x.2.1.1.2.2.2.1,()),()),())
def yzG:Code:=(zd7 ybP 64 52).getD .skip
theorem yK7:zd7 ybP 64 13=some (.block 0 (.loop yzG)):=by kernel_rfl
theorem yNA (x:(ycD).X):zhu ⟨yfc,76,yBc⟩ 0 yzG 52 ycD ygl ygO x=yc5 x:=by kernel_rfl
def yys (x:(ygz).X):Nat:=18446744073709551616
def ypG (x:(ygz).X):Option ((ygl).X ⊕ (ygO).X):=zF yc5 (yys x) (yyd x)
def yy7:Seg:=⟨ygz,ygl,ygO,ypG⟩
def yrV:Nat→Option Seg:=fun q=>bif Nat.beq q 13 then some yy7 else yBc q
theorem yLu:FrOk prog ⟨yfc,76,yrV⟩ ybP:=(yLt).loop (sg:=yy7) ycD yyd (by decide) yK7 yc5 yys (by decide) (fun _=>rfl) (fun x r _ h=>h) yNA
def ycE:Shape:=⟨[(1,false,[.ptr 0 0]),(21,false,[.br tW]),(22,false,[.int .i64]),(23,false,[.int .i64])],[(0,[.br tL,.br tW,.bool,.br tI])],[]⟩
def ygA:Shape:=⟨[(1,false,[.ptr 0 0]),(21,false,[.br tW]),(22,false,[.int .i64]),(23,false,[.ci .i64 0])],[(0,[.br tL,.br tW,.bool,.br tI])],[]⟩
def ygm:Shape:=⟨[(1,false,[.ptr 0 0])],[(0,[.br tL,.br tW,.bool,.br tI])],[]⟩
def ygP:Shape:=⟨[(2,false,[.bool])],[],[]⟩
abbrev yot (v0:List dW) (v1 v2:Int) (v3:dM):(ycE).X:=((((),()),(v0,()),(v1,()),(v2,()),()),((v3.1,v3.2.1,v3.2.2.1,v3.2.2.2,()),()),())
abbrev yI2 (v0:List dW) (v1:Int) (v2:dM):(ygA).X:=((((),()),(v0,()),(v1,()),((),()),()),((v2.1,v2.2.1,v2.2.2.1,v2.2.2.2,()),()),())
abbrev yIU (v0:dM):(ygm).X:=((((),()),()),((v0.1,v0.2.1,v0.2.2.1,v0.2.2.2,()),()),())
abbrev yJf (v0:Bool):(ygP).X:=(((v0,()),()),(),())
def yoY (v0:List dW) (v1 v2:Int) (v3:List (List Int)) (v4:List dW) (v5:Bool) (v6:List Int):Option ((ycE).X ⊕ ((ygm).X ⊕ (ygP).X)) :=bif(ltb v2 v1)then bif(inb v2 v0.length)then let r6:=yak (v3,v4,v5,v6) ((nth v0 v2 (0,[])).1);bif(!(!r6))then let r7:=yfL ((nth v0 v2 (0,[])).2);bif(!r7)then some (.inr (.inr (((false,()),()),(),()))) else some (.inl ((((),()),(v0,()),(v1,()),((i64.wrap (v2+1)),()),()),((v3,v4,v5,v6,()),()),())) else some (.inr (.inr (((false,()),()),(),()))) else none else some (.inr (.inl ((((),()),()),((v3,v4,v5,v6,()),()),())))
def yc6 (x:(ycE).X):=yoY x.1.2.1.1 x.1.2.2.1.1 x.1.2.2.2.1.1 x.2.1.1.1 x.2.1.1.2.1 x.2.1.1.2.2.1 x.2.1.1.2.2.2.1
def yye (x:(ygA).X):(ycE).X:=((((),()),(x.1.2.1.1,()),(x.1.2.2.1.1,()),(0,()),()),((x.2.1.1.1,x.2.1.1.2.1,x.2.1.1.2.2.1,x.2.1.1.2.2.2.1,()),()),())
def yzH:Code:=(zd7 ybP 64 116).getD .skip
theorem yK8:zd7 ybP 64 29=some (.block 2 (.loop yzH)):=by kernel_rfl
theorem yNB (x:(ycE).X):zhu ⟨yfc,76,yrV⟩ 2 yzH 116 ycE ygm ygP x=yc6 x:=by kernel_rfl
def yyt (x:(ygA).X):Nat:=18446744073709551616
def ypH (x:(ygA).X):Option ((ygm).X ⊕ (ygP).X):=zF yc6 (yyt x) (yye x)
def yy8:Seg:=⟨ygA,ygm,ygP,ypH⟩
def yrW:Nat→Option Seg:=fun q=>bif Nat.beq q 29 then some yy8 else yrV q
theorem yLv:FrOk prog ⟨yfc,76,yrW⟩ ybP:=(yLu).loop (sg:=yy8) ycE yye (by decide) yK8 yc6 yyt (by decide) (fun _=>rfl) (fun x r _ h=>h) yNB
def ycF:Shape:=⟨[(1,false,[.ptr 0 0]),(40,false,[.br tI]),(41,false,[.int .i64]),(42,false,[.int .i64])],[(0,[.br tL,.br tW,.bool,.br tI])],[]⟩
def ygB:Shape:=⟨[(1,false,[.ptr 0 0]),(40,false,[.br tI]),(41,false,[.int .i64]),(42,false,[.ci .i64 0])],[(0,[.br tL,.br tW,.bool,.br tI])],[]⟩
def ygn:Shape:=⟨[(1,false,[.ptr 0 0])],[(0,[.br tL,.br tW,.bool,.br tI])],[]⟩
def ygQ:Shape:=⟨[(2,false,[.bool])],[],[]⟩
abbrev you (v0:List Int) (v1 v2:Int) (v3:dM):(ycF).X:=((((),()),(v0,()),(v1,()),(v2,()),()),((v3.1,v3.2.1,v3.2.2.1,v3.2.2.2,()),()),())
abbrev yI3 (v0:List Int) (v1:Int) (v2:dM):(ygB).X:=((((),()),(v0,()),(v1,()),((),()),()),((v2.1,v2.2.1,v2.2.2.1,v2.2.2.2,()),()),())
abbrev yIV (v0:dM):(ygn).X:=((((),()),()),((v0.1,v0.2.1,v0.2.2.1,v0.2.2.2,()),()),())
abbrev yJg (v0:Bool):(ygQ).X:=(((v0,()),()),(),())
def yoZ (v0:List Int) (v1 v2:Int) (v3:List (List Int)) (v4:List dW) (v5:Bool) (v6:List Int):Option ((ycF).X ⊕ ((ygn).X ⊕ (ygQ).X)) :=bif(ltb v2 v1)then bif(inb v2 v0.length)then let r10:=yak (v3,v4,v5,v6) (nth v0 v2 0);bif(!(!r10))then bif(ltb 0 v2)then bif(inb (i64.wrap (v2-1)) v6.length)then bif(leb (nth v0 v2 0) (nth v6 (i64.wrap (v2-1)) 0))then some (.inr (.inr (((false,()),()),(),()))) else some (.inl ((((),()),(v0,()),(v1,()),((i64.wrap (v2+1)),()),()),((v3,v4,v5,v6,()),()),())) else none else some (.inl ((((),()),(v0,()),(v1,()),((i64.wrap (v2+1)),()),()),((v3,v4,v5,v6,()),()),())) else some (.inr (.inr (((false,()),()),(),()))) else none else some (.inr (.inl ((((),()),()),((v3,v4,v5,v6,()),()),())))
def yc7 (x:(ycF).X):=yoZ x.1.2.1.1 x.1.2.2.1.1 x.1.2.2.2.1.1 x.2.1.1.1 x.2.1.1.2.1 x.2.1.1.2.2.1 x.2.1.1.2.2.2.1
def yyf (x:(ygB).X):(ycF).X:=((((),()),(x.1.2.1.1,()),(x.1.2.2.1.1,()),(0,()),()),((x.2.1.1.1,x.2.1.1.2.1,x.2.1.1.2.2.1,x.2.1.1.2.2.2.1,()),()),())
def yzI:Code:=(zd7 ybP 64 244).getD .skip
theorem yK9:zd7 ybP 64 61=some (.block 4 (.loop yzI)):=by kernel_rfl
theorem yNC (x:(ycF).X):zhu ⟨yfc,76,yrW⟩ 4 yzI 244 ycF ygn ygQ x=yc7 x:=by kernel_rfl
def yyu (x:(ygB).X):Nat:=18446744073709551616
def ypI (x:(ygB).X):Option ((ygn).X ⊕ (ygQ).X):=zF yc7 (yyu x) (yyf x)
def yy9:Seg:=⟨ygB,ygn,ygQ,ypI⟩
def yN6:Nat→Option Seg:=fun q=>bif Nat.beq q 61 then some yy9 else yrW q
theorem yLw:FrOk prog ⟨yfc,76,yN6⟩ ybP:=(yLv).loop (sg:=yy9) ycF yyf (by decide) yK9 yc7 yyu (by decide) (fun _=>rfl) (fun x r _ h=>h) yNC
abbrev ypU:List Par:= [.rd tM]
abbrev yxp:List OT:= [⟨false,tB,.fz⟩]
def ysW (a0:dM):Option (zaY yxp×zak ypU) :=zkt (ypG ((((),()),(a0.1,()),((a0.1.length:Int),()),((),()),()),((a0.1,a0.2.1,a0.2.2.1,a0.2.2.2,()),()),())) (fun y2 =>zkt (ypH ((((),()),(y2.2.1.1.2.1,()),((y2.2.1.1.2.1.length:Int),()),((),()),()),((y2.2.1.1.1,y2.2.1.1.2.1,y2.2.1.1.2.2.1,y2.2.1.1.2.2.2.1,()),()),())) (fun y7 =>zkt (ypI ((((),()),(y7.2.1.1.2.2.2.1,()),((y7.2.1.1.2.2.2.1.length:Int),()),((),()),()),((y7.2.1.1.1,y7.2.1.1.2.1,y7.2.1.1.2.2.1,y7.2.1.1.2.2.2.1,()),()),())) (fun y10 =>let r12:=ye (y10.2.1.1.1.length:Int) 1 20;bif r12 then some (((leb (y10.2.1.1.2.1.length:Int) 60),()),()) else some ((false,()),())) (fun y10 =>some ((y10.1.1.1,()),()))) (fun y7 =>some ((y7.1.1.1,()),()))) (fun y2 =>some ((y2.1.1.1,()),()))
theorem yPj:ConOk prog 127 ⟨ypU,yxp,fun x=>ysW x.1⟩:=zkI (yLw) func127 ntmps127.symm fun x=>by kernel_rfl
def yaq (a0:dM):Bool:=yu a0
theorem yRz (a0:dM) (hk:zjx ypU (a0,())):ysW a0=(fun n=>some ((n,()),())) (yaq a0):=by
 have hb1:a0.1.length*24≤2^47:=hk.1.1.1;have hb2:a0.2.1.length*32≤2^47:=hk.1.2.1.1;have hb3:a0.2.2.2.length*8≤2^47:=hk.1.2.2.2.1
 have h1:ypG (yI1 a0.1 a0.1.length a0)=some (bif a0.1.all yad then .inl (yIT a0)else .inr (yJe false)) :=
  zj9 (step:=yc5) a0.1 [] (fun i=>yos a0.1 a0.1.length i a0) yad _ _ (fun i hi=>by
   simp only[yc5,yos,yoX,zky (show(i:Int)<a0.1.length by omega),cond_true,wq ((i:Int)+1) (by omega) (by omega),Int.natCast_add,Int.natCast_one,Int.toNat_natCast,zkR hi,zkS,yA0]
   cases yad (a0.1.getD i [])<;>rfl) (by simp only[yc5,yos,yoX,zk3 (Int.le_refl _),cond_false]) _ (by show _<18446744073709551616; omega)
 have h2:ypH (yI2 a0.2.1 a0.2.1.length a0)=some (bif a0.2.1.all (yo9 a0.1.length)then .inl (yIU a0)else .inr (yJf false)) :=
  zj9 (step:=yc6) a0.2.1 (0,[]) (fun i=>yot a0.2.1 a0.2.1.length i a0) (yo9 a0.1.length) _ _ (fun i hi=>by
   simp only[yc6,yot,yoY,zky (show(i:Int)<a0.2.1.length by omega),cond_true,wq ((i:Int)+1) (by omega) (by omega),Int.natCast_add,Int.natCast_one,Int.toNat_natCast,zkR hi,zkS,yA0,yak,yW,yh8 (show a0.1.length≤1152921504606846976 by omega),yo9]
   cases inb (a0.2.1.getD i (0,[])).1 a0.1.length<;>cases yad (a0.2.1.getD i (0,[])).2<;>rfl) (by simp only[yc6,yot,yoY,zk3 (Int.le_refl _),cond_false]) _ (by show _<18446744073709551616; omega)
 have h3:ypI (yI3 a0.2.2.2 a0.2.2.2.length a0)=some (bif(List.range a0.2.2.2.length).any (yzD a0.1.length a0.2.2.2)then .inr (yJg false)else .inl (yIV a0)) :=
  zji (step:=yc7) (fun i=>you a0.2.2.2 a0.2.2.2.length i a0) a0.2.2.2.length (yzD a0.1.length a0.2.2.2) _ _ (fun i hi=>by
   simp only[yc7,you,yoZ,zky (show(i:Int)<a0.2.2.2.length by omega),cond_true,wq ((i:Int)+1) (by omega) (by omega),Int.natCast_add,Int.natCast_one,Int.toNat_natCast,zkR hi,zkS,yak,yW,yh8 (show a0.1.length≤1152921504606846976 by omega),yzD];rcases Nat.eq_zero_or_pos i with rfl | h0
   ·cases inb (a0.2.2.2.getD 0 0) a0.1.length<;>rfl
   ·rw[show i64.wrap ((i:Int)-1)=((i-1:Nat):Int)by rw[wr (by omega) (by omega)]; omega,zkR (show i-1<a0.2.2.2.length by omega),zkS,zky (show(0:Int)<i by omega),decide_eq_true h0]
    cases inb (a0.2.2.2.getD i 0) a0.1.length<;>cases leb (a0.2.2.2.getD i 0) (a0.2.2.2.getD (i-1) 0)<;>rfl) (by simp only[yc7,you,yoZ,zk3 (Int.le_refl _),cond_false]) _ (by show _<18446744073709551616; omega)
 unfold ysW yaq yu;rw[h1];cases a0.1.all yad
 ·rfl
 simp only[cond_true,zkN,h2];cases a0.2.1.all (yo9 a0.1.length)
 ·rfl
 simp only[cond_true,zkN,h3,yQa,yW,ybA];cases yl7 a0.1.length a0.2.2.2
 ·rfl
 simp only[Bool.not_true,cond_false,zkN];cases leb 1 (a0.1.length:Int)<;>cases leb (a0.1.length:Int) 20<;>rfl
def ye4:Con:=⟨ypU,yxp,fun x=>(fun n=>some ((n,()),())) (yaq x.1)⟩
theorem yjB:ConOk prog 127 ye4:=(yPj).mono (fun x r hk h=>(yRz x.1 hk).trans h)
def yNT:Code:=(f128.body).getD .skip
def yOj:Env:=zkw TT [] []
theorem yF3:FrOk prog ⟨yOj,6,fun _=>none⟩ yNT:=zkA mixed yc trivial
abbrev ysb:List Par:= [.rd tG]
abbrev yso:List OT:= [⟨false,tI,.fz⟩]
def yyZ (a0:dG):Option (zaY yso×zak ysb) :=some (((i64.wrap (6+a0.2)),()),())
theorem yJL:ConOk prog 128 ⟨ysb,yso,fun x=>yyZ x.1⟩:=zkI (yF3) func128 ntmps128.symm fun x=>by kernel_rfl
def ymb (a0:dG):Int :=(i64.wrap (6+a0.2))
def yxZ:Con:=⟨ysb,yso,fun x=>(fun n=>some ((n,()),())) (ymb x.1)⟩
theorem yMm (a0:dG):yyZ a0=(fun n=>some ((n,()),())) (ymb a0):=zkV (p:=fun(n:Int)=>((n,()),())) rfl
theorem yNj:ConOk prog 128 yxZ:=(yJL).mono (fun x r _ h=>(yMm x.1).trans h)
def ypl:Code:=(f55.body).getD .skip
def yw6:Env:=zkw TT [(81,yE),(123,yl8),(125,yqy),(126,yxX),(127,ye4),(128,yxZ)] []
theorem yLq:FrOk prog ⟨yw6,103,fun _=>none⟩ ypl:=zkA mixed yc ⟨yS,yvr,yBR,yNh,yjB,yNj,trivial⟩
def yBb:Nat→Option Seg:=fun _=>none
def ycC:Shape:=⟨[(1,false,[.ptr 0 0]),(41,false,[.br tM]),(42,false,[.int .i64]),(43,false,[.int .i64])],[(0,[.int .i64,.int .i64,.int .i64,.br tM,.int .i64,.int .i64,.int .i64,.int .i64,.int .i64,.br tW,.int .i64,.bool,.bool])],[]⟩
def ygy:Shape:=⟨[(1,false,[.ptr 0 0]),(41,false,[.br tM]),(42,false,[.int .i64]),(43,false,[.ci .i64 0])],[(0,[.int .i64,.int .i64,.int .i64,.br tM,.int .i64,.int .i64,.int .i64,.int .i64,.int .i64,.br tW,.int .i64,.bool,.bool])],[]⟩
def ygk:Shape:=⟨[(1,false,[.ptr 0 0])],[(0,[.int .i64,.int .i64,.int .i64,.br tM,.int .i64,.int .i64,.int .i64,.int .i64,.int .i64,.br tW,.int .i64,.bool,.bool])],[]⟩
def ygM:Shape:=⟨[(2,false,[.bool])],[],[]⟩
abbrev yor (v0:List dM) (v1 v2:Int) (v3:dA):(ycC).X:=((((),()),(v0,()),(v1,()),(v2,()),()),((v3.1,v3.2.1.1,v3.2.1.2,v3.2.2.1,v3.2.2.2.1,v3.2.2.2.2.1,v3.2.2.2.2.2.1,v3.2.2.2.2.2.2.1,v3.2.2.2.2.2.2.2.1,v3.2.2.2.2.2.2.2.2.1,v3.2.2.2.2.2.2.2.2.2.1,v3.2.2.2.2.2.2.2.2.2.2.1,v3.2.2.2.2.2.2.2.2.2.2.2,()),()),())
abbrev yI0 (v0:List dM) (v1:Int) (v2:dA):(ygy).X:=((((),()),(v0,()),(v1,()),((),()),()),((v2.1,v2.2.1.1,v2.2.1.2,v2.2.2.1,v2.2.2.2.1,v2.2.2.2.2.1,v2.2.2.2.2.2.1,v2.2.2.2.2.2.2.1,v2.2.2.2.2.2.2.2.1,v2.2.2.2.2.2.2.2.2.1,v2.2.2.2.2.2.2.2.2.2.1,v2.2.2.2.2.2.2.2.2.2.2.1,v2.2.2.2.2.2.2.2.2.2.2.2,()),()),())
abbrev yIS (v0:dA):(ygk).X:=((((),()),()),((v0.1,v0.2.1.1,v0.2.1.2,v0.2.2.1,v0.2.2.2.1,v0.2.2.2.2.1,v0.2.2.2.2.2.1,v0.2.2.2.2.2.2.1,v0.2.2.2.2.2.2.2.1,v0.2.2.2.2.2.2.2.2.1,v0.2.2.2.2.2.2.2.2.2.1,v0.2.2.2.2.2.2.2.2.2.2.1,v0.2.2.2.2.2.2.2.2.2.2.2,()),()),())
abbrev yJd (v0:Bool):(ygM).X:=(((v0,()),()),(),())
def yoW (v0:List dM) (v1 v2 v3 v4 v5:Int) (v6:List dM) (v7 v8 v9 v10 v11:Int) (v12:List dW) (v13:Int) (v14 v15:Bool):Option ((ycC).X ⊕ ((ygk).X ⊕ (ygM).X)) :=bif(ltb v2 v1)then bif(inb v2 v0.length)then let r7:=yaq ((nth v0 v2 ([],[],false,[])).1,((nth v0 v2 ([],[],false,[])).2).1,(((nth v0 v2 ([],[],false,[])).2).2));bif(!(!r7))then let r8:=ymb (v4,v5);bif(!((((nth v0 v2 ([],[],false,[])).1).length:Int) !=r8))then bif(((nth v0 v2 ([],[],false,[])).2).2).1 then bif(v7 !=v2)then bif(!v15)then some (.inr (.inr (((false,()),()),(),()))) else some (.inl ((((),()),(v0,()),(v1,()),((i64.wrap (v2+1)),()),()),((v3,v4,v5,v6,v7,v8,v9,v10,v11,v12,v13,v14,v15,()),()),())) else some (.inl ((((),()),(v0,()),(v1,()),((i64.wrap (v2+1)),()),()),((v3,v4,v5,v6,v7,v8,v9,v10,v11,v12,v13,v14,v15,()),()),())) else some (.inl ((((),()),(v0,()),(v1,()),((i64.wrap (v2+1)),()),()),((v3,v4,v5,v6,v7,v8,v9,v10,v11,v12,v13,v14,v15,()),()),())) else some (.inr (.inr (((false,()),()),(),()))) else some (.inr (.inr (((false,()),()),(),()))) else none else some (.inr (.inl ((((),()),()),((v3,v4,v5,v6,v7,v8,v9,v10,v11,v12,v13,v14,v15,()),()),())))
def yc4 (x:(ycC).X):=yoW x.1.2.1.1 x.1.2.2.1.1 x.1.2.2.2.1.1 x.2.1.1.1 x.2.1.1.2.1 x.2.1.1.2.2.1 x.2.1.1.2.2.2.1 x.2.1.1.2.2.2.2.1 x.2.1.1.2.2.2.2.2.1 x.2.1.1.2.2.2.2.2.2.1 x.2.1.1.2.2.2.2.2.2.2.1 x.2.1.1.2.2.2.2.2.2.2.2.1 x.2.1.1.2.2.2.2.2.2.2.2.2.1 x.2.1.1.2.2.2.2.2.2.2.2.2.2.1 x.2.1.1.2.2.2.2.2.2.2.2.2.2.2.1 x.2.1.1.2.2.2.2.2.2.2.2.2.2.2.2.1
def yyc (x:(ygy).X):(ycC).X:=((((),()),(x.1.2.1.1,()),(x.1.2.2.1.1,()),(0,()),()),((x.2.1.1.1,x.2.1.1.2.1,x.2.1.1.2.2.1,x.2.1.1.2.2.2.1,x.2.1.1.2.2.2.2.1,x.2.1.1.2.2.2.2.2.1,x.2.1.1.2.2.2.2.2.2.1,x.2.1.1.2.2.2.2.2.2.2.1,x.2.1.1.2.2.2.2.2.2.2.2.1,x.2.1.1.2.2.2.2.2.2.2.2.2.1,x.2.1.1.2.2.2.2.2.2.2.2.2.2.1,x.2.1.1.2.2.2.2.2.2.2.2.2.2.2.1,x.2.1.1.2.2.2.2.2.2.2.2.2.2.2.2.1,()),()),())
def yzF:Code:=(zd7 ypl 64 116).getD .skip
theorem yK6:zd7 ypl 64 29=some (.block 0 (.loop yzF)):=by kernel_rfl
theorem yNz (x:(ycC).X):zhu ⟨yw6,103,yBb⟩ 0 yzF 116 ycC ygk ygM x=yc4 x:=by kernel_rfl
def yyr (x:(ygy).X):Nat:=18446744073709551616
def ypF (x:(ygy).X):Option ((ygk).X ⊕ (ygM).X):=zF yc4 (yyr x) (yyc x)
def yy6:Seg:=⟨ygy,ygk,ygM,ypF⟩
def yN5:Nat→Option Seg:=fun q=>bif Nat.beq q 29 then some yy6 else yBb q
theorem yLr:FrOk prog ⟨yw6,103,yN5⟩ ypl:=(yLq).loop (sg:=yy6) ycC yyc (by decide) yK6 yc4 yyr (by decide) (fun _=>rfl) (fun x r _ h=>h) yNz
abbrev ypT:List Par:= [.rd tA]
abbrev yxn:List OT:= [⟨false,tB,.fz⟩]
def ysV (a0:dA):Option (zaY yxn×zak ypT) :=let r1:=yd0 a0.2.1;bif(!(!r1))then bif(!((a0.2.2.1.length:Int) !=a0.2.1.1))then let r2:=ye a0.1 1 60000;bif(!(!r2))then let r3:=yes a0.2.1 a0.2.2.2.1 a0.2.2.2.2.1;bif(!(!r3))then bnd (ymg a0) fun r4 =>bif(!r4.1.1)then some ((false,()),()) else zkt (ypF ((((),()),(a0.2.2.1,()),((a0.2.2.1.length:Int),()),((),()),()),((a0.1,a0.2.1.1,a0.2.1.2,a0.2.2.1,a0.2.2.2.1,a0.2.2.2.2.1,a0.2.2.2.2.2.1,a0.2.2.2.2.2.2.1,a0.2.2.2.2.2.2.2.1,a0.2.2.2.2.2.2.2.2.1,a0.2.2.2.2.2.2.2.2.2.1,a0.2.2.2.2.2.2.2.2.2.2.1,a0.2.2.2.2.2.2.2.2.2.2.2,()),()),())) (fun y8 =>let r10:=ye y8.2.1.1.2.2.2.2.2.2.1 0 60000;bif r10 then let r11:=ye y8.2.1.1.2.2.2.2.2.2.2.1 0 60000;bif r11 then let r12:=ye y8.2.1.1.2.2.2.2.2.2.2.2.1 0 60000;bif r12 then let r13:=ye (i64.wrap (y8.2.1.1.2.2.2.2.2.2.1-y8.2.1.1.2.2.2.2.2.2.2.1)) 0 4;bif r13 then let r14:=ye y8.2.1.1.2.2.2.2.2.2.2.2.2.2.1 (-1) 1000;some ((r14,()),()) else some ((false,()),()) else some ((false,()),()) else some ((false,()),()) else some ((false,()),())) (fun y8 =>some ((y8.1.1.1,()),())) else some ((false,()),()) else some ((false,()),()) else some ((false,()),()) else some ((false,()),())
theorem yPh:ConOk prog 55 ⟨ypT,yxn,fun x=>ysV x.1⟩:=zkI (yLr) func55 ntmps55.symm fun x=>by kernel_rfl
theorem yVG {S T G F z TS le:Bool} (h1:T=true→TS=true→S=true) (h2:S=true→T=true→z=(TS&&le)) :
  (bif S then bif T then bif G then bif z then some ((F,()),())else some ((false,()),())else some ((false,()),())else some ((false,()),())else some ((false,()),()))=some (((T&&(TS&&(le&&(G&&F)))),()),()):=by
 cases S
 ·cases T
  ·rfl
  ·cases TS
   ·rfl
   ·exact absurd (h1 rfl rfl) Bool.false_ne_true
 ·cases T
  ·cases G<;>rfl
  ·rw[h2 rfl rfl]
   cases TS<;>cases le<;>cases G<;>rfl
def ybb (a0:dA):Bool:=ya2 a0
theorem yRx (a0:dA) (hk:zjx ypT (a0,())):ysV a0=(fun n=>some ((n,()),())) (ybb a0):=by
 have hb:a0.2.2.1.length*80≤2^47:=hk.1.2.2.1.1;unfold ysV ybb ya2;simp only[yEj,yW,ybA];cases hg:yd a0.2.1
 ·rfl
 have hg2:=yl.1 hg
 have h1:ypF (yI0 a0.2.2.1 a0.2.2.1.length a0)=some (bif(List.range a0.2.2.1.length).any (yfJ a0)then .inr (yJd false)else .inl (yIS a0)) :=
  zji (step:=yc4) (fun i=>yor a0.2.2.1 a0.2.2.1.length i a0) a0.2.2.1.length (yfJ a0) _ _ (fun i hi=>by
   simp only[yc4,yor,yoW,zky (show(i:Int)<a0.2.2.1.length by omega),cond_true,wq ((i:Int)+1) (by omega) (by omega),Int.natCast_add,Int.natCast_one,Int.toNat_natCast,zkR hi,zkX,yaq,yfJ,ymb,wq (6+a0.2.1.2) (by omega) (by omega),yf];rw[show(a0.2.2.2.1 !=(i:Int))=((i:Int) !=a0.2.2.2.1)from bne_comm]
   cases yu (nth a0.2.2.1 i ([],[],false,[]))<;>cases(((nth a0.2.2.1 i ([],[],false,[])).1.length:Int) !=6+a0.2.1.2)<;>cases(nth a0.2.2.1 i ([],[],false,[])).2.2.1<;>cases((i:Int) !=a0.2.2.2.1)<;>cases a0.2.2.2.2.2.2.2.2.2.2.2<;>rfl) (by simp only[yc4,yor,yoW,zk3 (Int.le_refl _),cond_false]) _ (by show _<18446744073709551616; omega)
 rw[yNu a0 hg,h1];simp only[zkH,yij,yes,yW,ybA,wq (a0.2.1.1-1) (by omega) (by omega),yjs]
 have hw:(leb 0 a0.2.2.2.2.2.1&&leb a0.2.2.2.2.2.1 60000)=true→(leb 0 a0.2.2.2.2.2.2.1&&leb a0.2.2.2.2.2.2.1 60000)=true→i64.wrap (a0.2.2.2.2.2.1-a0.2.2.2.2.2.2.1)=a0.2.2.2.2.2.1-a0.2.2.2.2.2.2.1:=fun h h'=>by
  rw[Bool.and_eq_true,zj7,zj7]at h h';exact wr (by omega) (by omega)
 simp only[bne,Bool.not_not,cond_true,Bool.true_and]
 have h2:(leb 0 a0.2.2.2.2.2.1&&leb a0.2.2.2.2.2.1 60000)=true→(leb 0 a0.2.2.2.2.2.2.1&&leb a0.2.2.2.2.2.2.1 60000)=true→(leb 0 (i64.wrap (a0.2.2.2.2.2.1-a0.2.2.2.2.2.2.1))&&leb (i64.wrap (a0.2.2.2.2.2.1-a0.2.2.2.2.2.2.1)) 4)=((leb a0.2.2.2.2.2.2.1 a0.2.2.2.2.2.1&&leb a0.2.2.2.2.2.1 60000)&&leb a0.2.2.2.2.2.1 (a0.2.2.2.2.2.2.1+4)):=fun h h'=>by
  rw[hw h h',Bool.eq_iff_iff];simp only[Bool.and_eq_true,zj7]at h h' ⊢;omega
 have h3:(leb 0 a0.2.2.2.2.2.2.1&&leb a0.2.2.2.2.2.2.1 60000)=true→(leb a0.2.2.2.2.2.2.1 a0.2.2.2.2.2.1&&leb a0.2.2.2.2.2.1 60000)=true→(leb 0 a0.2.2.2.2.2.1&&leb a0.2.2.2.2.2.1 60000)=true:=fun h h'=>by
  simp only[Bool.and_eq_true,zj7]at h h' ⊢;omega
 cases((a0.2.2.1.length:Int)==a0.2.1.1)
 ·cases(leb 1 a0.1&&leb a0.1 60000)<;>cases(List.range a0.2.2.1.length).any (yfJ a0)<;>rfl
 cases(leb 1 a0.1&&leb a0.1 60000)
 ·rfl
 cases(leb (-1) a0.2.2.2.1&&leb a0.2.2.2.1 (a0.2.1.1-1))
 ·cases(List.range a0.2.2.1.length).any (yfJ a0)<;>cases yaH a0.2.1 a0.2.2.2.2.2.2.2.2.1<;>rfl
 cases(leb 0 a0.2.2.2.2.1&&leb a0.2.2.2.2.1 a0.2.1.2)
 ·cases(List.range a0.2.2.1.length).any (yfJ a0)<;>cases yaH a0.2.1 a0.2.2.2.2.2.2.2.2.1<;>rfl
 cases yaH a0.2.1 a0.2.2.2.2.2.2.2.2.1
 ·cases(List.range a0.2.2.1.length).any (yfJ a0)<;>cases(a0.2.2.2.1== -1)<;>cases(a0.2.2.2.2.1==0)<;>rfl
 cases(List.range a0.2.2.1.length).any (yfJ a0)
 ·cases(a0.2.2.2.1== -1)<;>cases(a0.2.2.2.2.1==0)
  case true.false=>rfl
  all_goals exact yVG h3 h2
 ·cases(a0.2.2.2.1== -1)<;>cases(a0.2.2.2.2.1==0)<;>rfl
def yh6:Con:=⟨ypT,yxn,fun x=>(fun n=>some ((n,()),())) (ybb x.1)⟩
theorem yn4:ConOk prog 55 yh6:=(yPh).mono (fun x r hk h=>(yRx x.1 hk).trans h)
def yKz:Code:=(f158.body).getD .skip
def yKX:Env:=zkw TT [] []
theorem yD2:FrOk prog ⟨yKX,6,fun _=>none⟩ yKz:=zkA mixed yc trivial
abbrev ykj:List Par:= [.rd tL]
abbrev yqb:List OT:= [⟨false,tL,(.ow .fz)⟩]
def ym1 (a0:List Int):Option (zaY yqb×zak ykj) :=bif(zkl ([]:List Int).length a0.length 8)then some (((([]:List Int)++a0),()),()) else none
theorem yGU:ConOk prog 158 ⟨ykj,yqb,fun x=>ym1 x.1⟩:=zkI (yD2) func158 ntmps158.symm fun x=>by kernel_rfl
def yp (a0:List Int):List Int:=a0
theorem yJr (a0:List Int) (hk:zjx ykj (a0,())):ym1 a0=(fun n=>some ((n,()),())) (yp a0):=by
 have hb:a0.length*8≤2^47:=hk.1.1;unfold ym1 yp;rw[show zkl ([]:List Int).length a0.length 8=true by rw[zkF,List.length_nil]; omega];rfl
def ybx:Con:=⟨ykj,yqb,fun x=>(fun n=>some ((n,()),())) (yp x.1)⟩
theorem ydG:ConOk prog 158 ybx:=(yGU).mono (fun x r hk h=>(yJr x.1 hk).trans h)
def ydx:Code:=(f133.body).getD .skip
def yhO:Env:=zkw TT [(158,ybx)] []
theorem yFX:FrOk prog ⟨yhO,49,fun _=>none⟩ ydx:=zkA mixed yc ⟨ydG,trivial⟩
def ywY:Nat→Option Seg:=fun _=>none
def ybr:Shape:=⟨[(1,false,[.ptr 0 0]),(2,false,[.ptr 64 0]),(3,false,[.ptr 4480 0]),(15,false,[.br tL]),(16,false,[.int .i64]),(17,false,[.int .i64])],[(0,[.br tL,.br tW,.bool,.br tI]),(64,[.nil,.nil,.bool,.nil]),(4480,[.at 800000001,.nil,.bool,.at 800000000])],[(800000001,tL,(.ow .fz)),(800000000,tI,.fz)]⟩
def yeH:Shape:=⟨[(1,false,[.ptr 0 0]),(2,false,[.ptr 64 0]),(3,false,[.ptr 4480 0]),(15,false,[.br tL]),(16,false,[.int .i64]),(17,false,[.ci .i64 0])],[(0,[.br tL,.br tW,.bool,.br tI]),(64,[.nil,.nil,.bool,.nil]),(4480,[.at 800000001,.nil,.bool,.at 800000000])],[(800000001,tL,(.ow .fz)),(800000000,tI,.fz)]⟩
def yey:Shape:=⟨[(1,false,[.ptr 0 0]),(2,false,[.ptr 64 0]),(3,false,[.ptr 4480 0])],[(0,[.br tL,.br tW,.bool,.br tI]),(64,[.nil,.nil,.bool,.nil]),(4480,[.at 800000000,.nil,.bool,.at 800000001])],[(800000000,tL,(.ow .fz)),(800000001,tI,.fz)]⟩
def yhA:Shape:=⟨[],[],[]⟩
abbrev ylj (v0:List (List Int)) (v1 v2:Int) (v3 v4 v5:dM):(ybr).X:=((((),()),((),()),((),()),(v0,()),(v1,()),(v2,()),()),((v3.1,v3.2.1,v3.2.2.1,v3.2.2.2,()),((),(),v4.2.2.1,(),()),((),(),v5.2.2.1,(),()),()),(v5.1,v5.2.2.2,()))
abbrev yEu (v0:List (List Int)) (v1:Int) (v2 v3 v4:dM):(yeH).X:=((((),()),((),()),((),()),(v0,()),(v1,()),((),()),()),((v2.1,v2.2.1,v2.2.2.1,v2.2.2.2,()),((),(),v3.2.2.1,(),()),((),(),v4.2.2.1,(),()),()),(v4.1,v4.2.2.2,()))
abbrev ytY (v0 v1 v2:dM):(yey).X:=((((),()),((),()),((),()),()),((v0.1,v0.2.1,v0.2.2.1,v0.2.2.2,()),((),(),v1.2.2.1,(),()),((),(),v2.2.2.1,(),()),()),(v2.1,v2.2.2.2,()))
def ylB (v0:List (List Int)) (v1 v2:Int) (v3:List (List Int)) (v4:List dW) (v5:Bool) (v6:List Int) (v7 v8:Bool) (v9:List (List Int)) (v10:List Int):Option ((ybr).X ⊕ ((yey).X ⊕ (yhA).X)) :=bif(ltb v2 v1)then bif(inb v2 v0.length)then let r4:=yp (nth v0 v2 []);bif(zkl v9.length ([r4]:List (List Int)).length 24)then some (.inl ((((),()),((),()),((),()),(v0,()),(v1,()),((i64.wrap (v2+1)),()),()),((v3,v4,v5,v6,()),((),(),v7,(),()),((),(),v8,(),()),()),((v9++([r4]:List (List Int))),v10,()))) else none else none else some (.inr (.inl ((((),()),((),()),((),()),()),((v3,v4,v5,v6,()),((),(),v7,(),()),((),(),v8,(),()),()),(v9,v10,()))))
def ybH (x:(ybr).X):=ylB x.1.2.2.2.1.1 x.1.2.2.2.2.1.1 x.1.2.2.2.2.2.1.1 x.2.1.1.1 x.2.1.1.2.1 x.2.1.1.2.2.1 x.2.1.1.2.2.2.1 x.2.1.2.1.2.2.1 x.2.1.2.2.1.2.2.1 x.2.2.1 x.2.2.2.1
def ytz (x:(yeH).X):(ybr).X:=((((),()),((),()),((),()),(x.1.2.2.2.1.1,()),(x.1.2.2.2.2.1.1,()),(0,()),()),((x.2.1.1.1,x.2.1.1.2.1,x.2.1.1.2.2.1,x.2.1.1.2.2.2.1,()),((),(),x.2.1.2.1.2.2.1,(),()),((),(),x.2.1.2.2.1.2.2.1,(),()),()),(x.2.2.1,x.2.2.2.1,()))
def yvI:Code:=(zd7 ydx 64 116).getD .skip
theorem yFI:zd7 ydx 64 29=some (.block 0 (.loop yvI)):=by kernel_rfl
theorem yHf (x:(ybr).X):zhu ⟨yhO,49,ywY⟩ 0 yvI 116 ybr yey yhA x=ybH x:=by kernel_rfl
def ytM (x:(yeH).X):Nat:=18446744073709551616
def ymr (x:(yeH).X):Option ((yey).X ⊕ (yhA).X):=zF ybH (ytM x) (ytz x)
def yt8:Seg:=⟨yeH,yey,yhA,ymr⟩
def yn6:Nat→Option Seg:=fun q=>bif Nat.beq q 29 then some yt8 else ywY q
theorem yFY:FrOk prog ⟨yhO,49,yn6⟩ ydx:=(yFX).loop (sg:=yt8) ybr ytz (by decide) yFI ybH ytM (by decide) (fun _=>rfl) (fun x r _ h=>h) yHf
def ybs:Shape:=⟨[(2,false,[.ptr 64 0]),(3,false,[.ptr 4480 0]),(30,false,[.br tW]),(31,false,[.int .i64]),(32,false,[.int .i64])],[(64,[.nil,.nil,.bool,.nil]),(4480,[.at 800000000,.at 800000002,.bool,.at 800000001])],[(800000000,tL,(.ow .fz)),(800000002,tW,(.pr .fz (.ow .fz))),(800000001,tI,.fz)]⟩
def yeI:Shape:=⟨[(2,false,[.ptr 64 0]),(3,false,[.ptr 4480 0]),(30,false,[.br tW]),(31,false,[.int .i64]),(32,false,[.ci .i64 0])],[(64,[.nil,.nil,.bool,.nil]),(4480,[.at 800000000,.at 800000002,.bool,.at 800000001])],[(800000000,tL,(.ow .fz)),(800000002,tW,(.pr .fz (.ow .fz))),(800000001,tI,.fz)]⟩
def yez:Shape:=⟨[(2,false,[.ptr 64 0]),(3,false,[.ptr 4480 0])],[(64,[.nil,.nil,.bool,.nil]),(4480,[.at 800000000,.at 800000001,.bool,.at 800000002])],[(800000000,tL,(.ow .fz)),(800000001,tW,(.pr .fz (.ow .fz))),(800000002,tI,.fz)]⟩
def yhB:Shape:=⟨[],[],[]⟩
abbrev ylk (v0:List dW) (v1 v2:Int) (v3 v4:dM):(ybs).X:=((((),()),((),()),(v0,()),(v1,()),(v2,()),()),(((),(),v3.2.2.1,(),()),((),(),v4.2.2.1,(),()),()),(v4.1,v4.2.1,v4.2.2.2,()))
abbrev yEv (v0:List dW) (v1:Int) (v2 v3:dM):(yeI).X:=((((),()),((),()),(v0,()),(v1,()),((),()),()),(((),(),v2.2.2.1,(),()),((),(),v3.2.2.1,(),()),()),(v3.1,v3.2.1,v3.2.2.2,()))
abbrev ytZ (v0 v1:dM):(yez).X:=((((),()),((),()),()),(((),(),v0.2.2.1,(),()),((),(),v1.2.2.1,(),()),()),(v1.1,v1.2.1,v1.2.2.2,()))
def ylC (v0:List dW) (v1 v2:Int) (v3 v4:Bool) (v5:List (List Int)) (v6:List dW) (v7:List Int):Option ((ybs).X ⊕ ((yez).X ⊕ (yhB).X)) :=bif(ltb v2 v1)then bif(inb v2 v0.length)then let r8:=yp ((nth v0 v2 (0,[])).2);bif(zkl v6.length ([((nth v0 v2 (0,[])).1,r8)]:List dW).length 32)then some (.inl ((((),()),((),()),(v0,()),(v1,()),((i64.wrap (v2+1)),()),()),(((),(),v3,(),()),((),(),v4,(),()),()),(v5,(v6++([((nth v0 v2 (0,[])).1,r8)]:List dW)),v7,()))) else none else none else some (.inr (.inl ((((),()),((),()),()),(((),(),v3,(),()),((),(),v4,(),()),()),(v5,v6,v7,()))))
def ybI (x:(ybs).X):=ylC x.1.2.2.1.1 x.1.2.2.2.1.1 x.1.2.2.2.2.1.1 x.2.1.1.2.2.1 x.2.1.2.1.2.2.1 x.2.2.1 x.2.2.2.1 x.2.2.2.2.1
def ytA (x:(yeI).X):(ybs).X:=((((),()),((),()),(x.1.2.2.1.1,()),(x.1.2.2.2.1.1,()),(0,()),()),(((),(),x.2.1.1.2.2.1,(),()),((),(),x.2.1.2.1.2.2.1,(),()),()),(x.2.2.1,x.2.2.2.1,x.2.2.2.2.1,()))
def yvJ:Code:=(zd7 ydx 64 244).getD .skip
theorem yFJ:zd7 ydx 64 61=some (.block 2 (.loop yvJ)):=by kernel_rfl
theorem yHg (x:(ybs).X):zhu ⟨yhO,49,yn6⟩ 2 yvJ 244 ybs yez yhB x=ybI x:=by kernel_rfl
def ytN (x:(yeI).X):Nat:=18446744073709551616
def yms (x:(yeI).X):Option ((yez).X ⊕ (yhB).X):=zF ybI (ytN x) (ytA x)
def yt9:Seg:=⟨yeI,yez,yhB,yms⟩
def yHC:Nat→Option Seg:=fun q=>bif Nat.beq q 61 then some yt9 else yn6 q
theorem yFZ:FrOk prog ⟨yhO,49,yHC⟩ ydx:=(yFY).loop (sg:=yt9) ybs ytA (by decide) yFJ ybI ytN (by decide) (fun _=>rfl) (fun x r _ h=>h) yHg
abbrev ylV:List Par:= [.rd tM]
abbrev ysm:List OT:= [⟨false,tM,(.pr (.ow (.ow .fz)) (.pr (.ow (.pr .fz (.ow .fz))) (.pr .fz (.ow .fz))))⟩]
def yoK (a0:dM):Option (zaY ysm×zak ylV) :=let r1:=yp a0.2.2.2;zkt (ymr ((((),()),((),()),((),()),(a0.1,()),((a0.1.length:Int),()),((),()),()),((a0.1,a0.2.1,a0.2.2.1,a0.2.2.2,()),((),(),false,(),()),((),(),a0.2.2.1,(),()),()),([],r1,()))) (fun y4 =>zkt (yms ((((),()),((),()),(y4.2.1.1.2.1,()),((y4.2.1.1.2.1.length:Int),()),((),()),()),(((),(),y4.2.1.2.1.2.2.1,(),()),((),(),y4.2.1.2.2.1.2.2.1,(),()),()),(y4.2.2.1,[],y4.2.2.2.1,()))) (fun y8 =>some (((y8.2.2.1,y8.2.2.2.1,y8.2.1.2.1.2.2.1,y8.2.2.2.2.1),()),())) (fun y8 =>none)) (fun y4 =>none)
theorem yJI:ConOk prog 133 ⟨ylV,ysm,fun x=>yoK x.1⟩:=zkI (yFZ) func133 ntmps133.symm fun x=>by kernel_rfl
def yar (a0:dM):dM:=a0
theorem yMj (a0:dM) (hk:zjx ylV (a0,())):yoK a0=(fun n=>some ((n,()),())) (yar a0):=by
 have hb1:a0.1.length*24≤2^47:=hk.1.1.1;have hb2:a0.2.1.length*32≤2^47:=hk.1.2.1.1
 have h1:ymr (yEu a0.1 a0.1.length a0 yf ([],[],a0.2.2.1,a0.2.2.2))=some (.inl (ytY a0 yf (a0.1,[],a0.2.2.1,a0.2.2.2))):=by
  have:=zkx (step:=ybH) a0.1 [] (fun i s=>ylj a0.1 a0.1.length i a0 yf (s,[],a0.2.2.1,a0.2.2.2)) (fun s x=>s++ [x]) (fun i s=>s.length=i) (fun s=> .inl (ytY a0 yf (s,[],a0.2.2.1,a0.2.2.2))) (fun i s hi hs2=>⟨by
   simp only[ybH,ylj,ylB,zky (show(i:Int)<a0.1.length by omega),cond_true,wq ((i:Int)+1) (by omega) (by omega),Int.natCast_add,Int.natCast_one,Int.toNat_natCast,zkR hi,zkS,yp]
   rw[zkF.2 (show(s.length+ [a0.1.getD i []].length)*24≤140737488355328 by simp only[List.length_cons,List.length_nil]; omega)]; rfl,by simp[hs2]⟩) (fun s _=>by simp only[ybH,ylj,ylB,zk3 (Int.le_refl _),cond_false]) [] rfl 18446744073709551616 (by omega)
  rw[ysF]at this;exact this
 have h2:yms (yEv a0.2.1 a0.2.1.length yf (a0.1,[],a0.2.2.1,a0.2.2.2))=some (.inl (ytZ yf a0)):=by
  have:=zkx (step:=ybI) a0.2.1 (0,[]) (fun i s=>ylk a0.2.1 a0.2.1.length i yf (a0.1,s,a0.2.2.1,a0.2.2.2)) (fun s x=>s++ [x]) (fun i s=>s.length=i) (fun s=> .inl (ytZ yf (a0.1,s,a0.2.2.1,a0.2.2.2))) (fun i s hi hs2=>⟨by
   simp only[ybI,ylk,ylC,zky (show(i:Int)<a0.2.1.length by omega),cond_true,wq ((i:Int)+1) (by omega) (by omega),Int.natCast_add,Int.natCast_one,Int.toNat_natCast,zkR hi,zkS,yp,zkX]
   rw[zkF.2 (show(s.length+ [a0.2.1.getD i (0,[])].length)*32≤140737488355328 by simp only[List.length_cons,List.length_nil]; omega)]; rfl,by simp[hs2]⟩) (fun s _=>by simp only[ybI,ylk,ylC,zk3 (Int.le_refl _),cond_false]) [] rfl 18446744073709551616 (by omega)
  rw[ysF]at this;exact this
 unfold yoK yar;simp only[yp,h1,zkN,h2]
def yfG:Con:=⟨ylV,ysm,fun x=>(fun n=>some ((n,()),())) (yar x.1)⟩
theorem ykS:ConOk prog 133 yfG:=(yJI).mono (fun x r hk h=>(yMj x.1 hk).trans h)
def yka:Code:=(f74.body).getD .skip
def ypB:Env:=zkw TT [(133,yfG)] []
theorem yD3:FrOk prog ⟨ypB,20,fun _=>none⟩ yka:=zkA mixed yc ⟨ykS,trivial⟩
def yvB:Nat→Option Seg:=fun _=>none
def ya7:Shape:=⟨[(3,false,[.at 800000000]),(7,false,[.br tM]),(8,false,[.int .i64]),(9,false,[.int .i64])],[],[(800000000,tM,(.pr (.ow (.ow .fz)) (.pr (.ow (.pr .fz (.ow .fz))) (.pr .fz (.ow .fz)))))]⟩
def ydV:Shape:=⟨[(3,false,[.at 800000000]),(7,false,[.br tM]),(8,false,[.int .i64]),(9,false,[.ci .i64 0])],[],[(800000000,tM,(.pr (.ow (.ow .fz)) (.pr (.ow (.pr .fz (.ow .fz))) (.pr .fz (.ow .fz)))))]⟩
def ydQ:Shape:=⟨[(3,false,[.at 800000000])],[],[(800000000,tM,(.pr (.ow (.ow .fz)) (.pr (.ow (.pr .fz (.ow .fz))) (.pr .fz (.ow .fz)))))]⟩
def ygR:Shape:=⟨[],[],[]⟩
abbrev yjT (v0:List dM) (v1 v2:Int) (v3:List dM):(ya7).X:=((((),()),(v0,()),(v1,()),(v2,()),()),(),(v3,()))
abbrev yDc (v0:List dM) (v1:Int) (v2:List dM):(ydV).X:=((((),()),(v0,()),(v1,()),((),()),()),(),(v2,()))
abbrev yC8 (v0:List dM):(ydQ).X:=((((),()),()),(),(v0,()))
def yj4 (v0:List dM) (v1 v2:Int) (v3:List dM):Option ((ya7).X ⊕ ((ydQ).X ⊕ (ygR).X)) :=bif(ltb v2 v1)then bif(inb v2 v0.length)then let r2:=yar ((nth v0 v2 ([],[],false,[])).1,((nth v0 v2 ([],[],false,[])).2).1,(((nth v0 v2 ([],[],false,[])).2).2));bif(zkl v3.length ([r2]:List dM).length 80)then some (.inl ((((),()),(v0,()),(v1,()),((i64.wrap (v2+1)),()),()),(),((v3++([r2]:List dM)),()))) else none else none else some (.inr (.inl ((((),()),()),(),(v3,()))))
def ybk (x:(ya7).X):=yj4 x.1.2.1.1 x.1.2.2.1.1 x.1.2.2.2.1.1 x.2.2.1
def yrB (x:(ydV).X):(ya7).X:=((((),()),(x.1.2.1.1,()),(x.1.2.2.1.1,()),(0,()),()),(),(x.2.2.1,()))
def ytm:Code:=(zd7 yka 64 116).getD .skip
theorem yDG:zd7 yka 64 29=some (.block 0 (.loop ytm)):=by kernel_rfl
theorem yE1 (x:(ya7).X):zhu ⟨ypB,20,yvB⟩ 0 ytm 116 ya7 ydQ ygR x=ybk x:=by kernel_rfl
def yrH (x:(ydV).X):Nat:=18446744073709551616
def yk1 (x:(ydV).X):Option ((ydQ).X ⊕ (ygR).X):=zF ybk (yrH x) (yrB x)
def yrS:Seg:=⟨ydV,ydQ,ygR,yk1⟩
def yFx:Nat→Option Seg:=fun q=>bif Nat.beq q 29 then some yrS else yvB q
theorem yD4:FrOk prog ⟨ypB,20,yFx⟩ yka:=(yD3).loop (sg:=yrS) ya7 yrB (by decide) yDG ybk yrH (by decide) (fun _=>rfl) (fun x r _ h=>h) yE1
abbrev ykk:List Par:= [.rd tMs]
abbrev yqc:List OT:= [⟨false,tMs,(.ow (.pr (.ow (.ow .fz)) (.pr (.ow (.pr .fz (.ow .fz))) (.pr .fz (.ow .fz)))))⟩]
def ym2 (a0:List dM):Option (zaY yqc×zak ykk) :=zkt (yk1 ((((),()),(a0,()),((a0.length:Int),()),((),()),()),(),(([]:List dM),()))) (fun y2 =>some ((y2.2.2.1,()),())) (fun y2 =>none)
theorem yGV:ConOk prog 74 ⟨ykk,yqc,fun x=>ym2 x.1⟩:=zkI (yD4) func74 ntmps74.symm fun x=>by kernel_rfl
def ykO (a0:List dM):List dM:=a0
theorem yJs (a0:List dM) (hk:zjx ykk (a0,())):ym2 a0=(fun n=>some ((n,()),())) (ykO a0):=by
 have hb:a0.length*80≤2^47:=hk.1.1
 have h1:=zkx (step:=ybk) a0 yf (fun i s=>yjT a0 a0.length i s) (fun s x=>s++ [x]) (fun i s=>s.length=i) (fun s=> .inl (yC8 s)) (fun i s hi hs=>⟨by
   simp only[ybk,yjT,yj4,zky (show(i:Int)<a0.length by omega),cond_true,wq ((i:Int)+1) (by omega) (by omega),Int.natCast_add,Int.natCast_one,Int.toNat_natCast,zkR hi,zkS,yar,zkX]
   rw[zkF.2 (show(s.length+ [a0.getD i ([],[],false,[])].length)*80≤140737488355328 by simp only[List.length_cons,List.length_nil]; omega)]; rfl,by simp[hs]⟩) (fun s hs=>by simp only[ybk,yjT,yj4,zk3 (Int.le_refl _),cond_false]) [] rfl 18446744073709551616 (by omega)
 rw[ysF]at h1;unfold ym2 ykO;rw[show yk1 (yDc a0 a0.length [])=_ from h1]; rfl
def yvV:Con:=⟨ykk,yqc,fun x=>(fun n=>some ((n,()),())) (ykO x.1)⟩
theorem yJ7:ConOk prog 74 yvV:=(yGV).mono (fun x r hk h=>(yJs x.1 hk).trans h)
def ylL:Code:=(f95.body).getD .skip
def yr0:Env:=zkw TT [(74,yvV),(158,ybx)] []
theorem yFV:FrOk prog ⟨yr0,31,fun _=>none⟩ ylL:=zkA mixed yc ⟨yJ7,ydG,trivial⟩
def ywX:Nat→Option Seg:=fun _=>none
def ybq:Shape:=⟨[(1,false,[.ptr 0 0]),(2,false,[.ptr 64 0]),(3,false,[.at 800000000]),(8,false,[.br tW]),(9,false,[.int .i64]),(10,false,[.int .i64])],[(0,[.int .i64,.int .i64,.int .i64,.br tM,.int .i64,.int .i64,.int .i64,.int .i64,.int .i64,.br tW,.int .i64,.bool,.bool]),(64,[.int .i64,.int .i64,.int .i64,.nil,.int .i64,.int .i64,.int .i64,.int .i64,.int .i64,.nil,.int .i64,.bool,.bool])],[(800000000,tW,(.pr .fz (.ow .fz)))]⟩
def yeG:Shape:=⟨[(1,false,[.ptr 0 0]),(2,false,[.ptr 64 0]),(3,false,[.at 800000000]),(8,false,[.br tW]),(9,false,[.int .i64]),(10,false,[.ci .i64 0])],[(0,[.int .i64,.int .i64,.int .i64,.br tM,.int .i64,.int .i64,.int .i64,.int .i64,.int .i64,.br tW,.int .i64,.bool,.bool]),(64,[.int .i64,.int .i64,.int .i64,.nil,.int .i64,.int .i64,.int .i64,.int .i64,.int .i64,.nil,.int .i64,.bool,.bool])],[(800000000,tW,(.pr .fz (.ow .fz)))]⟩
def yex:Shape:=⟨[(1,false,[.ptr 0 0]),(2,false,[.ptr 64 0]),(3,false,[.at 800000000])],[(0,[.int .i64,.int .i64,.int .i64,.br tM,.int .i64,.int .i64,.int .i64,.int .i64,.int .i64,.br tW,.int .i64,.bool,.bool]),(64,[.int .i64,.int .i64,.int .i64,.nil,.int .i64,.int .i64,.int .i64,.int .i64,.int .i64,.nil,.int .i64,.bool,.bool])],[(800000000,tW,(.pr .fz (.ow .fz)))]⟩
def yhz:Shape:=⟨[],[],[]⟩
abbrev yli (v0:List dW) (v1 v2:Int) (v3 v4:dA) (v5:List dW):(ybq).X:=((((),()),((),()),((),()),(v0,()),(v1,()),(v2,()),()),((v3.1,v3.2.1.1,v3.2.1.2,v3.2.2.1,v3.2.2.2.1,v3.2.2.2.2.1,v3.2.2.2.2.2.1,v3.2.2.2.2.2.2.1,v3.2.2.2.2.2.2.2.1,v3.2.2.2.2.2.2.2.2.1,v3.2.2.2.2.2.2.2.2.2.1,v3.2.2.2.2.2.2.2.2.2.2.1,v3.2.2.2.2.2.2.2.2.2.2.2,()),(v4.1,v4.2.1.1,v4.2.1.2,(),v4.2.2.2.1,v4.2.2.2.2.1,v4.2.2.2.2.2.1,v4.2.2.2.2.2.2.1,v4.2.2.2.2.2.2.2.1,(),v4.2.2.2.2.2.2.2.2.2.1,v4.2.2.2.2.2.2.2.2.2.2.1,v4.2.2.2.2.2.2.2.2.2.2.2,()),()),(v5,()))
abbrev yEt (v0:List dW) (v1:Int) (v2 v3:dA) (v4:List dW):(yeG).X:=((((),()),((),()),((),()),(v0,()),(v1,()),((),()),()),((v2.1,v2.2.1.1,v2.2.1.2,v2.2.2.1,v2.2.2.2.1,v2.2.2.2.2.1,v2.2.2.2.2.2.1,v2.2.2.2.2.2.2.1,v2.2.2.2.2.2.2.2.1,v2.2.2.2.2.2.2.2.2.1,v2.2.2.2.2.2.2.2.2.2.1,v2.2.2.2.2.2.2.2.2.2.2.1,v2.2.2.2.2.2.2.2.2.2.2.2,()),(v3.1,v3.2.1.1,v3.2.1.2,(),v3.2.2.2.1,v3.2.2.2.2.1,v3.2.2.2.2.2.1,v3.2.2.2.2.2.2.1,v3.2.2.2.2.2.2.2.1,(),v3.2.2.2.2.2.2.2.2.2.1,v3.2.2.2.2.2.2.2.2.2.2.1,v3.2.2.2.2.2.2.2.2.2.2.2,()),()),(v4,()))
abbrev yEn (v0 v1:dA) (v2:List dW):(yex).X:=((((),()),((),()),((),()),()),((v0.1,v0.2.1.1,v0.2.1.2,v0.2.2.1,v0.2.2.2.1,v0.2.2.2.2.1,v0.2.2.2.2.2.1,v0.2.2.2.2.2.2.1,v0.2.2.2.2.2.2.2.1,v0.2.2.2.2.2.2.2.2.1,v0.2.2.2.2.2.2.2.2.2.1,v0.2.2.2.2.2.2.2.2.2.2.1,v0.2.2.2.2.2.2.2.2.2.2.2,()),(v1.1,v1.2.1.1,v1.2.1.2,(),v1.2.2.2.1,v1.2.2.2.2.1,v1.2.2.2.2.2.1,v1.2.2.2.2.2.2.1,v1.2.2.2.2.2.2.2.1,(),v1.2.2.2.2.2.2.2.2.2.1,v1.2.2.2.2.2.2.2.2.2.2.1,v1.2.2.2.2.2.2.2.2.2.2.2,()),()),(v2,()))
def ylA (v0:List dW) (v1 v2 v3 v4 v5:Int) (v6:List dM) (v7 v8 v9 v10 v11:Int) (v12:List dW) (v13:Int) (v14 v15:Bool) (v16 v17 v18 v19 v20 v21 v22 v23 v24:Int) (v25 v26:Bool) (v27:List dW):Option ((ybq).X ⊕ ((yex).X ⊕ (yhz).X)) :=bif(ltb v2 v1)then bif(inb v2 v0.length)then let r2:=yp ((nth v0 v2 (0,[])).2);bif(zkl v27.length ([((nth v0 v2 (0,[])).1,r2)]:List dW).length 32)then some (.inl ((((),()),((),()),((),()),(v0,()),(v1,()),((i64.wrap (v2+1)),()),()),((v3,v4,v5,v6,v7,v8,v9,v10,v11,v12,v13,v14,v15,()),(v16,v17,v18,(),v19,v20,v21,v22,v23,(),v24,v25,v26,()),()),((v27++([((nth v0 v2 (0,[])).1,r2)]:List dW)),()))) else none else none else some (.inr (.inl ((((),()),((),()),((),()),()),((v3,v4,v5,v6,v7,v8,v9,v10,v11,v12,v13,v14,v15,()),(v16,v17,v18,(),v19,v20,v21,v22,v23,(),v24,v25,v26,()),()),(v27,()))))
def ybG (x:(ybq).X):=ylA x.1.2.2.2.1.1 x.1.2.2.2.2.1.1 x.1.2.2.2.2.2.1.1 x.2.1.1.1 x.2.1.1.2.1 x.2.1.1.2.2.1 x.2.1.1.2.2.2.1 x.2.1.1.2.2.2.2.1 x.2.1.1.2.2.2.2.2.1 x.2.1.1.2.2.2.2.2.2.1 x.2.1.1.2.2.2.2.2.2.2.1 x.2.1.1.2.2.2.2.2.2.2.2.1 x.2.1.1.2.2.2.2.2.2.2.2.2.1 x.2.1.1.2.2.2.2.2.2.2.2.2.2.1 x.2.1.1.2.2.2.2.2.2.2.2.2.2.2.1 x.2.1.1.2.2.2.2.2.2.2.2.2.2.2.2.1 x.2.1.2.1.1 x.2.1.2.1.2.1 x.2.1.2.1.2.2.1 x.2.1.2.1.2.2.2.2.1 x.2.1.2.1.2.2.2.2.2.1 x.2.1.2.1.2.2.2.2.2.2.1 x.2.1.2.1.2.2.2.2.2.2.2.1 x.2.1.2.1.2.2.2.2.2.2.2.2.1 x.2.1.2.1.2.2.2.2.2.2.2.2.2.2.1 x.2.1.2.1.2.2.2.2.2.2.2.2.2.2.2.1 x.2.1.2.1.2.2.2.2.2.2.2.2.2.2.2.2.1 x.2.2.1
def yty (x:(yeG).X):(ybq).X:=((((),()),((),()),((),()),(x.1.2.2.2.1.1,()),(x.1.2.2.2.2.1.1,()),(0,()),()),((x.2.1.1.1,x.2.1.1.2.1,x.2.1.1.2.2.1,x.2.1.1.2.2.2.1,x.2.1.1.2.2.2.2.1,x.2.1.1.2.2.2.2.2.1,x.2.1.1.2.2.2.2.2.2.1,x.2.1.1.2.2.2.2.2.2.2.1,x.2.1.1.2.2.2.2.2.2.2.2.1,x.2.1.1.2.2.2.2.2.2.2.2.2.1,x.2.1.1.2.2.2.2.2.2.2.2.2.2.1,x.2.1.1.2.2.2.2.2.2.2.2.2.2.2.1,x.2.1.1.2.2.2.2.2.2.2.2.2.2.2.2.1,()),(x.2.1.2.1.1,x.2.1.2.1.2.1,x.2.1.2.1.2.2.1,(),x.2.1.2.1.2.2.2.2.1,x.2.1.2.1.2.2.2.2.2.1,x.2.1.2.1.2.2.2.2.2.2.1,x.2.1.2.1.2.2.2.2.2.2.2.1,x.2.1.2.1.2.2.2.2.2.2.2.2.1,(),x.2.1.2.1.2.2.2.2.2.2.2.2.2.2.1,x.2.1.2.1.2.2.2.2.2.2.2.2.2.2.2.1,x.2.1.2.1.2.2.2.2.2.2.2.2.2.2.2.2.1,()),()),(x.2.2.1,()))
def yvH:Code:=(zd7 ylL 64 116).getD .skip
theorem yFH:zd7 ylL 64 29=some (.block 0 (.loop yvH)):=by kernel_rfl
theorem yHe (x:(ybq).X):zhu ⟨yr0,31,ywX⟩ 0 yvH 116 ybq yex yhz x=ybG x:=by kernel_rfl
def ytL (x:(yeG).X):Nat:=18446744073709551616
def ymq (x:(yeG).X):Option ((yex).X ⊕ (yhz).X):=zF ybG (ytL x) (yty x)
def yt7:Seg:=⟨yeG,yex,yhz,ymq⟩
def yHB:Nat→Option Seg:=fun q=>bif Nat.beq q 29 then some yt7 else ywX q
theorem yFW:FrOk prog ⟨yr0,31,yHB⟩ ylL:=(yFV).loop (sg:=yt7) ybq yty (by decide) yFH ybG ytL (by decide) (fun _=>rfl) (fun x r _ h=>h) yHe
abbrev ylU:List Par:= [.rd tA]
abbrev ysl:List OT:= [⟨false,tA,(.pr .fz (.pr (.pr .fz .fz) (.pr (.ow (.pr (.ow (.ow .fz)) (.pr (.ow (.pr .fz (.ow .fz))) (.pr .fz (.ow .fz))))) (.pr .fz (.pr .fz (.pr .fz (.pr .fz (.pr .fz (.pr (.ow (.pr .fz (.ow .fz))) (.pr .fz (.pr .fz .fz)))))))))))⟩]
def yoJ (a0:dA):Option (zaY ysl×zak ylU) :=zkt (ymq ((((),()),((),()),((),()),(a0.2.2.2.2.2.2.2.2.1,()),((a0.2.2.2.2.2.2.2.2.1.length:Int),()),((),()),()),((a0.1,a0.2.1.1,a0.2.1.2,a0.2.2.1,a0.2.2.2.1,a0.2.2.2.2.1,a0.2.2.2.2.2.1,a0.2.2.2.2.2.2.1,a0.2.2.2.2.2.2.2.1,a0.2.2.2.2.2.2.2.2.1,a0.2.2.2.2.2.2.2.2.2.1,a0.2.2.2.2.2.2.2.2.2.2.1,a0.2.2.2.2.2.2.2.2.2.2.2,()),(0,0,0,(),0,0,0,0,0,(),0,false,false,()),()),(([]:List dW),()))) (fun y2 =>let r4:=ykO y2.2.1.1.2.2.2.1;some (((y2.2.1.1.1,(y2.2.1.1.2.1,y2.2.1.1.2.2.1),r4,y2.2.1.1.2.2.2.2.1,y2.2.1.1.2.2.2.2.2.1,y2.2.1.1.2.2.2.2.2.2.1,y2.2.1.1.2.2.2.2.2.2.2.1,y2.2.1.1.2.2.2.2.2.2.2.2.1,y2.2.2.1,y2.2.1.1.2.2.2.2.2.2.2.2.2.2.1,y2.2.1.1.2.2.2.2.2.2.2.2.2.2.2.1,y2.2.1.1.2.2.2.2.2.2.2.2.2.2.2.2.1),()),())) (fun y2 =>none)
theorem yJH:ConOk prog 95 ⟨ylU,ysl,fun x=>yoJ x.1⟩:=zkI (yFW) func95 ntmps95.symm fun x=>by kernel_rfl
def ydE (a0:dA):dA:=a0
theorem yMi (a0:dA) (hk:zjx ylU (a0,())):yoJ a0=(fun n=>some ((n,()),())) (ydE a0):=by
 have hb:a0.2.2.2.2.2.2.2.2.1.length*32≤2^47:=hk.1.2.2.2.2.2.2.2.2.1.1
 have h1:=zkx (step:=ybG) a0.2.2.2.2.2.2.2.2.1 (0,[]) (fun i s=>yli a0.2.2.2.2.2.2.2.2.1 a0.2.2.2.2.2.2.2.2.1.length i a0 yhK s) (fun s x=>s++ [x]) (fun i s=>s.length=i) (fun s=> .inl (yEn a0 yhK s)) (fun i s hi hs=>⟨by
   simp only[ybG,yli,ylA,zky (show(i:Int)<a0.2.2.2.2.2.2.2.2.1.length by omega),cond_true,wq ((i:Int)+1) (by omega) (by omega),Int.natCast_add,Int.natCast_one,Int.toNat_natCast,zkR hi,zkS,yp,zkX]
   rw[zkF.2 (show(s.length+ [a0.2.2.2.2.2.2.2.2.1.getD i (0,[])].length)*32≤140737488355328 by simp only[List.length_cons,List.length_nil]; omega)]; rfl,by simp[hs]⟩) (fun s hs=>by simp only[ybG,yli,ylA,zk3 (Int.le_refl _),cond_false]) [] rfl 18446744073709551616 (by omega)
 rw[ysF]at h1;unfold yoJ ydE;rw[show ymq (yEt a0.2.2.2.2.2.2.2.2.1 a0.2.2.2.2.2.2.2.2.1.length a0 yhK [])=_ from h1]; rfl
def yol:Con:=⟨ylU,ysl,fun x=>(fun n=>some ((n,()),())) (ydE x.1)⟩
theorem yAq:ConOk prog 95 yol:=(yJH).mono (fun x r hk h=>(yMi x.1 hk).trans h)
def yNS:Code:=(f106.body).getD .skip
def yOi:Env:=zkw TT [(81,yE)] []
theorem yF2:FrOk prog ⟨yOi,11,fun _=>none⟩ yNS:=zkA mixed yc ⟨yS,trivial⟩
abbrev ysa:List Par:= [.rd tA,.rd tI]
abbrev ysn:List OT:= [⟨false,tB,.fz⟩]
def yyY (a0:dA) (a1:Int):Option (zaY ysn×zak ysa) :=let r1:=ye a1 0 (i64.wrap ((a0.2.2.1.length:Int)-1));some ((r1,()),())
theorem yJK:ConOk prog 106 ⟨ysa,ysn,fun x=>yyY x.1 x.2.1⟩:=zkI (yF2) func106 ntmps106.symm fun x=>by kernel_rfl
def yik (a0:dA) (a1:Int):Bool :=let r1:=ye a1 0 (i64.wrap ((a0.2.2.1.length:Int)-1));r1
def yxY:Con:=⟨ysa,ysn,fun x=>(fun n=>some ((n,()),())) (yik x.1 x.2.1)⟩
theorem yMl (a0:dA) (a1:Int):yyY a0 a1=(fun n=>some ((n,()),())) (yik a0 a1):=zkV (p:=fun(n:Bool)=>((n,()),())) rfl
theorem yNi:ConOk prog 106 yxY:=(yJK).mono (fun x r _ h=>(yMl x.1 x.2.1).trans h)
abbrev yhq:List Par:= [.mt tL (.ow .fz)]
abbrev yhw:List OT:= []
end
end Go.Tf
namespace Go.Proofs
noncomputable section
open Go.Tf Go.RowKit Go.Lib Go.Shelf Go.Sort
set_option synthInstance.maxHeartbeats 400000
set_option synthInstance.maxSize 10000
set_option linter.unusedVariables false
set_option linter.unusedSimpArgs false
set_option maxRecDepth 100000
def Tryz.sortL_ren:Go.Shelf.Ren:=⟨fun | 5=>175 | 8=>214 | 7=>213 | 19=>240 | 20=>241 | 10=>231 | 11=>232 | 12=>233 | 13=>234 | 14=>235 | 15=>236 | 16=>237 | 17=>238 | 18=>239 | 30=>248 | 31=>249 | 32=>250 | 33=>251 | 34=>252 | 35=>253 | 40=>254 | n=>n,fun | 23=>34 | 25=>3 | 3=>3 | 32=>146 | 22=>34 | 0=>0 | 44=>178 | 46=>180 | 4=>4 | 36=>171 | 35=>170 | 41=>115 | 5=>5 | 9=>9 | 53=>184 | 57=>188 | 63=>190 | 64=>74 | n=>n,fun | n=>n⟩
theorem Tryz.sortL:Go.Proofs.SlLaysM.n5 Tryz.prog Tryz.sortL_ren where
  mixed:=by kernel_rfl
  f5:=⟨ "slices.Sort[[]int,int]",by decide,Tryz.func175.trans (congrArg some (by kernel_rfl))⟩
  f7:=⟨ "slices.pdqsortOrdered[int]",by decide,Tryz.func213.trans (congrArg some (by kernel_rfl))⟩
  f8:=Tryz.func214.trans (congrArg some (by kernel_rfl))
  f10:=⟨ "slices.insertionSortOrdered[int]",by decide,Tryz.func231.trans (congrArg some (by kernel_rfl))⟩
  f11:=⟨ "slices.heapSortOrdered[int]",by decide,Tryz.func232.trans (congrArg some (by kernel_rfl))⟩
  f12:=⟨ "slices.breakPatternsOrdered[int]",by decide,Tryz.func233.trans (congrArg some (by kernel_rfl))⟩
  f13:=⟨ "slices.choosePivotOrdered[int]",by decide,Tryz.func234.trans (congrArg some (by kernel_rfl))⟩
  f14:=⟨ "slices.reverseRangeOrdered[int]",by decide,Tryz.func235.trans (congrArg some (by kernel_rfl))⟩
  f15:=⟨ "slices.partialInsertionSortOrdered[int]",by decide,Tryz.func236.trans (congrArg some (by kernel_rfl))⟩
  f16:=⟨ "cmp.Less[int]",by decide,Tryz.func237.trans (congrArg some (by kernel_rfl))⟩
  f17:=⟨ "slices.partitionEqualOrdered[int]",by decide,Tryz.func238.trans (congrArg some (by kernel_rfl))⟩
  f18:=⟨ "slices.partitionOrdered[int]",by decide,Tryz.func239.trans (congrArg some (by kernel_rfl))⟩
  f19:=Tryz.func240.trans (congrArg some (by kernel_rfl))
  f20:=Tryz.func241.trans (congrArg some (by kernel_rfl))
  f30:=⟨ "slices.siftDownOrdered[int]",by decide,Tryz.func248.trans (congrArg some (by kernel_rfl))⟩
  f31:=Tryz.func249.trans (congrArg some (by kernel_rfl))
  f32:=Tryz.func250.trans (congrArg some (by kernel_rfl))
  f33:=⟨ "slices.medianAdjacentOrdered[int]",by decide,Tryz.func251.trans (congrArg some (by kernel_rfl))⟩
  f34:=⟨ "slices.medianOrdered[int]",by decide,Tryz.func252.trans (congrArg some (by kernel_rfl))⟩
  f35:=⟨ "cmp.isNaN[int]",by decide,Tryz.func253.trans (congrArg some (by kernel_rfl))⟩
  f40:=⟨ "slices.order2Ordered[int]",by decide,Tryz.func254.trans (congrArg some (by kernel_rfl))⟩
  t0:=Tryz.underlying0
  a0:=Tryz.isAgg0
  z0:=Tryz.sizeOf0
  v0:=Tryz.zeroValue0
  t3:=Tryz.underlying3
  a3:=Tryz.isAgg3
  z3:=Tryz.sizeOf3
  v3:=Tryz.zeroValue3
  t4:=Tryz.underlying4
  a4:=Tryz.isAgg4
  z4:=Tryz.sizeOf4
  v4:=Tryz.zeroValue4
  t5:=Tryz.underlying5
  a5:=Tryz.isAgg5
  z5:=Tryz.sizeOf5
  v5:=Tryz.zeroValue5
  t9:=Tryz.underlying9
  a9:=Tryz.isAgg9
  z9:=Tryz.sizeOf9
  v9:=Tryz.zeroValue9
  t22:=Tryz.underlying34
  a22:=Tryz.isAgg34
  z22:=Tryz.sizeOf34
  v22:=Tryz.zeroValue34
  t23:=Tryz.underlying34
  a23:=Tryz.isAgg34
  z23:=Tryz.sizeOf34
  v23:=Tryz.zeroValue34
  t25:=Tryz.underlying3
  a25:=Tryz.isAgg3
  z25:=Tryz.sizeOf3
  v25:=Tryz.zeroValue3
  t32:=Tryz.underlying146
  a32:=Tryz.isAgg146
  z32:=Tryz.sizeOf146
  v32:=Tryz.zeroValue146
  t35:=Tryz.underlying170
  a35:=Tryz.isAgg170
  z35:=Tryz.sizeOf170
  v35:=Tryz.zeroValue170
  t36:=Tryz.underlying171
  a36:=Tryz.isAgg171
  z36:=Tryz.sizeOf171
  v36:=Tryz.zeroValue171
  t41:=Tryz.underlying115
  a41:=Tryz.isAgg115
  z41:=Tryz.sizeOf115
  v41:=Tryz.zeroValue115
  t44:=Tryz.underlying178
  a44:=Tryz.isAgg178
  z44:=Tryz.sizeOf178
  v44:=Tryz.zeroValue178
  t46:=Tryz.underlying180
  a46:=Tryz.isAgg180
  z46:=Tryz.sizeOf180
  v46:=Tryz.zeroValue180
  t53:=Tryz.underlying184
  a53:=Tryz.isAgg184
  z53:=Tryz.sizeOf184
  v53:=Tryz.zeroValue184
  t57:=Tryz.underlying188
  a57:=Tryz.isAgg188
  z57:=Tryz.sizeOf188
  v57:=Tryz.zeroValue188
  t63:=Tryz.underlying190
  a63:=Tryz.isAgg190
  z63:=Tryz.sizeOf190
  v63:=Tryz.zeroValue190
  t64:=Tryz.underlying74
  a64:=Tryz.isAgg74
  z64:=Tryz.sizeOf74
  v64:=Tryz.zeroValue74
end
end Go.Proofs
namespace Go.Tf
noncomputable section
open Go.Proofs Go.Proofs.Tryz
set_option synthInstance.maxHeartbeats 400000
set_option synthInstance.maxSize 10000
set_option linter.unusedVariables false
set_option linter.unusedSimpArgs false
set_option maxRecDepth 100000
theorem yL4 {h:za} {Z:Nat→Prop} {l:List Int} {vs:List Value} {fps:List (List Nat)} (e:Elems h Z tI .fz l vs fps):vs=l.map (Value.int .i64)∧fps.flatten= []∧ ∀x∈l,Rd h Z tI x [.int .i64 x]:=by
 have hs:tI.size=1:=rfl
 have key: ∀i x,l[i]? =some x→vs[i]? =some (Value.int .i64 x)∧fps[i]? =some []∧Rd h Z tI x [.int .i64 x]:=fun i x hx=>by
  obtain⟨f,h1,h2⟩:=e.el i x hx;obtain⟨h3,rfl⟩:=h2;have h4:=h3;obtain⟨h5,_⟩:=h3;rw[hs,Nat.mul_one]at h5 h4;refine⟨?_,h1,by rw[h5]at h4; exact h4⟩;have:=congrArg (fun q:List Value=>q[0]?) h5;simpa [List.getElem?_take,List.getElem?_drop]using this
 have hl:=e.len;rw[hs,Nat.mul_one]at hl;refine⟨?_,?_,fun x hx=> ?_⟩
 ·apply List.ext_getElem?
  intro i;rw[List.getElem?_map];cases hq:l[i]? with
  | none =>
   have:=List.getElem?_eq_none_iff.1 hq;rw[List.getElem?_eq_none (by omega)]; rfl
  | some x=>exact(key i x hq).1
 ·rw[List.flatten_eq_nil_iff]
  intro f hf;obtain⟨i,hi,rfl⟩:=List.getElem_of_mem hf;have hi2:i<l.length:=by rw[← e.fl]; exact hi
  have:=(key i l[i] (List.getElem?_eq_getElem hi2)).2.1;rw[List.getElem?_eq_getElem hi]at this;exact Option.some.inj this
 ·obtain⟨i,hi,rfl⟩:=List.getElem_of_mem hx
  exact(key i l[i] (List.getElem?_eq_getElem hi)).2.2
theorem yLn {h:za} {Z:Nat→Prop} {l:List Int} (hl: ∀x∈l,Rd h Z tI x [.int .i64 x]):Elems h Z tI .fz l (l.map (Value.int .i64)) (List.replicate l.length []):=by
 refine⟨by rw[List.length_map]; show l.length=l.length*1; omega,by simp,fun i x hx=>⟨[],?_,?_⟩⟩
 ·have hi:=(List.getElem?_eq_some_iff.1 hx).1
  simp[List.getElem?_replicate,hi]
 ·have hi:=(List.getElem?_eq_some_iff.1 hx).1
  have h1:((l.map (Value.int .i64)).drop (i*tI.size)).take tI.size= [.int .i64 x]:=by
   show((l.map (Value.int .i64)).drop (i*1)).take 1=_;rw[Nat.mul_one];apply List.ext_getElem?;intro j;rw[List.getElem?_take,List.getElem?_drop,List.getElem?_map];cases j with
   | zero=>simp[hx]
   | succ j=>simp
  rw[h1];exact⟨hl x (List.mem_of_getElem? hx),rfl⟩
theorem yQi {w:World} {b o:Nat} {d:Array Int} {c:Array Value} {T:TypeId} (hb:hp w b=some (.cells c T (0,0))) (n:Nat) (os:Array Obj):hp (Sort.grow (Sort.putRow (Value.int .i64) (Sort.ahead w n) b o d) os) b=some (.cells (Sort.putCells (Value.int .i64) o d c) T (0,0)):=by
 have hb':w.heap[b]? =some (.cells c T (0,0)):=hb;have hlt:b<w.heap.size:=(Array.getElem?_eq_some_iff.1 hb').1;show(w.heap.modify b (Sort.onCells (Sort.putCells (Value.int .i64) o d))++os)[b]? =_;rw[Array.getElem?_append_left (by rw[Array.size_modify]; exact hlt),Array.getElem?_modify,if_pos rfl,hb'];rfl
theorem yEk {w:World} {b b' o:Nat} {d:Array Int} (hlt:b'<w.heap.size) (hne:b'≠b) (n:Nat) (os:Array Obj):hp (Sort.grow (Sort.putRow (Value.int .i64) (Sort.ahead w n) b o d) os) b'=hp w b':=by
 show(w.heap.modify b (Sort.onCells (Sort.putCells (Value.int .i64) o d))++os)[b']? =_;rw[Array.getElem?_append_left (by rw[Array.size_modify]; exact hlt),Array.getElem?_modify,if_neg (fun e=>hne e.symm)];rfl
theorem yDK {h:za} {b o m:Nat} {l:List Int} {c:Array Value} {T:TypeId} (hb:h b=some (.cells (Sort.putCells (Value.int .i64) o l.toArray c) T (0,0))) (ho:o+l.length≤c.size) (hm:m≤l.length):zh h b o m=some ((l.take m).map (Value.int .i64)):=by
 have hl:((l.take m).map (Value.int .i64)).length=m:=by rw[List.length_map,List.length_take]; omega
 have:=zap (h:=h) (b:=b) ((l.take m).map (Value.int .i64)) o (fun j hj=>by
  rw[hl]at hj;unfold zL;rw[hb];show(Sort.putCells (Value.int .i64) o l.toArray c)[o+j]? =_;unfold Sort.putCells;rw[Array.getElem?_mapIdx,Array.getElem?_eq_getElem (show o+j<c.size by omega),Option.map_some,if_pos (by rw[List.size_toArray]; omega),List.getElem?_map,List.getElem?_take,if_pos hj];have hjl:j<l.length:=by omega
  rw[List.getElem?_eq_getElem hjl,show o+j-o=j by omega]
  simp[hjl])
 rw[hl]at this; exact this
theorem yL2 {w:World} {b o:Nat} {l:List Int} {c:Array Value} {T:TypeId} (hb:hp w b=some (.cells c T (0,0))) (hc:zh (hp w) b o l.length=some (l.map (Value.int .i64))):Sort.Holds (Value.int .i64) w b o l.toArray:=by
 intro j hj;rw[List.size_toArray]at hj;refine⟨?_,?_⟩
 ·rw[zb1,← zab hc j hj,List.getElem?_map,List.getElem?_eq_getElem hj]
  simp[hj]
 ·unfold World.frozen?
  have:w.heap[b]? =some (.cells c T (0,0)):=hb;simp[this]
def yaK (l:List Int):Bool:=decide (0<l.length∧l.length≤1000)
def yA (l:List Int):List Int:=l.mergeSort fun x y=>decide (x≤y)
def ySC:Con:=⟨yhq,yhw,fun x=>bif yaK x.1 then some ((),(yA x.1,()))else none⟩
theorem yVH:ConOk prog 175 ySC where
 fn:=⟨_,func175,by kernel_rfl,by kernel_rfl⟩
 run:=fun w Z R xs args fs r ha hF hz hnd hfr=>by
  obtain⟨l,_⟩:=xs;rcases args with _ | ⟨a0,_ | ⟨a1,t⟩⟩<;>rcases fs with _ | ⟨f0,_ | ⟨f1,u⟩⟩<;>try (simp[ArgsOk,ySC]at ha; done)
  obtain⟨⟨cs0,rfl,o0⟩,_⟩:=ha;have hF':(bif yaK l then some (((),(yA l,())):zaY yhw×zak yhq)else none)=some r:=hF;cases hq:yaK l with
  | false=>rw[hq]at hF'; cases hF'
  | true =>
   rw[hq]at hF';obtain rfl:=Option.some.inj hF';have hq:=of_decide_eq_true hq;have hl1:=Own.len o0;obtain⟨a0,rfl⟩:=List.length_eq_one_iff.1 hl1;have hfl:([f0]:List (List Nat)).flatten=f0:=by simp
   rw[hfl]at hfr hnd;obtain⟨hd,cap,hv0,hbnd,hlc,hc0⟩:=Own.elems o0;subst hv0;have hlc:l.length≤cap:=hlc;have hbnd:l.length*tI.bytes≤2^47:=hbnd;rcases hc0 with⟨rfl,_⟩ | ⟨b,o,c,T,vs0,fp0,rfl,hB,hcap,hf0,hcs0,e0⟩
   ·exact absurd hq.1 (Nat.lt_irrefl 0)
   ·obtain⟨rfl,hfn,hrd⟩:=yL4 e0
    rw[hfn]at hf0;have hs:tI.size=1:=rfl;rw[hs,Nat.mul_one]at hcs0 hcap;have hbf:b∈f0:=by rw[hf0]; exact List.mem_cons_self
    obtain⟨hblt,hbZ,_⟩:=hfr b hbf;have hsl:(yA l).length=l.length:=(List.mergeSort_perm l _).length_eq;refine(AnyM.slices_Sort_int Tryz.sortL b o cap l w (yL2 hB hcs0) hblt (by omega)).mono fun e w2 ⟨he,n,os,hw2⟩=> ?_
    subst he hw2;have hB2:=yQi (o:=o) (d:=(yA l).toArray) hB n os;have oth: ∀b',b'<w.heap.size→b'≠b→hp (Sort.grow (Sort.putRow (Value.int .i64) (Sort.ahead w n) b o (yA l).toArray) os) b'=hp w b':=fun b' h1 h2=>yEk h1 h2 n os
    have hcs:=yDK hB2 (by omega) (Nat.le_refl _);rw[List.take_length]at hcs;have hrd2: ∀x∈yA l,Rd (hp (Sort.grow (Sort.putRow (Value.int .i64) (Sort.ahead w n) b o (yA l).toArray) os)) Z tI x [.int .i64 x]:=fun x hx=>Rd.keep (fun b' hb'=>oth b' (hz b' (.inl hb')) (fun e=>hbZ (e ▸ hb'))) (fun _ h=>h) (hrd x ((List.mergeSort_perm l _).mem_iff.1 hx))
    have hown:=(yLn hrd2).own (b:=b) (o:=o) (cap:=cap) hB2 (by rw[hs,Nat.mul_one]; exact hcs) (by rw[hs,Nat.mul_one]; unfold Sort.putCells; rw[Array.size_mapIdx]; exact hcap) (by omega) (by rw[hsl]; exact hbnd);rw[zbU,hsl]at hown;refine⟨[],Z,[],[[b]],rfl,rfl,?_,fun b' h1 h2=>oth b' h1 (fun e=>h2 (by rw[hfl,e]; exact hbf)),fun _ h=>h,fun _ h=> .inl h,trivial,⟨⟨_,rfl,hown⟩,trivial⟩,by simp,fun b' hb'=> ?_⟩
    ·show w.heap.size≤(w.heap.modify b _++os).size
     rw[Array.size_append,Array.size_modify]; omega
    ·simp at hb'
     subst hb';exact⟨.inr (by rw[hfl]; exact hbf),hbZ⟩
def yhM (a0:List Int):Option (zaY yhw×zak yhq):=bif yaK a0 then(fun n=>some ((),(n,()))) (yA a0)else none
theorem yEW (a0:List Int) (h:yaK a0=true):yhM a0=(fun n=>some ((),(n,()))) (yA a0):=by unfold yhM; rw[h]; rfl
def yrw:Con:=⟨yhq,yhw,fun x=>yhM x.1⟩
theorem yEQ:ConOk prog 175 yrw:=yVH
abbrev yeY:List Par:= [.kp tL (.ow .fz)]
abbrev yeZ:List OT:= [⟨false,tL,(.ow .fz)⟩]
end
end Go.Tf
namespace Go.Proofs
noncomputable section
open Go.Tf Go.RowKit Go.Lib Go.Shelf Go.Sort
set_option synthInstance.maxHeartbeats 400000
set_option synthInstance.maxSize 10000
set_option linter.unusedVariables false
set_option linter.unusedSimpArgs false
set_option maxRecDepth 100000
def Tryz.compL_ren:Go.Shelf.Ren:=⟨fun | 43=>176 | n=>n,fun | 22=>34 | 23=>3 | 3=>3 | 4=>4 | 0=>0 | n=>n,fun | n=>n⟩
theorem Tryz.compL:Go.Proofs.SlLaysN.n43 Tryz.prog Tryz.compL_ren where
  mixed:=by kernel_rfl
  f43:=⟨ "slices.Compact[[]int,int]",by decide,Tryz.func176.trans (congrArg some (by kernel_rfl))⟩
  t0:=Tryz.underlying0
  a0:=Tryz.isAgg0
  z0:=Tryz.sizeOf0
  v0:=Tryz.zeroValue0
  t3:=Tryz.underlying3
  a3:=Tryz.isAgg3
  z3:=Tryz.sizeOf3
  v3:=Tryz.zeroValue3
  t4:=Tryz.underlying4
  a4:=Tryz.isAgg4
  z4:=Tryz.sizeOf4
  v4:=Tryz.zeroValue4
  t22:=Tryz.underlying34
  a22:=Tryz.isAgg34
  z22:=Tryz.sizeOf34
  v22:=Tryz.zeroValue34
  t23:=Tryz.underlying3
  a23:=Tryz.isAgg3
  z23:=Tryz.sizeOf3
  v23:=Tryz.zeroValue3
  i23:=by kernel_rfl
end
end Go.Proofs
namespace Go.Tf
noncomputable section
open Go.Proofs Go.Proofs.Tryz IntKind
set_option synthInstance.maxHeartbeats 400000
set_option synthInstance.maxSize 10000
set_option linter.unusedVariables false
set_option linter.unusedSimpArgs false
set_option maxRecDepth 100000
def yaD (l:List Int):Bool:=yaK l
def ybg (l:List Int):List Int:=Lib.compact l
def ySB:Con:=⟨yeY,yeZ,fun x=>bif yaD x.1 then some ((ybg x.1,()),())else none⟩
theorem yVo (l:List Int):(Lib.compact l).length≤l.length:=by
 unfold Lib.compact Lib.compactUpTo;rw[List.length_map];exact Nat.le_trans (List.length_filter_le _ _) (by simp)
theorem ySA {l:List Int} {x:Int} (h:x∈Lib.compact l):x∈l:=by
 unfold Lib.compact Lib.compactUpTo at h;obtain⟨i,hi,rfl⟩:=List.mem_map.1 h;have hi:=List.mem_range.1 (List.mem_filter.1 hi).1;simp[hi]
theorem yVp:ConOk prog 176 ySB where
 fn:=⟨_,func176,by kernel_rfl,by kernel_rfl⟩
 run:=fun w Z R xs args fs r ha hF hz hnd hfr=>by
  obtain⟨l,_⟩:=xs;rcases args with _ | ⟨a0,_ | ⟨a1,t⟩⟩<;>rcases fs with _ | ⟨f0,_ | ⟨f1,u⟩⟩<;>try (simp[ArgsOk,ySB]at ha; done)
  obtain⟨⟨cs0,rfl,o0⟩,_⟩:=ha;have hF':(bif yaD l then some (((ybg l,()),()):zaY yeZ×zak yeY)else none)=some r:=hF;cases hq:yaD l with
  | false=>rw[hq]at hF'; cases hF'
  | true =>
   rw[hq]at hF';obtain rfl:=Option.some.inj hF';have hq:=of_decide_eq_true hq;have hl1:=Own.len o0;obtain⟨a0,rfl⟩:=List.length_eq_one_iff.1 hl1;have hfl:([f0]:List (List Nat)).flatten=f0:=by simp
   rw[hfl]at hfr hnd;obtain⟨hd,cap,hv0,hbnd,hlc,hc0⟩:=Own.elems o0;subst hv0;have hlc:l.length≤cap:=hlc;have hbnd:l.length*tI.bytes≤2^47:=hbnd;rcases hc0 with⟨rfl,_⟩ | ⟨b,o,c,T,vs0,fp0,rfl,hB,hcap,hf0,hcs0,e0⟩
   ·exact absurd hq.1 (Nat.lt_irrefl 0)
   ·obtain⟨rfl,hfn,hrd⟩:=yL4 e0
    rw[hfn]at hf0;have hs:tI.size=1:=rfl;rw[hs,Nat.mul_one]at hcs0 hcap;have hbf:b∈f0:=by rw[hf0]; exact List.mem_cons_self
    obtain⟨hblt,hbZ,_⟩:=hfr b hbf;have hcl:=yVo l;have hL:(Lib.compact l++List.replicate (l.length-(Lib.compact l).length) (0:Int)).length=l.length:=by rw[List.length_append,List.length_replicate]; omega
    refine(AnyG.slices_Compact_int Tryz.compL b o cap l w (yL2 hB hcs0) (by omega) hlc).mono fun e w2 ⟨he,n,hw2⟩=> ?_
    rw[← Sort.grow_empty (Sort.putRow _ _ _ _ _)]at hw2;subst he hw2;have hB2:=yQi (o:=o) (d:=(Lib.compact l++List.replicate (l.length-(Lib.compact l).length) (0:Int)).toArray) hB n #[];have oth: ∀b',b'<w.heap.size→b'≠b→hp (Sort.grow (Sort.putRow (Value.int .i64) (Sort.ahead w n) b o (Lib.compact l++List.replicate (l.length-(Lib.compact l).length) (0:Int)).toArray) #[]) b'=hp w b':=fun b' h1 h2=>yEk h1 h2 n #[]
    have hcs:=yDK (m:=(Lib.compact l).length) hB2 (by omega) (by omega);rw[List.take_left]at hcs;have hrd2: ∀x∈Lib.compact l,Rd (hp (Sort.grow (Sort.putRow (Value.int .i64) (Sort.ahead w n) b o (Lib.compact l++List.replicate (l.length-(Lib.compact l).length) (0:Int)).toArray) #[])) Z tI x [.int .i64 x]:=fun x hx=>Rd.keep (fun b' hb'=>oth b' (hz b' (.inl hb')) (fun e=>hbZ (e ▸ hb'))) (fun _ h=>h) (hrd x (ySA hx))
    have hown:=(yLn hrd2).own (b:=b) (o:=o) (cap:=cap) hB2 (by rw[hs,Nat.mul_one]; exact hcs) (by rw[hs,Nat.mul_one]; unfold Sort.putCells; rw[Array.size_mapIdx]; exact hcap) (by omega) (by have:tI.bytes=8:=rfl; rw[this]at hbnd ⊢; omega);rw[zbU]at hown;refine⟨[_],Z,[[b]],[[]],rfl,rfl,?_,fun b' h1 h2=>oth b' h1 (fun e=>h2 (by rw[hfl,e]; exact hbf)),fun _ h=>h,fun _ h=> .inl h,⟨⟨_,rfl,hown⟩,trivial⟩,⟨rfl,trivial⟩,by simp,fun b' hb'=> ?_⟩
    ·show w.heap.size≤(w.heap.modify b _++ #[]).size
     rw[Array.size_append,Array.size_modify]; omega
    ·simp at hb'
     subst hb';exact⟨.inr (by rw[hfl]; exact hbf),hbZ⟩
def ye1 (a0:List Int):Option (zaY yeZ×zak yeY):=bif yaD a0 then(fun n=>some ((n,()),())) (ybg a0)else none
theorem yBY (a0:List Int) (h:yaD a0=true):ye1 a0=(fun n=>some ((n,()),())) (ybg a0):=by unfold ye1; rw[h]; rfl
def ynn:Con:=⟨yeY,yeZ,fun x=>ye1 x.1⟩
theorem yBT:ConOk prog 176 ynn:=yVp
def yKx:Code:=(f110.body).getD .skip
def yKV:Env:=zkw TT [(127,ye4),(133,yfG),(156,ygY),(175,yrw),(176,ynn)] []
theorem yD0:FrOk prog ⟨yKV,32,fun _=>none⟩ yKx:=zkA mixed yc ⟨yjB,ykS,ymj,yEQ,yBT,trivial⟩
abbrev ykh:List Par:= [.rd tM,.rd tI]
abbrev yp9:List OT:= [⟨false,tM,(.pr (.ow (.ow .fz)) (.pr (.ow (.pr .fz (.ow .fz))) (.pr .fz (.ow .fz))))⟩]
def ymZ (a0:dM) (a1:Int):Option (zaY yp9×zak ykh) :=let r1:=yar a0;let r2:=yaq a0;bif(!(!r2))then let r3:=yak a0 a1;bif(!r3)then some ((r1,()),()) else bif(zkl r1.2.2.2.length ([a1]:List Int).length 8)then bnd (yhM (r1.2.2.2++([a1]:List Int))) fun r4 =>bnd (ye1 r4.2.1) fun r5 =>some (((r1.1,r1.2.1,r1.2.2.1,r5.1.1),()),()) else none else some ((r1,()),())
theorem yGS:ConOk prog 110 ⟨ykh,yp9,fun x=>ymZ x.1 x.2.1⟩:=zkI (yD0) func110 ntmps110.symm fun x=>by kernel_rfl
theorem yTl {zs:List Int} (h:zs.Pairwise (· ≤ ·)):(Lib.compact zs).Pairwise (· < ·)∧ ∀x,x∈Lib.compact zs↔x∈zs:=by
 have hle: ∀i j,i≤j→j<zs.length→zs.toArray[i]! ≤zs.toArray[j]! :=fun i j hij hj=>by
  have e: ∀k,k<zs.length→zs.toArray[k]! =zs[k]! :=fun k hk=>by simp[hk]
  rw[e i (by omega),e j hj];rcases Nat.lt_or_ge i j with g | g
  ·have:=List.pairwise_iff_getElem.1 h i j (by omega) hj g
   rwa[getElem!_pos zs i (by omega),getElem!_pos zs j hj]
  ·have:i=j:=by omega
   subst this; exact Int.le_refl _
 have key: ∀m,m≤zs.length→(Lib.compactUpTo zs.toArray m).Pairwise (· < ·)∧(∀x∈Lib.compactUpTo zs.toArray m,∃j,j<m∧x=zs.toArray[j]!)∧ ∀j,j<m→zs.toArray[j]! ∈Lib.compactUpTo zs.toArray m:=by
  intro m
  induction m with
  | zero=>intro _; exact⟨List.Pairwise.nil,(fun x hx=>nomatch hx),fun j hj=>absurd hj (Nat.not_lt_zero j)⟩
  | succ m ih =>
   intro hm;obtain⟨i1,i2,i3⟩:=ih (by omega);rw[Lib.compactUpTo_succ];cases hk:Lib.keeps zs.toArray m
   ·rw[if_neg (by simp),List.append_nil]
    have hk2: ¬(m=0∨zs.toArray[m]! ≠zs.toArray[m-1]!):=of_decide_eq_false hk;have h0:m≠0:=fun e=>hk2 (.inl e)
    have he:zs.toArray[m]! =zs.toArray[m-1]! :=Classical.byContradiction fun e=>hk2 (.inr e)
    refine⟨i1,fun x hx=> ?_,fun j hj=> ?_⟩
    ·obtain⟨j,hj,e⟩:=i2 x hx
     exact⟨j,by omega,e⟩
    ·by_cases hjm:j=m
     ·subst hjm; rw[he]; exact i3 _ (by omega)
     ·exact i3 j (by omega)
   ·rw[if_pos rfl]
    have hk2:m=0∨zs.toArray[m]! ≠zs.toArray[m-1]! :=of_decide_eq_true hk;refine⟨?_,fun x hx=> ?_,fun j hj=> ?_⟩
    ·rw[List.pairwise_append]
     refine⟨i1,List.pairwise_singleton _ _,fun x hx y hy=> ?_⟩;rw[List.mem_singleton]at hy;subst hy;obtain⟨j,hj,rfl⟩:=i2 x hx;rcases hk2 with rfl | hk2
     ·omega
     ·have g1:=hle j (m-1) (by omega) (by omega)
      have g2:=hle (m-1) m (by omega) (by omega);omega
    ·rcases List.mem_append.1 hx with hx | hx
     ·obtain⟨j,hj,e⟩:=i2 x hx
      exact⟨j,by omega,e⟩
     ·exact⟨m,by omega,List.mem_singleton.1 hx⟩
    ·by_cases hjm:j=m
     ·subst hjm; exact List.mem_append.2 (.inr (List.mem_singleton.2 rfl))
     ·exact List.mem_append.2 (.inl (i3 j (by omega)))
 obtain⟨k1,k2,k3⟩:=key zs.length (Nat.le_refl _);refine⟨k1,fun x=>⟨fun hx=>ySA hx,fun hx=> ?_⟩⟩;obtain⟨i,hi,rfl⟩:=List.getElem_of_mem hx;have:=k3 i hi;have e:zs.toArray[i]! =zs[i]:=by simp[hi]
 rw[e]at this;exact this
theorem yTC {l m:List Int} (hl:l.Pairwise (· < ·)) (hm:m.Pairwise (· < ·)) (h: ∀x,x∈l↔x∈m):l=m:=by
 have nl:l.Nodup:=hl.imp (fun h=>by omega);have nm:m.Nodup:=hm.imp (fun h=>by omega);exact List.Perm.eq_of_pairwise (le:=(· < ·)) (fun a b _ _ h1 h2=>by omega) hl hm ((List.perm_ext_iff_of_nodup nl nm).2 h)
theorem yVa {l:List Int} {n:Int} (h:l.Pairwise (· < ·)):ybg (yA (l++ [n]))=bif l.any (· ==n)then l else yh9 l n:=by
 have hs:(yA (l++ [n])).Pairwise (· ≤ ·):=(List.pairwise_mergeSort (le:=fun x y:Int=>decide (x≤y)) (fun a b c h1 h2=>decide_eq_true (by have:=of_decide_eq_true h1; have:=of_decide_eq_true h2; omega)) (fun a b=>by
  by_cases hab:a≤b
  ·simp[hab]
  ·have:b≤a:=by omega
   simp[this]) (l++ [n])).imp (fun h=>of_decide_eq_true h)
 obtain⟨c1,c2⟩:=yTl hs
 have hm: ∀x,x∈ybg (yA (l++ [n]))↔(x∈l∨x=n):=fun x=>by
  refine(c2 x).trans (((List.mergeSort_perm (l++ [n]) _).mem_iff).trans ?_);rw[List.mem_append,List.mem_singleton]
 cases hn:l.any (· ==n)
 ·refine yTC c1 ?_ fun x=>(hm x).trans ?_
  ·show(yh9 l n).Pairwise (· < ·)
   unfold yh9;rw[List.pairwise_append,List.pairwise_cons];refine⟨h.filter _,⟨fun y hy=>zka.1 (List.mem_filter.1 hy).2,h.filter _⟩,fun x hx y hy=> ?_⟩;have g1:=zka.1 (List.mem_filter.1 hx).2;rcases List.mem_cons.1 hy with rfl | hy
   ·exact g1
   ·exact Int.lt_trans g1 (zka.1 (List.mem_filter.1 hy).2)
  ·show _↔x∈yh9 l n
   unfold yh9;rw[List.mem_append,List.mem_cons,List.mem_filter,List.mem_filter,zka,zka];constructor
   ·rintro(hx | rfl)
    ·rcases Int.lt_trichotomy x n with g | g | g
     ·exact .inl ⟨hx,g⟩
     ·exact .inr (.inl g)
     ·exact .inr (.inr ⟨hx,g⟩)
    ·exact .inr (.inl rfl)
   ·rintro(g | g | g)
    ·exact .inl g.1
    ·exact .inr g
    ·exact .inl g.1
 ·refine yTC c1 h fun x=>(hm x).trans ?_
  constructor
  ·rintro(hx | rfl)
   ·exact hx
   ·obtain⟨y,hy,e⟩:=List.any_eq_true.1 hn
    rw[← beq_iff_eq.1 e]; exact hy
  ·exact .inl
def yg3 (a0:dM) (a1:Int):dM:=spoil a0 a1
theorem yJp (a0:dM) (a1:Int) (hk:zjx ykh (a0,a1,())):ymZ a0 a1=(fun n=>some ((n,()),())) (yg3 a0 a1):=by
 have hb:a0.1.length*24≤2^47:=hk.1.1.1;unfold ymZ yg3 spoil;simp only[yar,yaq,yak,yW,yh8 (show a0.1.length≤1152921504606846976 by omega),Bool.not_not];cases hm:yu a0
 ·rfl
 ·obtain⟨h1,h2,h3,h4,h5,h6⟩:=ybT hm
  rw[ylc]at h3;cases hi:inb a1 a0.1.length
  ·rfl
  ·have hl:a0.2.2.2.length≤64:=by
    have:=yFe (l:=a0.2.2.2) (lo:=0) (n:=(a0.1.length:Int)) h3.2 (fun x hx=>by have:=h3.1 x hx; omega) (by omega);omega
   have hap:zkl a0.2.2.2.length ([a1]:List Int).length 8=true:=zkF.2 (by simp only[List.length_cons,List.length_nil]; omega);have hq:yaK (a0.2.2.2++ [a1])=true:=decide_eq_true (by simp only[List.length_append,List.length_cons,List.length_nil]; omega)
   have hq2:yaD (yA (a0.2.2.2++ [a1]))=true:=by
    have:(yA (a0.2.2.2++ [a1])).length=(a0.2.2.2++ [a1]).length:=(List.mergeSort_perm _ _).length_eq;unfold yaD yaK;rw[this]; exact hq
   simp only[hap,cond_true,Bool.not_true,cond_false,yEW _ hq,zkH,yBY _ hq2,yVa h3.2];cases a0.2.2.2.any (· ==a1)<;>rfl
def yvT:Con:=⟨ykh,yp9,fun x=>(fun n=>some ((n,()),())) (yg3 x.1 x.2.1)⟩
theorem yJ5:ConOk prog 110 yvT:=(yGS).mono (fun x r hk h=>(yJp x.1 x.2.1 hk).trans h)
def yQB:Code:=(f111.body).getD .skip
def yQ4:Env:=zkw TT [(81,yE)] []
theorem yHZ:FrOk prog ⟨yQ4,9,fun _=>none⟩ yQB:=zkA mixed yc ⟨yS,trivial⟩
abbrev yus:List Par:= [.rd tI]
abbrev yuM:List OT:= [⟨false,tI,.fz⟩]
def yAx (a0:Int):Option (zaY yuM×zak yus) :=let r1:=ye a0 0 1099511627776;bif(!r1)then some (((-1),()),()) else some (((i64.wrap ((i64.wrap (a0+2))+4)),()),())
theorem yMC:ConOk prog 111 ⟨yus,yuM,fun x=>yAx x.1⟩:=zkI (yHZ) func111 ntmps111.symm fun x=>by kernel_rfl
def yf4 (a0:Int):Int :=let r1:=ye a0 0 1099511627776;bif(!r1)then (-1) else (i64.wrap ((i64.wrap (a0+2))+4))
def ykH:Con:=⟨yus,yuM,fun x=>(fun n=>some ((n,()),())) (yf4 x.1)⟩
theorem yOJ (a0:Int):yAx a0=(fun n=>some ((n,()),())) (yf4 a0):=zkV (p:=fun(n:Int)=>((n,()),())) (zkG (p:=fun(n:Int)=>((n,()),())) rfl rfl)
theorem ysK:ConOk prog 111 ykH:=(yMC).mono (fun x r _ h=>(yOJ x.1).trans h)
def yQO:Code:=(f113.body).getD .skip
def yRh:Env:=zkw TT [(82,yz)] []
theorem yIj:FrOk prog ⟨yRh,9,fun _=>none⟩ yQO:=zkA mixed yc ⟨yF,trivial⟩
abbrev yuB:List Par:= [.rd tI]
abbrev yu1:List OT:= [⟨false,tI,.fz⟩]
def yAG (a0:Int):Option (zaY yu1×zak yuB) :=let r1:=ya a0 0 1099511627776;bif(!r1)then some (((-1),()),()) else some (((i64.wrap ((i64.wrap (a0+2))+4)),()),())
theorem yMS:ConOk prog 113 ⟨yuB,yu1,fun x=>yAG x.1⟩:=zkI (yIj) func113 ntmps113.symm fun x=>by kernel_rfl
def ybf (a0:Int):Int :=let r1:=ya a0 0 1099511627776;bif(!r1)then (-1) else (i64.wrap ((i64.wrap (a0+2))+4))
def yef:Con:=⟨yuB,yu1,fun x=>(fun n=>some ((n,()),())) (ybf x.1)⟩
theorem yOZ (a0:Int):yAG a0=(fun n=>some ((n,()),())) (ybf a0):=zkV (p:=fun(n:Int)=>((n,()),())) (zkG (p:=fun(n:Int)=>((n,()),())) rfl rfl)
theorem yix:ConOk prog 113 yef:=(yMS).mono (fun x r _ h=>(yOZ x.1).trans h)
theorem yfa (s:Int):ybf s=yy s:=by
 unfold ybf yy;rw[ybA];by_cases h:0≤s∧s≤1099511627776
 ·rw[zk2 h.1,zk2 h.2,wq (s+2) (by omega) (by omega),wr (by omega) (by omega)]
  show s+2+4=s+6;omega
 ·cases h1:(leb 0 s&&leb s 1099511627776)
  ·rfl
  ·rw[Bool.and_eq_true,zj7,zj7]at h1; exact absurd h1 h
theorem ysG (s:Int):yf4 s=yy s:=yfa s
def yNY:Code:=(f195.body).getD .skip
def yOo:Env:=zkw TT [(82,yz),(150,ye5)] []
theorem yGc:FrOk prog ⟨yOo,60,fun _=>none⟩ yNY:=zkA mixed yc ⟨yF,yjC,trivial⟩
abbrev ysf:List Par:= [.rd tS]
abbrev ysv:List OT:= [⟨false,tB,.fz⟩]
def yy2 (a0:dS):Option (zaY ysv×zak ysf) :=let r1:=yd (a0.2.2.2.1,a0.2.2.2.2.1);bif(!(!r1))then let r2:=ya a0.1 1 60000;bif(!(!r2))then let r3:=ya a0.2.1 0 60000;bif(!(!r3))then let r4:=ya a0.2.2.1 0 (i64.wrap (a0.2.2.2.1-1));bif(!(!r4))then let r5:=ya a0.2.2.2.2.2.1 0 60000;bif(!r5)then some ((false,()),()) else let r6:=ya a0.2.2.2.2.2.2.1 (-1) (i64.wrap (a0.2.2.2.1-1));bif r6 then let r7:=ya a0.2.2.2.2.2.2.2 0 a0.2.2.2.2.1;bif r7 then bif(!(leb 0 a0.2.2.2.2.2.2.1))then some (((a0.2.2.2.2.2.2.2==0),()),()) else some ((true,()),()) else some ((false,()),()) else some ((false,()),()) else some ((false,()),()) else some ((false,()),()) else some ((false,()),()) else some ((false,()),())
theorem yJS:ConOk prog 195 ⟨ysf,ysv,fun x=>yy2 x.1⟩:=zkI (yGc) func195 ntmps195.symm fun x=>by kernel_rfl
def yat (a0:dS):Bool :=let r1:=yd (a0.2.2.2.1,a0.2.2.2.2.1);bif(!(!r1))then let r2:=ya a0.1 1 60000;bif(!(!r2))then let r3:=ya a0.2.1 0 60000;bif(!(!r3))then let r4:=ya a0.2.2.1 0 (i64.wrap (a0.2.2.2.1-1));bif(!(!r4))then let r5:=ya a0.2.2.2.2.2.1 0 60000;bif(!r5)then false else let r6:=ya a0.2.2.2.2.2.2.1 (-1) (i64.wrap (a0.2.2.2.1-1));bif r6 then let r7:=ya a0.2.2.2.2.2.2.2 0 a0.2.2.2.2.1;bif r7 then bif(!(leb 0 a0.2.2.2.2.2.2.1))then (a0.2.2.2.2.2.2.2==0) else true else false else false else false else false else false else false
def yx5:Con:=⟨ysf,ysv,fun x=>(fun n=>some ((n,()),())) (yat x.1)⟩
theorem yMs (a0:dS):yy2 a0=(fun n=>some ((n,()),())) (yat a0):=zkV (p:=fun(n:Bool)=>((n,()),())) (zkG (p:=fun(n:Bool)=>((n,()),())) (zkG (p:=fun(n:Bool)=>((n,()),())) (zkG (p:=fun(n:Bool)=>((n,()),())) (zkG (p:=fun(n:Bool)=>((n,()),())) (zkG (p:=fun(n:Bool)=>((n,()),())) rfl (zkG (p:=fun(n:Bool)=>((n,()),())) (zkG (p:=fun(n:Bool)=>((n,()),())) (zkG (p:=fun(n:Bool)=>((n,()),())) rfl rfl) rfl) rfl)) rfl) rfl) rfl) rfl)
theorem yNp:ConOk prog 195 yx5:=(yJS).mono (fun x r _ h=>(yMs x.1).trans h)
abbrev yVE:dS:=(0,0,0,0,0,0,0,0)
theorem yTz {s:dS}:yat s=true↔yd (s.2.2.2.1,s.2.2.2.2.1)=true∧(1≤s.1∧s.1≤60000)∧(0≤s.2.1∧s.2.1≤60000)∧(0≤s.2.2.1∧s.2.2.1≤s.2.2.2.1-1)∧(0≤s.2.2.2.2.2.1∧s.2.2.2.2.2.1≤60000)∧(-1≤s.2.2.2.2.2.2.1∧s.2.2.2.2.2.2.1≤s.2.2.2.1-1)∧(0≤s.2.2.2.2.2.2.2∧s.2.2.2.2.2.2.2≤s.2.2.2.2.1)∧(0≤s.2.2.2.2.2.2.1∨s.2.2.2.2.2.2.2=0):=by
 unfold yat;cases hg:yd (s.2.2.2.1,s.2.2.2.2.1)
 ·simp
 have hg2:=yl.1 hg;simp only at hg2;rw[wq (s.2.2.2.1-1) (by omega) (by omega)];simp only[Bool.not_not,cond_true,true_and];simp only[← yqO];cases ya s.1 1 60000
 ·simp
 cases ya s.2.1 0 60000
 ·simp
 cases ya s.2.2.1 0 (s.2.2.2.1-1)
 ·simp
 cases ya s.2.2.2.2.2.1 0 60000
 ·simp
 cases ya s.2.2.2.2.2.2.1 (-1) (s.2.2.2.1-1)
 ·simp
 cases ya s.2.2.2.2.2.2.2 0 s.2.2.2.2.1
 ·simp
 cases hl:leb 0 s.2.2.2.2.2.2.1
 ·have:=mt zk2 (by rw[hl]; simp: ¬leb 0 s.2.2.2.2.2.2.1=true)
  simp[this]
 ·simp[zj7.1 hl]
def yTO (l:List Int):dS:=(nth l 1 0,nth l 2 0,nth l 3 0,nth l 4 0,nth l 5 0,nth l 6 0,i64.wrap (nth l 7 0-1),nth l 8 0)
def yUY (l:List Int):dS×Bool:=bif(l.length:Int)==9&&(nth l 0 0==21317&&yat (yTO l))then(yTO l,true)else(yVE,false)
end
end Go.Tf
