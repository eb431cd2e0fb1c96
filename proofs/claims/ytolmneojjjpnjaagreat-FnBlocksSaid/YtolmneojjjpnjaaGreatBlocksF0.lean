/- Functions of the program, and what they come to. -/
import Derived.Test.YtolmneojjjpnjaaGreatBlocksTt
namespace Go.Tf
noncomputable section
open Go.Proofs Go.Proofs.Tryz IntKind
set_option synthInstance.maxHeartbeats 400000
set_option synthInstance.maxSize 10000
set_option linter.unusedVariables false
set_option linter.unusedSimpArgs false
set_option maxRecDepth 100000
def y05:Code:=(f14.body).getD .skip
def y06:Env:=zkw TT [] []
theorem yYr:FrOk prog ⟨y06,6,fun _=>none⟩ y05:=zkA mixed yc trivial
abbrev yG9:List Par:= [.rd tYs]
abbrev yHa:List OT:= [⟨false,tB,.fz⟩]
def yKN (a0:List Int):Option (zaY yHa×zak yG9) :=some (((ltb 1048576 (a0.length:Int)),()),())
theorem yZ8:ConOk prog 14 ⟨yG9,yHa,fun x=>yKN x.1⟩:=zkI (yYr) func14 ntmps14.symm fun x=>by kernel_rfl
def yBe (a0:List Int):Bool :=(ltb 1048576 (a0.length:Int))
def yJf:Con:=⟨yG9,yHa,fun x=>(fun n=>some ((n,()),())) (yBe x.1)⟩
theorem y0C (a0:List Int):yKN a0=(fun n=>some ((n,()),())) (yBe a0):=zkV (p:=fun(n:Bool)=>((n,()),())) rfl
theorem y0E:ConOk prog 14 yJf:=(yZ8).mono (fun x r _ h=>(y0C x.1).trans h)
def yU {α:Type} (p:α→Bool) (l:List α):Int:=bif l.any p then((l.takeWhile (fun x=> !p x)).length:Int)else -1
theorem yW9 {α:Type} (p:α→Bool):yU p []= -1:=rfl
theorem yub {α:Type} (p:α→Bool) (x:α) (l:List α):yU p (x::l)=bif p x then 0 else bif leb 0 (yU p l)then yU p l+1 else -1:=by
 unfold yU;rw[List.any_cons,List.takeWhile_cons];cases p x
 ·cases l.any p
  ·rfl
  ·simp only[Bool.false_or,Bool.not_false,if_true,cond_true,cond_false,List.length_cons]
   rw[zk2 (show(0:Int)≤((l.takeWhile (fun x=> !p x)).length:Int)by omega),cond_true]; omega
 ·simp
theorem ygV {α:Type} {p:α→Bool} {d:α}: ∀{l:List α},leb 0 (yU p l)=true→inb (yU p l) l.length=true∧p (nth l (yU p l) d)=true
 | [],h=>by rw[yW9]at h; cases h
 | x::l,h=>by
  rw[yub]at h ⊢;cases hx:p x
  ·rw[hx]at h
   cases hl:leb 0 (yU p l)
   ·rw[hl]at h; cases h
   ·obtain⟨h1,h2⟩:=ygV (d:=d) hl
    have h3:=zj6.1 h1;have h4:=zj7.1 hl;simp only[cond_false,cond_true,List.length_cons];refine⟨zj6.2 (by omega),?_⟩;unfold nth at h2 ⊢;rw[show(yU p l+1).toNat=(yU p l).toNat+1 by omega,List.getD_cons_succ];exact h2
  ·simp only[cond_true,List.length_cons]
   refine⟨zj6.2 (by omega),?_⟩;exact hx
theorem yE6 {A B α:Type} {step:A→Option (A ⊕ B)} (l:List α) (d:α) (f:Nat→A) (p:α→Bool) (b:Int→B) (c:B)
  (h: ∀i,i<l.length→step (f i)=some (bif p (l.getD i d)then .inr (b i)else .inl (f (i+1)))) (e:step (f l.length)=some (.inr c)) (fuel:Nat) (hf:l.length<fuel) :
  zF step fuel (f 0)=some (bif leb 0 (yU p l)then b (yU p l)else c):=by
 have: ∀(t q:List α) (fuel:Nat),q++t=l→t.length<fuel→zF step fuel (f q.length)=some (bif leb 0 (yU p t)then b (q.length+yU p t)else c):=by
  intro t
  induction t with
  | nil =>
   intro q fuel hq hf;obtain⟨fuel,rfl⟩: ∃m,fuel=m+1:=⟨fuel-1,by omega⟩;rw[List.append_nil]at hq;subst hq;simp only[zF,e]; rfl
  | cons x t ih =>
   intro q fuel hq hf;obtain⟨fuel,rfl⟩: ∃m,fuel=m+1:=⟨fuel-1,by omega⟩
   have hx:l.getD q.length d=x:=by
    subst hq;rw[zkJ (by simp)]; simp
   have hs:=h q.length (by rw[← hq]; simp);rw[hx]at hs;rw[yub];cases hp:p x
   ·rw[hp]at hs
    have:=ih (q++ [x]) fuel (by rw[← hq]; simp) (by simp at hf; omega);simp only[List.length_append,List.length_cons,List.length_nil]at this;simp only[zF,hs,cond_false];rw[show q.length+1=q.length+(0+1)by omega,this];cases hl:leb 0 (yU p t)
    ·rfl
    ·have:=zj7.1 hl
     rw[cond_true,cond_true,zk2 (show 0≤yU p t+1 by omega),cond_true];congr 2; omega
   ·rw[hp]at hs
    simp only[zF,hs,cond_true];rw[zk2 (Int.le_refl 0),cond_true,Int.add_zero]
 have:=this l [] fuel rfl hf;simpa using this
theorem yoD {α β:Type} (f:α→β): ∀(l:List α) (s:List β),l.foldl (fun s i=>s++ [f i]) s=s++l.map f
 | [],s=>by simp
 | x::l,s=>by rw[List.foldl_cons,yoD f l]; simp
theorem ywt {α:Type} (l:List α):l.foldl (fun s i=>s++ [i]) []=l:=by
 have:=yoD id l [];simpa using this
theorem y2a {α:Type} (l:List α) (d:α) {i:Nat} (h:i<l.length):l.take i++ [nth l i d]=l.take (i+1):=by rw[zkS,zkJ h,List.take_append_getElem h]
def ycz (e:dW) (s:Bool×List dW) (x:dW):Bool×List dW:=(s.1||leb e.1 x.1,(bif !s.1&&leb e.1 x.1 then s.2++ [e]else s.2)++(bif x.1 !=e.1 then[x]else[]))
def ydI (l:List dW) (e:dW):List dW:=bif(l.foldl (ycz e) (false,[])).1 then(l.foldl (ycz e) (false,[])).2 else(l.foldl (ycz e) (false,[])).2++ [e]
def yav (a:dA) (l:List dW):dA:=(a.1,a.2.1,a.2.2.1,a.2.2.2.1,a.2.2.2.2.1,a.2.2.2.2.2.1,a.2.2.2.2.2.2.1,a.2.2.2.2.2.2.2.1,l,a.2.2.2.2.2.2.2.2.2)
abbrev yh:dM:=([],[],false,[])
def isW (x:Int):Bool:=leb 0 x&&leb x 65535
def yan (s:List Int):Bool:=leb (s.length:Int) 12&&s.all isW
theorem ywu {x:Int}:isW x=true↔0≤x∧x≤65535:=by simp[isW,zj7]
theorem yFx {s:List Int}:yan s=true↔s.length≤12∧ ∀x∈s,0≤x∧x≤65535:=by
 simp only[yan,Bool.and_eq_true,zj7,List.all_eq_true,ywu];constructor
 ·rintro⟨h1,h2⟩; exact⟨by omega,h2⟩
 ·rintro⟨h1,h2⟩; exact⟨by omega,h2⟩
theorem y0M: ∀{l:List Int},l.Pairwise (· < ·)↔ ∀i,i+1<l.length→l.getD i 0<l.getD (i+1) 0
 | []=>by simp
 | [x]=>by simp
 | x::y::l=>by
  have ih:=y0M (l:=y::l);constructor
  ·intro h i hi
   cases h with
   | cons h1 h2 =>
    cases i with
    | zero=>exact h1 y List.mem_cons_self
    | succ i=>exact ih.1 h2 i (by simpa using hi)
  ·intro h
   have h2:(y::l).Pairwise (· < ·):=ih.2 fun i hi=>h (i+1) (by simpa using hi)
   refine .cons (fun z hz=> ?_) h2;have h3:x<y:=h 0 (by simp);rcases List.mem_cons.1 hz with rfl | hz
   ·exact h3
   ·cases h2 with
    | cons h4 _=>exact Int.lt_trans h3 (h4 z hz)
def yoz (n:Nat) (l:List Int):Bool:=l.all (fun x=>inb x n)&&decide (l.Pairwise (· < ·))
def yrX (n:Nat) (w:dW):Bool:=inb w.1 n&&yan w.2
def yz (m:dM):Bool:=m.1.all yan&&m.2.1.all (yrX m.1.length)&&yoz m.1.length m.2.2.2&&leb 1 (m.1.length:Int)&&leb (m.1.length:Int) 20&&leb (m.2.1.length:Int) 60
def yEk (n:Nat) (l:List Int) (i:Nat):Bool:= !(inb (l.getD i 0) n)||(decide (0<i)&&leb (l.getD i 0) (l.getD (i-1) 0))
theorem yWY (n:Nat) (l:List Int):(List.range l.length).any (yEk n l)= !(yoz n l):=by
 rw[Bool.eq_iff_iff,List.any_eq_true,Bool.not_eq_true',yoz,Bool.and_eq_false_iff,decide_eq_false_iff_not,y0M,List.all_eq_false];simp only[List.mem_range,yEk,Bool.or_eq_true,Bool.not_eq_true',Bool.and_eq_true,decide_eq_true_eq,zj7];constructor
 ·rintro⟨i,hi,h | ⟨h1,h2⟩⟩
  ·exact .inl ⟨l[i],List.getElem_mem hi,by rw[zkJ hi]at h; simp[h]⟩
  ·refine .inr fun h3=> ?_
   have:=h3 (i-1) (by omega);rw[show i-1+1=i by omega]at this;omega
 ·rintro(⟨x,hx,h⟩ | h)
  ·obtain⟨i,hi,rfl⟩:=List.getElem_of_mem hx
   exact⟨i,hi,.inl (by rw[zkJ hi]; simpa using h)⟩
  ·refine Classical.byContradiction fun hc=>h fun i hi=> ?_
   refine Classical.byContradiction fun h4=>hc ⟨i+1,hi,.inr ⟨by omega,?_⟩⟩
   rw[Nat.add_sub_cancel]; omega
def yg3 (n:Int) (c:List dW) (s:List Int):List Int:=c.foldl (fun s w=>bif w.1==n then w.2 else s) s
def yBj (m:dM) (n:Int):Bool:=yz m&&(!m.2.2.1&&(inb n m.1.length&& !(m.2.2.2.any (· ==n))))
def yhv (m:dM) (n:Int):List Int×Bool:=bif yBj m n then(yg3 n m.2.1 (nth m.1 n []),true)else([],false)
theorem yHE {P:List Int→Prop} {n:Int}: ∀{c:List dW} {s:List Int},P s→(∀w∈c,P w.2)→P (yg3 n c s)
 | [],_,h,_=>h
 | w::c,s,h,hc=>yHE (c:=c) (zkQ (hc w List.mem_cons_self) h) (fun x hx=>hc x (List.mem_cons_of_mem _ hx))
theorem ywx {α:Type} {P:α→Prop} {l:List α} {i:Int} {d:α} (h:inb i l.length=true) (hl: ∀x∈l,P x):P (nth l i d):=by
 obtain⟨h1,h2⟩:=zj6.1 h;unfold nth;rw[zkJ (show i.toNat<l.length by omega)];exact hl _ (List.getElem_mem _)
theorem yK3 {α:Type} {p:α→Bool} {l:List α} (h:leb 0 (yU p l)=false):yU p l= -1:=by
 unfold yU at h ⊢;cases ha:l.any p
 ·rfl
 ·rw[ha,cond_true,zk2 (show(0:Int)≤((l.takeWhile (fun x=> !p x)).length:Int)by omega)]at h; cases h
theorem yXa {α:Type} {p:α→Bool}: ∀{l:List α},leb 0 (yU p l)=true→(l.take ((yU p l).toNat+1)).filter (fun x=> !p x)=l.take (yU p l).toNat
 | [],h=>by rw[yW9]at h; cases h
 | x::l,h=>by
  rw[yub]at h ⊢;cases hx:p x
  ·rw[hx]at h
   cases hl:leb 0 (yU p l)
   ·rw[hl]at h; cases h
   ·have h4:=zj7.1 hl
    simp only[cond_false,cond_true];rw[show(yU p l+1).toNat=(yU p l).toNat+1 by omega,List.take_succ_cons,List.take_succ_cons,List.filter_cons,hx,yXa hl]; rfl
  ·simp only[cond_true]
   show List.filter (fun x=> !p x) [x]= [];rw[List.filter_cons,hx]; rfl
theorem y2B {α:Type} {p:α→Bool} {l:List α} (h:leb 0 (yU p l)=false):l.filter (fun x=> !p x)=l:=by
 rw[List.filter_eq_self];intro x hx;unfold yU at h;cases ha:l.any p
 ·have:=List.any_eq_false.1 ha x hx
  simpa using this
 ·rw[ha,cond_true,zk2 (show(0:Int)≤((l.takeWhile (fun x=> !p x)).length:Int)by omega)]at h; cases h
def yaa (a:dA):dA:=(a.1,a.2.1,a.2.2.1,a.2.2.2.1,a.2.2.2.2.1,i64.wrap (a.2.2.2.2.2.1+1),a.2.2.2.2.2.2)
def yX (s:Int):Int:=bif leb 0 s&&leb s 1099511627776 then s+6 else -1
def yct (a:dA) (m s:Int):Bool:=inb m a.2.2.1.length&&(!(nth a.2.2.1 m yh).2.2.1&&(m !=a.2.2.2.1||ltb s a.2.2.2.2.1))
def ydh (a:dA) (m s:Int):List Int×Bool:=yhv (nth a.2.2.1 m yh) (yX s)
def yu (a:dA) (m s:Int):Bool:=yct a m s&&((ydh a m s).2&&((ydh a m s).1.length:Int)==1)
def yiW (a:dA) (m s:Int):Int:=bif yu a m s then nth (ydh a m s).1 0 0 else 0
def xw (a b:Int):Int:=i64.wrap ((BitVec.ofInt IntKind.i64.bits a ^^^ BitVec.ofInt IntKind.i64.bits b).toNat:Int)
def yao (l:List Int):Int:=l.foldl xw 0
def yCf (a:dA) (s:Int):Bool:=(List.range a.2.2.1.length).all (fun(i:Nat)=>yu a i s)
def yqH (a:dA) (s:Int):Int×Bool:=bif yCf a s then(yao ((List.range a.2.2.1.length).map (fun(i:Nat)=>yiW a i s)),true)else(0,false)
def yRR (a:dA):Bool:=(List.range (min a.2.1.2.toNat 20)).all (fun(s:Nat)=> !((yqH a s).2&&(yqH a s).1 !=0))
def bv (x:Int):BitVec 64:=BitVec.ofInt 64 x
theorem yZe (a b:Int):xw a b=(bv a ^^^ bv b).toInt:=by
 show i64.wrap ((bv a ^^^ bv b).toNat:Int)=_;rw[IntKind.wrap_i64,BitVec.toInt_eq_toNat_cond];have:=(bv a ^^^ bv b).isLt;split<;>omega
theorem ywo (v:BitVec 64):bv v.toInt=v:=by unfold bv; simp
theorem y2T {x:Int} (h: -9223372036854775808≤x) (h2:x≤9223372036854775807):(bv x).toInt=x:=by
 unfold bv;rw[BitVec.toInt_ofInt,Int.bmod_def];simp only[Nat.reducePow]at *;omega
def yfd (l:List Int):BitVec 64:=l.foldl (fun v x=>v ^^^ bv x) 0#64
theorem yn8 (l:List Int):yao l=(yfd l).toInt:=by
 have: ∀(l:List Int) (v:BitVec 64),l.foldl xw v.toInt=(l.foldl (fun v x=>v ^^^ bv x) v).toInt:=by
  intro l
  induction l with
  | nil=>intro _; rfl
  | cons x l ih =>
   intro v;rw[List.foldl_cons,List.foldl_cons,yZe,ywo,ih]
 have h:=this l 0#64;rwa[show(0#64:BitVec 64).toInt=0 from by decide]at h
theorem y2l (l:List Int) (x:Int):yfd (l++ [x])=yfd l ^^^ bv x:=by unfold yfd; rw[List.foldl_append]; rfl
theorem y22 {i:Int} {n:Nat} (h: ¬(0≤i∧i<(n:Int))):inb i n=false:=by
 cases e:inb i n
 ·rfl
 ·exact absurd (zj6.1 e) h
def ynw (l:List Int) (k:Int):Int:=bif inb k l.length then xw (yao l) (nth l k 0)else yao l
theorem yXs (u v:BitVec 64):u ^^^ v ^^^ v=u:=by rw[BitVec.xor_assoc,BitVec.xor_self,BitVec.xor_zero]
theorem y1X (l:List Int) (k:Int):(List.range l.length).foldl (fun n (i:Nat)=>bif(i:Int) !=k then xw n (nth l i 0)else n) 0=ynw l k:=by
 have: ∀n,n≤l.length→(List.range n).foldl (fun n (i:Nat)=>bif(i:Int) !=k then xw n (nth l i 0)else n) 0=(bif inb k n then yfd (l.take n) ^^^ bv (nth l k 0)else yfd (l.take n)).toInt:=by
  intro n
  induction n with
  | zero =>
   intro _;rw[y22 (show ¬(0≤k∧k<((0:Nat):Int))by omega)];rfl
  | succ n ih =>
   intro hn;rw[List.range_succ,List.foldl_append,List.foldl_cons,List.foldl_nil,ih (by omega),← y2a l 0 (show n<l.length by omega),y2l];by_cases hk:(n:Int)=k
   ·subst hk
    rw[show((n:Int) !=n)=false by simp,cond_false,y22 (show ¬(0≤(n:Int)∧(n:Int)<(n:Int))by omega),show inb (n:Int) (n+1)=true from zkR (Nat.lt_succ_self n),cond_false,cond_true,yXs]
   ·rw[show((n:Int) !=k)=true from bne_iff_ne.2 hk,cond_true,show inb k (n+1)=inb k n by rw[Bool.eq_iff_iff,zj6,zj6]; omega,yZe,ywo]
    cases inb k n
    ·rfl
    ·rw[cond_true,cond_true,BitVec.xor_assoc,BitVec.xor_comm (bv (nth l k 0)),← BitVec.xor_assoc]
 rw[this l.length (Nat.le_refl _),List.take_length];unfold ynw;rw[yZe,yn8,ywo];cases inb k l.length<;>rfl
theorem y1W {l:List Int} {k:Int} (h:inb k l.length=true) (h0:nth l k 0=0):ynw l k=yao l:=by
 unfold ynw;rw[h,h0,cond_true,yZe,yn8,ywo,show bv 0=0#64 by decide,BitVec.xor_zero]
theorem yW8 {α β:Type} (f:α→List β): ∀(l:List α) (s:List β),l.foldl (fun s i=>s++f i) s=s++l.flatMap f
 | [],s=>by simp
 | x::l,s=>by rw[List.foldl_cons,yW8 f l]; simp
abbrev ycC:dA:=(0,(0,0),[],0,0,0,0,0,[],0,false,false)
def ygW (b:Nat→Bool) (c:List dW) (l:List (List Int)) (i:Nat):List (List Int):=bif b i then l.set (nth c i (0,[])).1.toNat (nth c i (0,[])).2 else l
def yjK (b:Nat→Bool) (c:List dW) (l:List (List Int)):List (List Int):=(List.range c.length).foldl (ygW b c) l
theorem ycv {m:dM} (h:yz m=true):m.1.all yan=true∧m.2.1.all (yrX m.1.length)=true∧yoz m.1.length m.2.2.2=true∧1≤m.1.length∧m.1.length≤20∧m.2.1.length≤60:=by
 simp only[yz,Bool.and_eq_true,zj7]at h;exact⟨h.1.1.1.1.1,h.1.1.1.1.2,h.1.1.1.2,by omega,by omega,by omega⟩
theorem yZ1 {m:dM} (h:yz m=true) {i:Nat} (hi:i<m.2.1.length):inb (nth m.2.1 i (0,[])).1 m.1.length=true∧yan (nth m.2.1 i (0,[])).2=true:=by
 have h1:=List.all_eq_true.1 (ycv h).2.1 m.2.1[i] (List.getElem_mem hi);rw[zkS,zkJ hi];exact Bool.and_eq_true_iff.1 h1
theorem yBd {b:Nat→Bool} {c:List dW} {l:List (List Int)} {i:Nat}:(ygW b c l i).length=l.length:=by
 unfold ygW; cases b i
 ·rfl
 ·exact List.length_set
theorem yRU {α β:Type} (P:β→Prop) (f:β→α→β) (h: ∀s x,P s→P (f s x)): ∀(l:List α) (s:β),P s→P (l.foldl f s)
 | [],_,hs=>hs
 | x::l,s,hs=>yRU P f h l (f s x) (h s x hs)
theorem yw7 {b:Nat→Bool} {c:List dW} {l:List (List Int)}:(yjK b c l).length=l.length :=
 yRU (fun x=>x.length=l.length) _ (fun s x hs=>by rw[yBd]; exact hs) _ l rfl
theorem y0A {P:List Int→Prop} {b:Nat→Bool} {c:List dW} {l:List (List Int)} (hl: ∀x∈l,P x) (hc: ∀w∈c,P w.2): ∀x∈yjK b c l,P x:=by
 have: ∀(n:Nat),n≤c.length→ ∀x∈(List.range n).foldl (ygW b c) l,P x:=by
  intro n
  induction n with
  | zero=>intro _; exact hl
  | succ n ih =>
   intro hn x hx;rw[List.range_succ,List.foldl_append,List.foldl_cons,List.foldl_nil,ygW]at hx;cases hb:b n
   ·rw[hb]at hx; exact ih (by omega) x hx
   ·rw[hb,cond_true]at hx
    rcases List.mem_or_eq_of_mem_set hx with h | h
    ·exact ih (by omega) x h
    ·rw[h,zkS,zkJ (show n<c.length by omega)]
     exact hc _ (List.getElem_mem _)
 exact this _ (Nat.le_refl _)
def ybu (m:dM) (n:Int) (s:List Int):Bool:=yz m&&(!m.2.2.1&&(inb n m.1.length&&(yan s&&ltb (m.2.1.length:Int) 60)))
def yHT (l:List Int) (n:Int):List Int:=l.filter (· !=n)
def yae (m:dM) (n:Int) (s:List Int):dM×Bool:=bif ybu m n s then((m.1,m.2.1++ [(n,s)],m.2.2.1,yHT m.2.2.2 n),true)else(m,false)
def yy (m:dM):dM:=bif yz m&& !m.2.2.1 then(yjK (fun _=>true) m.2.1 m.1,[],m.2.2.1,m.2.2.2)else m
def ylB (m:dM):dM:=(m.1,[],true,m.2.2.2)
def ymf:Code:=(f49.body).getD .skip
def ysH:Env:=zkw TT [] []
theorem yJH:FrOk prog ⟨ysH,26,fun _=>none⟩ ymf:=zkA mixed yc trivial
def yzV:Nat→Option Seg:=fun _=>none
def ycT:Shape:=⟨[(0,false,[.br tI]),(1,false,[.br tI]),(5,false,[.int .i64])],[],[]⟩
def yh3:Shape:=⟨[(0,false,[.br tI]),(1,false,[.br tI]),(5,false,[.ci .i64 0])],[],[]⟩
def yhO:Shape:=⟨[],[],[]⟩
def yik:Shape:=⟨[(4,false,[.bool])],[],[]⟩
def yl4 (v0 v1:List Int) (v2:Int):Option ((ycT).X ⊕ ((yhO).X ⊕ (yik).X)) :=bif(ltb v2 (v0.length:Int))then bif(inb v2 v0.length)then bif(inb v2 v1.length)then bif((nth v0 v2 0) !=(nth v1 v2 0))then some (.inr (.inr (((false,()),()),(),()))) else some (.inl (((v0,()),(v1,()),((i64.wrap (v2+1)),()),()),(),())) else none else none else some (.inr (.inl ((),(),())))
def ybL (x:(ycT).X):=yl4 x.1.1.1 x.1.2.1.1 x.1.2.2.1.1
def yu9 (x:(yh3).X):(ycT).X:=(((x.1.1.1,()),(x.1.2.1.1,()),(0,()),()),(),())
def yxl:Code:=(zd7 ymf 64 116).getD .skip
theorem yJa:zd7 ymf 64 29=some (.block 0 (.loop yxl)):=by kernel_rfl
theorem yKK (x:(ycT).X):zhu ⟨ysH,26,yzV⟩ 0 yxl 116 ycT yhO yik x=ybL x:=by kernel_rfl
def yvi (x:(yh3).X):Nat:=18446744073709551616
def ynf (x:(yh3).X):Option ((yhO).X ⊕ (yik).X):=zF ybL (yvi x) (yu9 x)
def yvz:Seg:=⟨yh3,yhO,yik,ynf⟩
def yLl:Nat→Option Seg:=fun q=>bif Nat.beq q 29 then some yvz else yzV q
theorem yJI:FrOk prog ⟨ysH,26,yLl⟩ ymf:=(yJH).loop (sg:=yvz) ycT yu9 (by decide) yJa ybL yvi (by decide) (fun _=>rfl) (fun x r _ h=>h) yKK
abbrev ymv:List Par:= [.rd tL,.rd tL]
abbrev ytu:List OT:= [⟨false,tB,.fz⟩]
def ypI (a0 a1:List Int):Option (zaY ytu×zak ymv) :=bif((a0.length:Int) !=(a1.length:Int))then some ((false,()),()) else zkt (ynf (((a0,()),(a1,()),((),()),()),(),())) (fun y0 =>some ((true,()),())) (fun y0 =>some ((y0.1.1.1,()),()))
theorem yMZ:ConOk prog 49 ⟨ymv,ytu,fun x=>ypI x.1 x.2.1⟩:=zkI (yJI) func49 ntmps49.symm fun x=>by kernel_rfl
def yau (a0 a1:List Int):Bool:=decide (a0=a1)
theorem yPN (a0 a1:List Int) (hk:zjx ymv (a0,a1,())):ypI a0 a1=(fun n=>some ((n,()),())) (yau a0 a1):=by
 have hb:a0.length*8≤2^47:=hk.1.1
 have hl:a0.length=a1.length→ynf (((a0,()),(a1,()),((),()),()),(),())=some (bif(List.range a0.length).any (fun i=>a0.getD i 0 !=a1.getD i 0)then .inr (((false,()),()),(),())else .inl ((),(),())):=fun hL =>
  zji (step:=ybL) (fun i=>(((a0,()),(a1,()),((i:Int),()),()),(),())) a0.length (fun i=>a0.getD i 0 !=a1.getD i 0) _ _ (fun i hi=>by
   simp only[ybL,yl4,zkR hi,zkR (hL ▸ hi),zkS,zky (show(i:Int)<a0.length by omega),cond_true,wq ((i:Int)+1) (by omega) (by omega),Int.natCast_add,Int.natCast_one]
   cases(a0.getD i 0 !=a1.getD i 0)<;>rfl) (by simp only[ybL,yl4,zk3 (Int.le_refl _),cond_false]) _ (by show _<18446744073709551616; omega)
 unfold ypI yau;by_cases h:a0.length=a1.length
 ·rw[show((a0.length:Int) !=(a1.length:Int))=false by simp[h],zkZ,hl h]
  by_cases e:a0=a1
  ·subst e
   have:(List.range a0.length).any (fun i=>a0.getD i 0 !=a0.getD i 0)=false:=by simp
   rw[this,decide_eq_true rfl];rfl
  ·have:(List.range a0.length).any (fun i=>a0.getD i 0 !=a1.getD i 0)=true:=by
    rcases Bool.eq_false_or_eq_true ((List.range a0.length).any (fun i=>a0.getD i 0 !=a1.getD i 0))with h2 | h2
    ·exact h2
    ·refine absurd (List.ext_getElem h fun i h3 h4=> ?_) e
     rw[List.any_eq_false]at h2;have:=h2 i (List.mem_range.2 h3);simpa [h3,h4]using this
   rw[this,decide_eq_false e];rfl
 ·rw[show((a0.length:Int) !=(a1.length:Int))=true from bne_iff_ne.2 (by omega),zk0,decide_eq_false (fun e=>h (congrArg _ e))]
theorem yly (a:List Int):yau a a=true:=by unfold yau; simp
def yjf:Con:=⟨ymv,ytu,fun x=>(fun n=>some ((n,()),())) (yau x.1 x.2.1)⟩
theorem yrp:ConOk prog 49 yjf:=(yMZ).mono (fun x r hk h=>(yPN x.1 x.2.1 hk).trans h)
def yeq:Code:=(f102.body).getD .skip
def yjn:Env:=zkw TT [(49,yjf)] []
theorem yL2:FrOk prog ⟨yjn,93,fun _=>none⟩ yeq:=zkA mixed yc ⟨yrp,trivial⟩
def yBr:Nat→Option Seg:=fun _=>none
def ybX:Shape:=⟨[(2,false,[.ptr 0 0]),(3,false,[.ptr 64 0]),(5,false,[.int .i64])],[(0,[.br tL,.br tW,.bool,.br tI]),(64,[.br tL,.br tW,.bool,.br tI])],[]⟩
def yfS:Shape:=⟨[(2,false,[.ptr 0 0]),(3,false,[.ptr 64 0]),(5,false,[.ci .i64 0])],[(0,[.br tL,.br tW,.bool,.br tI]),(64,[.br tL,.br tW,.bool,.br tI])],[]⟩
def yfG:Shape:=⟨[(2,false,[.ptr 0 0]),(3,false,[.ptr 64 0])],[(0,[.br tL,.br tW,.bool,.br tI]),(64,[.br tL,.br tW,.bool,.br tI])],[]⟩
def yi9:Shape:=⟨[(4,false,[.bool])],[],[]⟩
abbrev ynE (v0:Int) (v1 v2:dM):(ybX).X:=((((),()),((),()),(v0,()),()),((v1.1,v1.2.1,v1.2.2.1,v1.2.2.2,()),(v2.1,v2.2.1,v2.2.2.1,v2.2.2.2,()),()),())
abbrev yKb (v0 v1:dM):(yfS).X:=((((),()),((),()),((),()),()),((v0.1,v0.2.1,v0.2.2.1,v0.2.2.2,()),(v1.1,v1.2.1,v1.2.2.1,v1.2.2.2,()),()),())
abbrev yx7 (v0 v1:dM):(yfG).X:=((((),()),((),()),()),((v0.1,v0.2.1,v0.2.2.1,v0.2.2.2,()),(v1.1,v1.2.1,v1.2.2.1,v1.2.2.2,()),()),())
def yn2 (v0:Int) (v1:List (List Int)) (v2:List dW) (v3:Bool) (v4:List Int) (v5:List (List Int)) (v6:List dW) (v7:Bool) (v8:List Int):Option ((ybX).X ⊕ ((yfG).X ⊕ (yi9).X)) :=bif(ltb v0 (v1.length:Int))then bif(inb v0 v1.length)then bif(inb v0 v5.length)then let r3:=yau (nth v1 v0 []) (nth v5 v0 []);bif(!r3)then some (.inr (.inr (((false,()),()),(),()))) else some (.inl ((((),()),((),()),((i64.wrap (v0+1)),()),()),((v1,v2,v3,v4,()),(v5,v6,v7,v8,()),()),())) else none else none else some (.inr (.inl ((((),()),((),()),()),((v1,v2,v3,v4,()),(v5,v6,v7,v8,()),()),())))
def ycl (x:(ybX).X):=yn2 x.1.2.2.1.1 x.2.1.1.1 x.2.1.1.2.1 x.2.1.1.2.2.1 x.2.1.1.2.2.2.1 x.2.1.2.1.1 x.2.1.2.1.2.1 x.2.1.2.1.2.2.1 x.2.1.2.1.2.2.2.1
def yxD (x:(yfS).X):(ybX).X:=((((),()),((),()),(0,()),()),((x.2.1.1.1,x.2.1.1.2.1,x.2.1.1.2.2.1,x.2.1.1.2.2.2.1,()),(x.2.1.2.1.1,x.2.1.2.1.2.1,x.2.1.2.1.2.2.1,x.2.1.2.1.2.2.2.1,()),()),())
def yz7:Code:=(zd7 yeq 64 116).getD .skip
theorem yLB:zd7 yeq 64 29=some (.block 0 (.loop yz7)):=by kernel_rfl
theorem yNo (x:(ybX).X):zhu ⟨yjn,93,yBr⟩ 0 yz7 116 ybX yfG yi9 x=ycl x:=by kernel_rfl
def yxU (x:(yfS).X):Nat:=18446744073709551616
def yo0 (x:(yfS).X):Option ((yfG).X ⊕ (yi9).X):=zF ycl (yxU x) (yxD x)
def yyn:Seg:=⟨yfS,yfG,yi9,yo0⟩
def yqJ:Nat→Option Seg:=fun q=>bif Nat.beq q 29 then some yyn else yBr q
theorem yL3:FrOk prog ⟨yjn,93,yqJ⟩ yeq:=(yL2).loop (sg:=yyn) ybX yxD (by decide) yLB ycl yxU (by decide) (fun _=>rfl) (fun x r _ h=>h) yNo
def ybY:Shape:=⟨[(2,false,[.ptr 0 0]),(3,false,[.ptr 64 0]),(6,false,[.int .i64])],[(0,[.br tL,.br tW,.bool,.br tI]),(64,[.br tL,.br tW,.bool,.br tI])],[]⟩
def yfT:Shape:=⟨[(2,false,[.ptr 0 0]),(3,false,[.ptr 64 0]),(6,false,[.ci .i64 0])],[(0,[.br tL,.br tW,.bool,.br tI]),(64,[.br tL,.br tW,.bool,.br tI])],[]⟩
def yfH:Shape:=⟨[],[],[]⟩
def yja:Shape:=⟨[(4,false,[.bool])],[],[]⟩
abbrev ynF (v0:Int) (v1 v2:dM):(ybY).X:=((((),()),((),()),(v0,()),()),((v1.1,v1.2.1,v1.2.2.1,v1.2.2.2,()),(v2.1,v2.2.1,v2.2.2.1,v2.2.2.2,()),()),())
abbrev yKc (v0 v1:dM):(yfT).X:=((((),()),((),()),((),()),()),((v0.1,v0.2.1,v0.2.2.1,v0.2.2.2,()),(v1.1,v1.2.1,v1.2.2.1,v1.2.2.2,()),()),())
abbrev yx8  :(yfH).X:=((),(),())
def yn3 (v0:Int) (v1:List (List Int)) (v2:List dW) (v3:Bool) (v4:List Int) (v5:List (List Int)) (v6:List dW) (v7:Bool) (v8:List Int):Option ((ybY).X ⊕ ((yfH).X ⊕ (yja).X)) :=bif(ltb v0 (v2.length:Int))then bif(inb v0 v2.length)then bif(inb v0 v6.length)then bif(!((nth v2 v0 (0,[])).1 !=(nth v6 v0 (0,[])).1))then bif(inb v0 v2.length)then bif(inb v0 v6.length)then let r6:=yau ((nth v2 v0 (0,[])).2) ((nth v6 v0 (0,[])).2);bif(!r6)then some (.inr (.inr (((false,()),()),(),()))) else some (.inl ((((),()),((),()),((i64.wrap (v0+1)),()),()),((v1,v2,v3,v4,()),(v5,v6,v7,v8,()),()),())) else none else none else some (.inr (.inr (((false,()),()),(),()))) else none else none else some (.inr (.inl ((),(),())))
def ycm (x:(ybY).X):=yn3 x.1.2.2.1.1 x.2.1.1.1 x.2.1.1.2.1 x.2.1.1.2.2.1 x.2.1.1.2.2.2.1 x.2.1.2.1.1 x.2.1.2.1.2.1 x.2.1.2.1.2.2.1 x.2.1.2.1.2.2.2.1
def yxE (x:(yfT).X):(ybY).X:=((((),()),((),()),(0,()),()),((x.2.1.1.1,x.2.1.1.2.1,x.2.1.1.2.2.1,x.2.1.1.2.2.2.1,()),(x.2.1.2.1.1,x.2.1.2.1.2.1,x.2.1.2.1.2.2.1,x.2.1.2.1.2.2.2.1,()),()),())
def yz8:Code:=(zd7 yeq 64 244).getD .skip
theorem yLC:zd7 yeq 64 61=some (.block 2 (.loop yz8)):=by kernel_rfl
theorem yNp (x:(ybY).X):zhu ⟨yjn,93,yqJ⟩ 2 yz8 244 ybY yfH yja x=ycm x:=by kernel_rfl
def yxV (x:(yfT).X):Nat:=18446744073709551616
def yo1 (x:(yfT).X):Option ((yfH).X ⊕ (yja).X):=zF ycm (yxV x) (yxE x)
def yyo:Seg:=⟨yfT,yfH,yja,yo1⟩
def yNP:Nat→Option Seg:=fun q=>bif Nat.beq q 61 then some yyo else yqJ q
theorem yL4:FrOk prog ⟨yjn,93,yNP⟩ yeq:=(yL3).loop (sg:=yyo) ybY yxE (by decide) yLC ycm yxV (by decide) (fun _=>rfl) (fun x r _ h=>h) yNp
abbrev yvX:List Par:= [.rd tM,.rd tM]
abbrev ywf:List OT:= [⟨false,tB,.fz⟩]
def yg6 (a0 a1:dM):Option (zaY ywf×zak yvX) :=bif(!((a0.1.length:Int) !=(a1.1.length:Int)))then bif(!((a0.2.1.length:Int) !=(a1.2.1.length:Int)))then bif(!(!(a0.2.2.1==a1.2.2.1)))then let r1:=yau a0.2.2.2 a1.2.2.2;bif(!r1)then some ((false,()),()) else zkt (yo0 ((((),()),((),()),((),()),()),((a0.1,a0.2.1,a0.2.2.1,a0.2.2.2,()),(a1.1,a1.2.1,a1.2.2.1,a1.2.2.2,()),()),())) (fun y3 =>zkt (yo1 ((((),()),((),()),((),()),()),((y3.2.1.1.1,y3.2.1.1.2.1,y3.2.1.1.2.2.1,y3.2.1.1.2.2.2.1,()),(y3.2.1.2.1.1,y3.2.1.2.1.2.1,y3.2.1.2.1.2.2.1,y3.2.1.2.1.2.2.2.1,()),()),())) (fun y6 =>some ((true,()),())) (fun y6 =>some ((y6.1.1.1,()),()))) (fun y3 =>some ((y3.1.1.1,()),())) else some ((false,()),()) else some ((false,()),()) else some ((false,()),())
theorem yQa:ConOk prog 102 ⟨yvX,ywf,fun x=>yg6 x.1 x.2.1⟩:=zkI (yL4) func102 ntmps102.symm fun x=>by kernel_rfl
def yCz:Con:=⟨yvX,ywf,fun x=>yg6 x.1 x.2.1⟩
theorem yTY:ConOk prog 102 yCz:=yQa
theorem y2P (m:dM) (h1:m.1.length≤1000000000) (h2:m.2.1.length≤1000000000):yg6 m m=some ((true,()),()):=by
 have l1:yo0 (yKb m m)=some (.inl (yx7 m m)) :=
  zkD (step:=ycl) m.1.length (fun i (_:Unit)=>ynE i m m) (fun _ _=>()) (fun _ _=>True) (fun _=> .inl (yx7 m m)) (fun i s hi _=>⟨by
   simp only[ycl,ynE,yn2,zky (show(i:Int)<m.1.length by omega),cond_true,wq ((i:Int)+1) (by omega) (by omega),Int.natCast_add,Int.natCast_one,Int.toNat_natCast,zkR hi,yly,Bool.not_true,cond_false],trivial⟩) (fun s _=>by simp only[ycl,ynE,yn2,zk3 (Int.le_refl _),cond_false]) () trivial 18446744073709551616 (by omega)
 have l2:yo1 (yKc m m)=some (.inl yx8) :=
  zkD (step:=ycm) m.2.1.length (fun i (_:Unit)=>ynF i m m) (fun _ _=>()) (fun _ _=>True) (fun _=> .inl yx8) (fun i s hi _=>⟨by
   simp only[ycm,ynF,yn3,zky (show(i:Int)<m.2.1.length by omega),cond_true,wq ((i:Int)+1) (by omega) (by omega),Int.natCast_add,Int.natCast_one,Int.toNat_natCast,zkR hi,yly,bne_self_eq_false,Bool.not_true,Bool.not_false,cond_true,cond_false],trivial⟩) (fun s _=>by simp only[ycm,ynF,yn3,zk3 (Int.le_refl _),cond_false]) () trivial 18446744073709551616 (by omega)
 unfold yg6;simp only[bne_self_eq_false,beq_self_eq_true,yly,Bool.not_true,Bool.not_false,cond_true,cond_false];refine(congrArg (fun z=>zkt z _ _) l1).trans ?_;rw[zkN];exact(congrArg (fun z=>zkt z _ _) l2).trans rfl
def ymg:Code:=(f31.body).getD .skip
def ysI:Env:=zkw TT [(102,yCz)] []
theorem yJJ:FrOk prog ⟨ysI,27,fun _=>none⟩ ymg:=zkA mixed yc ⟨yTY,trivial⟩
def yzW:Nat→Option Seg:=fun _=>none
def ybs:Shape:=⟨[(0,false,[.br tM]),(1,false,[.br tM]),(5,false,[.int .i64])],[],[]⟩
def yeW:Shape:=⟨[(0,false,[.br tM]),(1,false,[.br tM]),(5,false,[.ci .i64 0])],[],[]⟩
def yeO:Shape:=⟨[],[],[]⟩
def yil:Shape:=⟨[(4,false,[.bool])],[],[]⟩
abbrev ylQ (v0 v1:List dM) (v2:Int):(ybs).X:=(((v0,()),(v1,()),(v2,()),()),(),())
abbrev yIw (v0 v1:List dM):(yeW).X:=(((v0,()),(v1,()),((),()),()),(),())
abbrev yvo  :(yeO).X:=((),(),())
def yl5 (v0 v1:List dM) (v2:Int):Option ((ybs).X ⊕ ((yeO).X ⊕ (yil).X)) :=bif(ltb v2 (v0.length:Int))then bif(inb v2 v0.length)then bif(inb v2 v1.length)then bnd (yg6 ((nth v0 v2 ([],[],false,[])).1,((nth v0 v2 ([],[],false,[])).2).1,(((nth v0 v2 ([],[],false,[])).2).2)) ((nth v1 v2 ([],[],false,[])).1,((nth v1 v2 ([],[],false,[])).2).1,(((nth v1 v2 ([],[],false,[])).2).2))) fun r2 =>bif(!r2.1.1)then some (.inr (.inr (((false,()),()),(),()))) else some (.inl (((v0,()),(v1,()),((i64.wrap (v2+1)),()),()),(),())) else none else none else some (.inr (.inl ((),(),())))
def ybM (x:(ybs).X):=yl5 x.1.1.1 x.1.2.1.1 x.1.2.2.1.1
def yva (x:(yeW).X):(ybs).X:=(((x.1.1.1,()),(x.1.2.1.1,()),(0,()),()),(),())
def yxm:Code:=(zd7 ymg 64 116).getD .skip
theorem yJb:zd7 ymg 64 29=some (.block 0 (.loop yxm)):=by kernel_rfl
theorem yKL (x:(ybs).X):zhu ⟨ysI,27,yzW⟩ 0 yxm 116 ybs yeO yil x=ybM x:=by kernel_rfl
def yvj (x:(yeW).X):Nat:=18446744073709551616
def yng (x:(yeW).X):Option ((yeO).X ⊕ (yil).X):=zF ybM (yvj x) (yva x)
def yvA:Seg:=⟨yeW,yeO,yil,yng⟩
def yLm:Nat→Option Seg:=fun q=>bif Nat.beq q 29 then some yvA else yzW q
theorem yJK:FrOk prog ⟨ysI,27,yLm⟩ ymg:=(yJJ).loop (sg:=yvA) ybs yva (by decide) yJb ybM yvj (by decide) (fun _=>rfl) (fun x r _ h=>h) yKL
abbrev ys8:List Par:= [.rd tMs,.rd tMs]
abbrev ytv:List OT:= [⟨false,tB,.fz⟩]
def ydQ (a0 a1:List dM):Option (zaY ytv×zak ys8) :=bif((a0.length:Int) !=(a1.length:Int))then some ((false,()),()) else zkt (yng (((a0,()),(a1,()),((),()),()),(),())) (fun y2 =>some ((true,()),())) (fun y2 =>some ((y2.1.1.1,()),()))
theorem yM0:ConOk prog 31 ⟨ys8,ytv,fun x=>ydQ x.1 x.2.1⟩:=zkI (yJK) func31 ntmps31.symm fun x=>by kernel_rfl
def ypf:Con:=⟨ys8,ytv,fun x=>ydQ x.1 x.2.1⟩
theorem yDv:ConOk prog 31 ypf:=yM0
theorem yXm (l:List dM) (h:l.length≤1000000000) (hm: ∀m∈l,m.1.length≤1000000000∧m.2.1.length≤1000000000):ydQ l l=some ((true,()),()):=by
 have l1:yng (yIw l l)=some (.inl yvo) :=
  zkD (step:=ybM) l.length (fun i (_:Unit)=>ylQ l l i) (fun _ _=>()) (fun _ _=>True) (fun _=> .inl yvo) (fun i s hi _=>⟨by
   have hn:=ywx (P:=fun m:dM=>m.1.length≤1000000000∧m.2.1.length≤1000000000) (d:=yh) (zkR hi) hm;simp only[ybM,ylQ,yl5,zky (show(i:Int)<l.length by omega),cond_true,wq ((i:Int)+1) (by omega) (by omega),Int.natCast_add,Int.natCast_one,Int.toNat_natCast,zkR hi,zkX]
   rw[y2P _ hn.1 hn.2]; rfl,trivial⟩) (fun s _=>by simp only[ybM,ylQ,yl5,zk3 (Int.le_refl _),cond_false]) () trivial 18446744073709551616 (by omega)
 unfold ydQ;rw[bne_self_eq_false,cond_false];exact(congrArg (fun z=>zkt z _ _) l1).trans rfl
def ykq:Code:=(f94.body).getD .skip
def yqK:Env:=zkw TT [(49,yjf)] []
theorem yIl:FrOk prog ⟨yqK,42,fun _=>none⟩ ykq:=zkA mixed yc ⟨yrp,trivial⟩
def yxa:Nat→Option Seg:=fun _=>none
def ya0:Shape:=⟨[(0,false,[.br tW]),(1,false,[.br tW]),(5,false,[.int .i64])],[],[]⟩
def yej:Shape:=⟨[(0,false,[.br tW]),(1,false,[.br tW]),(5,false,[.ci .i64 0])],[],[]⟩
def yee:Shape:=⟨[],[],[]⟩
def yhg:Shape:=⟨[(4,false,[.bool])],[],[]⟩
abbrev ykN (v0 v1:List dW) (v2:Int):(ya0).X:=(((v0,()),(v1,()),(v2,()),()),(),())
abbrev yHz (v0 v1:List dW):(yej).X:=(((v0,()),(v1,()),((),()),()),(),())
abbrev yuk  :(yee).X:=((),(),())
def yk0 (v0 v1:List dW) (v2:Int):Option ((ya0).X ⊕ ((yee).X ⊕ (yhg).X)) :=bif(ltb v2 (v0.length:Int))then bif(inb v2 v0.length)then bif(inb v2 v1.length)then bif(!((nth v0 v2 (0,[])).1 !=(nth v1 v2 (0,[])).1))then bif(inb v2 v0.length)then bif(inb v2 v1.length)then let r2:=yau ((nth v0 v2 (0,[])).2) ((nth v1 v2 (0,[])).2);bif(!r2)then some (.inr (.inr (((false,()),()),(),()))) else some (.inl (((v0,()),(v1,()),((i64.wrap (v2+1)),()),()),(),())) else none else none else some (.inr (.inr (((false,()),()),(),()))) else none else none else some (.inr (.inl ((),(),())))
def ybi (x:(ya0).X):=yk0 x.1.1.1 x.1.2.1.1 x.1.2.2.1.1
def yt2 (x:(yej).X):(ya0).X:=(((x.1.1.1,()),(x.1.2.1.1,()),(0,()),()),(),())
def yuV:Code:=(zd7 ykq 64 116).getD .skip
theorem yIa:zd7 ykq 64 29=some (.block 0 (.loop yuV)):=by kernel_rfl
theorem yIP (x:(ya0).X):zhu ⟨yqK,42,yxa⟩ 0 yuV 116 ya0 yee yhg x=ybi x:=by kernel_rfl
def yt7 (x:(yej).X):Nat:=18446744073709551616
def ylF (x:(yej).X):Option ((yee).X ⊕ (yhg).X):=zF ybi (yt7 x) (yt2 x)
def yuM:Seg:=⟨yej,yee,yhg,ylF⟩
def yIX:Nat→Option Seg:=fun q=>bif Nat.beq q 29 then some yuM else yxa q
theorem yIm:FrOk prog ⟨yqK,42,yIX⟩ ykq:=(yIl).loop (sg:=yuM) ya0 yt2 (by decide) yIa ybi yt7 (by decide) (fun _=>rfl) (fun x r _ h=>h) yIP
abbrev yqX:List Par:= [.rd tWs,.rd tWs]
abbrev yq0:List OT:= [⟨false,tB,.fz⟩]
def yfa (a0 a1:List dW):Option (zaY yq0×zak yqX) :=bif((a0.length:Int) !=(a1.length:Int))then some ((false,()),()) else zkt (ylF (((a0,()),(a1,()),((),()),()),(),())) (fun y2 =>some ((true,()),())) (fun y2 =>some ((y2.1.1.1,()),()))
theorem yKu:ConOk prog 94 ⟨yqX,yq0,fun x=>yfa x.1 x.2.1⟩:=zkI (yIm) func94 ntmps94.symm fun x=>by kernel_rfl
def yxr:Con:=⟨yqX,yq0,fun x=>yfa x.1 x.2.1⟩
theorem yNc:ConOk prog 94 yxr:=yKu
theorem y1s (l:List dW) (h:l.length≤1000000000):yfa l l=some ((true,()),()):=by
 have l1:ylF (yHz l l)=some (.inl yuk) :=
  zkD (step:=ybi) l.length (fun i (_:Unit)=>ykN l l i) (fun _ _=>()) (fun _ _=>True) (fun _=> .inl yuk) (fun i s hi _=>⟨by
   simp only[ybi,ykN,yk0,zky (show(i:Int)<l.length by omega),cond_true,wq ((i:Int)+1) (by omega) (by omega),Int.natCast_add,Int.natCast_one,Int.toNat_natCast,zkR hi,yly,bne_self_eq_false,Bool.not_true,Bool.not_false,cond_true,cond_false],trivial⟩) (fun s _=>by simp only[ybi,ykN,yk0,zk3 (Int.le_refl _),cond_false]) () trivial 18446744073709551616 (by omega)
 unfold yfa;rw[bne_self_eq_false,cond_false];exact(congrArg (fun z=>zkt z _ _) l1).trans rfl
def y0p:Code:=(f82.body).getD .skip
def y0r:Env:=zkw TT [] []
theorem yVr:FrOk prog ⟨y0r,15,fun _=>none⟩ y0p:=zkA mixed yc trivial
abbrev yFF:List Par:= [.rd tI,.rd tI,.rd tI]
abbrev yFJ:List OT:= [⟨false,tB,.fz⟩]
def yH4 (a0 a1 a2:Int):Option (zaY yFJ×zak yFF) :=bif(leb a1 a0)then some (((leb a0 a2),()),()) else some ((false,()),())
theorem yYR:ConOk prog 82 ⟨yFF,yFJ,fun x=>yH4 x.1 x.2.1 x.2.2.1⟩:=zkI (yVr) func82 ntmps82.symm fun x=>by kernel_rfl
def yb (a0 a1 a2:Int):Bool :=bif(leb a1 a0)then (leb a0 a2) else false
def yF:Con:=⟨yFF,yFJ,fun x=>(fun n=>some ((n,()),())) (yb x.1 x.2.1 x.2.2.1)⟩
theorem yZ5 (a0 a1 a2:Int):yH4 a0 a1 a2=(fun n=>some ((n,()),())) (yb a0 a1 a2):=zkV (p:=fun(n:Bool)=>((n,()),())) (zkG (p:=fun(n:Bool)=>((n,()),())) rfl rfl)
theorem yK:ConOk prog 82 yF:=(yYR).mono (fun x r _ h=>(yZ5 x.1 x.2.1 x.2.2.1).trans h)
theorem yud {a b c:Int}:yb a b c=true↔b≤a∧a≤c:=by
 unfold yb;cases h:leb b a
 ·have:=mt zk2 (by rw[h]; simp: ¬leb b a=true)
  simp[this]
 ·simp[zj7,zj7.1 h]
theorem y4c {a b c:Int} (h:b≤a) (h2:a≤c):yb a b c=true:=yud.2 ⟨h,h2⟩
theorem yb6 (x a b:Int):yb x a b=(leb a x&&leb x b):=by
 unfold yb; cases leb a x<;>rfl
theorem ynu {x:Int} {n:Nat} (h:n≤1152921504606846976):yb x 0 (i64.wrap ((n:Int)-1))=inb x n:=by
 rw[wr (by omega) (by omega),Bool.eq_iff_iff,yud,zj6]; omega
def yZl:Code:=(f150.body).getD .skip
def yZy:Env:=zkw TT [(82,yF)] []
theorem ySd:FrOk prog ⟨yZy,11,fun _=>none⟩ yZl:=zkA mixed yc ⟨yK,trivial⟩
abbrev yBM:List Par:= [.rd tG]
abbrev yB2:List OT:= [⟨false,tB,.fz⟩]
def yG4 (a0:dG):Option (zaY yB2×zak yBM) :=let r1:=yb a0.1 3 5;bif r1 then let r2:=yb a0.2 1 8;some ((r2,()),()) else some ((false,()),())
theorem yWh:ConOk prog 150 ⟨yBM,yB2,fun x=>yG4 x.1⟩:=zkI (ySd) func150 ntmps150.symm fun x=>by kernel_rfl
def ye (a0:dG):Bool :=let r1:=yb a0.1 3 5;bif r1 then let r2:=yb a0.2 1 8;r2 else false
def ygj:Con:=⟨yBM,yB2,fun x=>(fun n=>some ((n,()),())) (ye x.1)⟩
theorem yYE (a0:dG):yG4 a0=(fun n=>some ((n,()),())) (ye a0):=zkV (p:=fun(n:Bool)=>((n,()),())) (zkG (p:=fun(n:Bool)=>((n,()),())) rfl rfl)
theorem ylt:ConOk prog 150 ygj:=(yWh).mono (fun x r _ h=>(yYE x.1).trans h)
theorem yj {a:Int×Int}:ye a=true↔(3≤a.1∧a.1≤5)∧1≤a.2∧a.2≤8:=by
 unfold ye;cases h:yb a.1 3 5
 ·have: ¬(3≤a.1∧a.1≤5):=fun e=>by rw[yud.2 e]at h; simp at h
  simp[this]
 ·simp only[cond_true,yud]
  exact⟨fun e=>⟨yud.1 h,e⟩,fun e=>e.2⟩
def ygX (a:dA) (i:Nat):Bool:= !(yz (nth a.2.2.1 i yh))||((((nth a.2.2.1 i yh).1.length:Int) !=6+a.2.1.2)||((nth a.2.2.1 i yh).2.2.1&&(((i:Int) !=a.2.2.2.1)&& !a.2.2.2.2.2.2.2.2.2.2.2)))
def ylg (a:dA):Bool:= !((List.range a.2.2.1.length).any (ygX a))&&(a.2.2.1.length:Int)==a.2.1.1
def yhr (g:dG) (l:List dW) (i:Nat):Bool:= !(leb 0 (nth l i (0,[])).1&&leb (nth l i (0,[])).1 (g.2-1))||(((nth l i (0,[])).2.length:Int) !=g.1-1||(!((nth l i (0,[])).2.all isW)||(decide (0<i)&&leb (nth l i (0,[])).1 (nth l ((i-1:Nat):Int) (0,[])).1)))
def yaq (g:dG) (l:List dW):Bool:= !((List.range l.length).any (yhr g l))
def yO (a:dA):Bool :=ye a.2.1&&((leb 1 a.1&&leb a.1 60000)&&(ylg a&&(yaq a.2.1 a.2.2.2.2.2.2.2.2.1&&((leb (-1) a.2.2.2.1&&leb a.2.2.2.1 (a.2.1.1-1))&&((leb 0 a.2.2.2.2.1&&leb a.2.2.2.2.1 a.2.1.2)&&(!(a.2.2.2.1== -1&&a.2.2.2.2.1 !=0) && ((leb 0 a.2.2.2.2.2.2.1&&leb a.2.2.2.2.2.2.1 60000)&&((leb a.2.2.2.2.2.2.1 a.2.2.2.2.2.1&&leb a.2.2.2.2.2.1 60000)&&(leb a.2.2.2.2.2.1 (a.2.2.2.2.2.2.1+4)&&((leb 0 a.2.2.2.2.2.2.2.1&&leb a.2.2.2.2.2.2.2.1 60000)&&(leb (-1) a.2.2.2.2.2.2.2.2.2.1&&leb a.2.2.2.2.2.2.2.2.2.1 1000)))))))))))
theorem yb3 {a:dA} (h:yO a=true):ye a.2.1=true:=(Bool.and_eq_true_iff.1 h).1
theorem yRL {a:dA} (h:yO a=true):ylg a=true:=by simp only[yO,Bool.and_eq_true]at h; exact h.2.2.1
theorem yEj {a:dA} (h:yO a=true):(a.2.2.1.length:Int)=a.2.1.1:=by have:=yRL h; simp only[ylg,Bool.and_eq_true,beq_iff_eq]at this; exact this.2
theorem yXg {a:dA} (h:ylg a=true) {i:Nat} (hi:i<a.2.2.1.length):yz (nth a.2.2.1 i yh)=true∧((nth a.2.2.1 i yh).1.length:Int)=6+a.2.1.2∧((nth a.2.2.1 i yh).2.2.1=true→(i:Int)=a.2.2.2.1∨a.2.2.2.2.2.2.2.2.2.2.2=true):=by
 simp only[ylg,Bool.and_eq_true,Bool.not_eq_true',List.any_eq_false,List.mem_range]at h;have:=h.1 i hi;simp only[ygX,Bool.not_eq_true,Bool.or_eq_false_iff,Bool.not_eq_false',bne_eq_false_iff_eq,Bool.and_eq_false_iff]at this;refine⟨this.1,this.2.1,fun hf=> ?_⟩;rcases this.2.2 with h1 | h1 | h1
 ·rw[hf]at h1; cases h1
 ·exact .inl h1
 ·exact .inr h1
theorem yVk: ∀{l:List Int} {lo n:Int},l.Pairwise (· < ·)→(∀x∈l,lo≤x∧x<n)→lo≤n→(l.length:Int)≤n-lo
 | [],lo,n,_,_,h=>by simp; omega
 | x::l,lo,n,hp,hx,h=>by
  cases hp with
  | cons h1 h2 =>
   have h3:=hx x List.mem_cons_self;have:=yVk (l:=l) (lo:=x+1) (n:=n) h2 (fun y hy=>⟨h1 y hy,(hx y (List.mem_cons_of_mem _ hy)).2⟩) (by omega);rw[List.length_cons]; omega
theorem yrY {n:Nat} {l:List Int}:yoz n l=true↔(∀x∈l,0≤x∧x<n)∧l.Pairwise (· < ·):=by
 simp only[yoz,Bool.and_eq_true,List.all_eq_true,zj6,decide_eq_true_eq]
theorem yww {m:dM} (h1:m.1.all yan=true) (h2:m.2.1.all (yrX m.1.length)=true) (h3:yoz m.1.length m.2.2.2=true) (h4:1≤m.1.length) (h5:m.1.length≤20) (h6:m.2.1.length≤60):yz m=true:=by
 simp only[yz,h1,h2,h3,Bool.true_and,Bool.and_eq_true,zj7];omega
theorem y1i {m:dM} (b:Nat→Bool) (h:yz m=true):(yjK b m.2.1 m.1).all yan=true:=by
 obtain⟨h1,h2,_⟩:=ycv h;rw[List.all_eq_true];exact y0A (P:=fun x=>yan x=true) (fun x hx=>List.all_eq_true.1 h1 x hx) (fun w hw=>(Bool.and_eq_true_iff.1 (List.all_eq_true.1 h2 w hw)).2)
theorem y0o {m:dM} (n:Int) (s:List Int) (h:yz m=true):yz (yae m n s).1=true:=by
 unfold yae;cases hc:ybu m n s
 ·exact h
 ·simp only[ybu,Bool.and_eq_true,Bool.not_eq_true',zka]at hc
  obtain⟨h1,h2,h3,h4,h5,h6⟩:=ycv h;refine yww h1 ?_ ?_ h4 h5 (by show(m.2.1++ [(n,s)]).length≤60; rw[List.length_append]; simp only[List.length_cons,List.length_nil]; omega)
  ·show(m.2.1++ [(n,s)]).all (yrX m.1.length)=true
   rw[List.all_append,h2];simp[yrX,hc.2.2.1,hc.2.2.2.1]
  ·show yoz m.1.length (yHT m.2.2.2 n)=true
   obtain⟨b1,b2⟩:=yrY.1 h3;exact yrY.2 ⟨fun x hx=>b1 x (List.mem_filter.1 hx).1,b2.filter _⟩
theorem yyu (m:dM) (n:Int) (s:List Int):(yae m n s).1.1=m.1∧(yae m n s).1.2.2.1=m.2.2.1:=by
 unfold yae;cases ybu m n s<;>exact⟨rfl,rfl⟩
theorem y2v {m:dM} (h:yz m=true):yz (yy m)=true:=by
 unfold yy;cases hc:(yz m&& !m.2.2.1)
 ·exact h
 ·obtain⟨h1,h2,h3,h4,h5,h6⟩:=ycv h
  refine yww (y1i _ h) rfl ?_ ?_ ?_ (Nat.zero_le _)
  ·show yoz (yjK _ m.2.1 m.1).length m.2.2.2=true; rw[yw7]; exact h3
  ·show 1≤(yjK _ m.2.1 m.1).length; rw[yw7]; exact h4
  ·show(yjK _ m.2.1 m.1).length≤20; rw[yw7]; exact h5
theorem ykm (m:dM):(yy m).1.length=m.1.length∧(yy m).2.2.1=m.2.2.1:=by
 unfold yy;cases(yz m&& !m.2.2.1)
 ·exact⟨rfl,rfl⟩
 ·exact⟨yw7,rfl⟩
theorem y0P {m:dM} (h:yz m=true):yz (ylB m)=true:=by
 obtain⟨h1,h2,h3,h4,h5,h6⟩:=ycv h;exact yww h1 rfl h3 h4 h5 (Nat.zero_le _)
def y1Y (l:List dM):Prop:= ∀m∈l,yz m=true
theorem y09 {a:dA} (h:yO a=true):y1Y a.2.2.1:=fun m hm=>by
 obtain⟨i,hi,rfl⟩:=List.getElem_of_mem hm;have:=(yXg (yRL h) hi).1;rwa[zkS,zkJ hi]at this
def yue (p:Nat→Bool) (n:Nat):Nat:=((List.range n).filter (fun i=> !p i)).length
theorem yuf (p:Nat→Bool) (n:Nat):yue p (n+1)=bif p n then yue p n else yue p n+1:=by
 unfold yue;rw[List.range_succ,List.filter_append,List.length_append,List.filter_cons];cases p n<;>simp
theorem y0V {α:Type} (A:List α) (y:α) (t:List α) (d:α):(A++y::t).getD A.length d=y:=by
 rw[List.getD_eq_getElem?_getD,List.getElem?_append_right (Nat.le_refl _),Nat.sub_self]; rfl
theorem y00 {α:Type} (A:List α) (y z:α) (t:List α):(A++y::t).set A.length z=A++z::t:=by
 rw[List.set_append_right _ _ (Nat.le_refl _),Nat.sub_self]; rfl
def yGD (l:List Int) (n:Int):List Int:=l.filter (fun x=>ltb x n)++n::l.filter (fun x=>ltb n x)
def spoil (m:dM) (n:Int):dM:=bif yz m&&(inb n m.1.length&& !(m.2.2.2.any (· ==n)))then(m.1,m.2.1,m.2.2.1,yGD m.2.2.2 n)else m
theorem y0f {l:List Int} {n:Int} (h:l.Pairwise (· < ·)) (hn:n∉l):l=l.filter (fun x=>ltb x n)++l.filter (fun x=>ltb n x):=by
 induction l with
 | nil=>rfl
 | cons x t ih =>
  obtain⟨hx,ht⟩:=List.pairwise_cons.1 h;simp only[List.mem_cons,not_or]at hn;rw[List.filter_cons,List.filter_cons];by_cases hlt:x<n
  ·rw[zky hlt,zk3 (show x≤n by omega)]
   simp only[if_true,Bool.false_eq_true,if_false,List.cons_append];rw[← ih ht hn.2]
  ·have h3:t.filter (fun x=>ltb x n)= []:=List.filter_eq_nil_iff.2 (fun y hy=>by rw[zk3 (by have:=hx y hy; omega)]; simp)
   have h4:t.filter (fun x=>ltb n x)=t:=List.filter_eq_self.2 (fun y hy=>zky (by have:=hx y hy; omega));rw[zk3 (show n≤x by omega),zky (show n<x by omega),h3,h4]; rfl
theorem y0g {m:dM} (n:Int) (h:yz m=true):yz (spoil m n)=true:=by
 unfold spoil;cases hc:(yz m&&(inb n m.1.length&& !(m.2.2.2.any (· ==n))))
 ·exact h
 ·simp only[Bool.and_eq_true]at hc
  have hi:=zj6.1 hc.2.1;obtain⟨h1,h2,h3,h4,h5,h6⟩:=ycv h;rw[yrY]at h3;refine yww h1 h2 ?_ h4 h5 h6;show yoz m.1.length (yGD m.2.2.2 n)=true;rw[yrY];unfold yGD;refine⟨fun x hx=> ?_,?_⟩
  ·rcases List.mem_append.1 hx with g | g
   ·exact h3.1 x (List.mem_filter.1 g).1
   ·rcases List.mem_cons.1 g with rfl | g
    ·exact hi
    ·exact h3.1 x (List.mem_filter.1 g).1
  ·rw[List.pairwise_append,List.pairwise_cons]
   refine⟨h3.2.filter _,⟨fun y hy=>zka.1 (List.mem_filter.1 hy).2,h3.2.filter _⟩,fun x hx y hy=> ?_⟩;have g1:=zka.1 (List.mem_filter.1 hx).2;rcases List.mem_cons.1 hy with rfl | hy
   ·exact g1
   ·exact Int.lt_trans g1 (zka.1 (List.mem_filter.1 hy).2)
theorem yFB (m:dM) (n:Int):(spoil m n).1=m.1∧(spoil m n).2.2.1=m.2.2.1:=by
 unfold spoil;cases(yz m&&(inb n m.1.length&& !(m.2.2.2.any (· ==n))))<;>exact⟨rfl,rfl⟩
def yG (g:dG) (s:Int):Bool:=ye g&&(leb 0 s&&leb s (g.2-1))
def yg (g:dG) (s:Int):Int:=bif yG g s then g.1-1-s.tmod g.1 else -1
def yaI (g:dG) (s i:Int):Int:=bif yG g s&&(leb 0 i&&leb i (g.1-2))then(yg g s+1+i).tmod g.1 else -1
theorem yM {g:dG} {s:Int}:yG g s=true↔ye g=true∧0≤s∧s≤g.2-1:=by simp[yG,zj7]
theorem yiG {g:dG} {s:Int} (h:yG g s=true):0≤yg g s∧yg g s≤g.1-1:=by
 have h1:=yM.1 h;have h2:=yj.1 h1.1;unfold yg;rw[h,cond_true,Int.tmod_eq_emod_of_nonneg h1.2.1];have:=Int.emod_nonneg s (show g.1≠0 by omega);have:=Int.emod_lt_of_pos s (show 0<g.1 by omega);omega
theorem yK0 {g:dG} {s i:Int} (h:yG g s=true) (h1:0≤i) (h2:i≤g.1-2):0≤yaI g s i∧yaI g s i≤g.1-1:=by
 have h3:=yj.1 (yM.1 h).1;have h4:=yiG h;unfold yaI;rw[h,zk2 h1,zk2 h2,Bool.and_self,Bool.and_self,cond_true,Int.tmod_eq_emod_of_nonneg (by omega)];have:=Int.emod_nonneg (yg g s+1+i) (show g.1≠0 by omega);have:=Int.emod_lt_of_pos (yg g s+1+i) (show 0<g.1 by omega);omega
def yA (p:Nat→Bool):Nat→Int
 | 0=> -1
 | n+1=>bif p n then yA p n else n
def yeF (p:Nat→Bool) (n:Nat):Bool:=(List.range n).any (fun i=> !p i&&leb 0 (yA p i))
theorem yJZ (p:Nat→Bool): ∀n,yA p n= -1∨(0≤yA p n∧yA p n<n∧p (yA p n).toNat=false)
 | 0=> .inl rfl
 | n+1=>by
  unfold yA;cases h:p n
  ·exact .inr ⟨by show(0:Int)≤n; omega,by show(n:Int)<_; omega,h⟩
  ·rcases yJZ p n with h1 | h1
   ·exact .inl h1
   ·exact .inr ⟨h1.1,by show yA p n<_; omega,h1.2.2⟩
def yV (a:dA) (s:Int) (n:Nat):List Int:=(List.range n).map (fun(i:Nat)=>yiW a i s)
theorem yfc (a:dA) (s:Int) (n:Nat):(yV a s n).length=n:=by unfold yV; rw[List.length_map,List.length_range]
theorem yH7 (a:dA) (s:Int) (n:Nat):yV a s n++ [yiW a n s]=yV a s (n+1):=by unfold yV; rw[List.range_succ,List.map_append]; rfl
theorem y0K (a:dA) (s:Int) {i n:Nat} (h:i<n):nth (yV a s n) i 0=yiW a i s:=by
 unfold yV;rw[zkS,zkJ (by rw[List.length_map,List.length_range]; exact h)]; simp
def yR (a:dA) (s:Int):List Int×Bool :=bif yeF (fun(i:Nat)=>yu a i s) a.2.1.1.toNat then([],false) else bif leb 0 (yA (fun(i:Nat)=>yu a i s) a.2.1.1.toNat)then((yV a s a.2.1.1.toNat).set (yA (fun(i:Nat)=>yu a i s) a.2.1.1.toNat).toNat (yao (yV a s a.2.1.1.toNat)),true) else(yV a s a.2.1.1.toNat,true)
theorem yKT {a:dA} {s:Int} (h:(yR a s).2=true):(yR a s).1.length=a.2.1.1.toNat:=by
 unfold yR at h ⊢;cases h1:yeF (fun(i:Nat)=>yu a i s) a.2.1.1.toNat
 ·cases leb 0 (yA (fun(i:Nat)=>yu a i s) a.2.1.1.toNat)
  ·exact yfc _ _ _
  ·simp only[cond_false,cond_true,List.length_set]; exact yfc _ _ _
 ·rw[h1]at h; cases h
theorem yXj (a:dA) (s:Int) (n:Nat) (h:leb 0 (yA (fun(i:Nat)=>yu a i s) n)=true):inb (yA (fun(i:Nat)=>yu a i s) n) (yV a s n).length=true∧ynw (yV a s n) (yA (fun(i:Nat)=>yu a i s) n)=yao (yV a s n):=by
 rcases yJZ (fun(i:Nat)=>yu a i s) n with h1 | h1
 ·rw[h1]at h; cases h
 ·have h2:inb (yA (fun(i:Nat)=>yu a i s) n) (yV a s n).length=true:=by rw[yfc,zj6]; exact⟨h1.1,h1.2.1⟩
  refine⟨h2,y1W h2 ?_⟩;have h3:=y0K a s (show(yA (fun(i:Nat)=>yu a i s) n).toNat<n by omega);rw[show(((yA (fun(i:Nat)=>yu a i s) n).toNat:Nat):Int)=yA (fun(i:Nat)=>yu a i s) n by omega]at h3;rw[h3];unfold yiW
  have h4:yu a (yA (fun(i:Nat)=>yu a i s) n) s=false:=by
   have:=h1.2.2;have this:yu a ((yA (fun(i:Nat)=>yu a i s) n).toNat:Nat) s=false:=h1.2.2;rwa[show(((yA (fun(i:Nat)=>yu a i s) n).toNat:Nat):Int)=yA (fun(i:Nat)=>yu a i s) n by omega]at this
  rw[h4]; rfl
def ykK (a:dA) (s:Int):List Int×Bool:=bif(yR a s).2 then((List.range (a.2.1.1-1).toNat).map (fun(i:Nat)=>nth (yR a s).1 (yaI a.2.1 s i) 0),true)else([],false)
def ybO (a:dA) (s:Int):List Int×Bool:=bif yO a&&(!a.2.2.2.2.2.2.2.2.2.2.2&&yG a.2.1 s)then ykK a s else([],false)
theorem y1G (a:dA) (s:Int):(ykK a s).1.length≤(a.2.1.1-1).toNat:=by
 unfold ykK;cases(yR a s).2
 ·exact Nat.zero_le _
 ·simp
def yr3 (a:dA):List Int:=bif yO a&&(List.range a.2.1.2.toNat).all (fun(s:Nat)=>(ybO a s).2)then(List.range a.2.1.2.toNat).flatMap (fun(s:Nat)=>(ybO a s).1)else[]
theorem y1c {a:dA} (s:Int) (hg:ye a.2.1=true):(ybO a s).1.length≤4:=by
 have:=yj.1 hg;unfold ybO;cases(yO a&&(!a.2.2.2.2.2.2.2.2.2.2.2&&yG a.2.1 s))
 ·exact Nat.zero_le _
 ·have:=y1G a s
  show(ykK a s).1.length≤4;omega
theorem ySF (p:Nat→Bool): ∀n,leb 0 (yA p n)=decide (1≤yue p n)∧yeF p n=decide (2≤yue p n)
 | 0=>⟨rfl,rfl⟩
 | n+1=>by
  obtain⟨h1,h2⟩:=ySF p n
  have e:yeF p (n+1)=(yeF p n||(!p n&&leb 0 (yA p n))):=by
   unfold yeF;rw[List.range_succ,List.any_append]; simp
  have e2:yA p (n+1)=bif p n then yA p n else n:=rfl;rw[e,e2,yuf,h2,h1];cases hp:p n
  ·simp only[cond_false,Bool.not_false,Bool.true_and]
   refine⟨by rw[zk2 (show(0:Int)≤n by omega)]; simp,?_⟩;rw[Bool.eq_iff_iff,Bool.or_eq_true,decide_eq_true_eq,decide_eq_true_eq,decide_eq_true_eq]; omega
  ·simp[h1]
def ylK (m:dM) (n:Int):List Int:=yg3 n m.2.1 (nth m.1 n [])
def ykH (m:dM) (n:Int):Bool:=m.2.2.2.any (· ==n)
def y2m (m:dM) (n:Int) (v:List Int):Prop:=v=nth m.1 n []∨ ∃w∈m.2.1,w.1=n∧w.2=v
theorem ySO (n:Int): ∀(c:List dW) (s:List Int),yg3 n c s=s∨ ∃w∈c,w.1=n∧w.2=yg3 n c s
 | [],s=> .inl rfl
 | w::c,s=>by
  show yg3 n c (bif w.1==n then w.2 else s)=s∨ ∃x∈w::c,x.1=n∧x.2=yg3 n c (bif w.1==n then w.2 else s);rcases ySO n c (bif w.1==n then w.2 else s)with h | ⟨x,hx,h1,h2⟩
  ·rw[h]
   cases hw:(w.1==n)
   ·exact .inl rfl
   ·exact .inr ⟨w,List.mem_cons_self,beq_iff_eq.1 hw,rfl⟩
  ·exact .inr ⟨x,List.mem_cons_of_mem _ hx,h1,h2⟩
theorem y2q (m:dM) (n:Int):y2m m n (ylK m n):=ySO n m.2.1 _
theorem yNA (n:Int) (c:List dW) (w:dW) (s:List Int):yg3 n (c++ [w]) s=bif w.1==n then w.2 else yg3 n c s:=by
 unfold yg3; rw[List.foldl_append]; rfl
theorem y2M {m:dM} {n:Int} (h:yz m=true) (h1:m.2.2.1=false) (h2:inb n m.1.length=true):yhv m n=bif ykH m n then([],false)else(ylK m n,true):=by
 unfold yhv yBj;rw[h,h1,h2];show(bif !(ykH m n)then(ylK m n,true)else([],false))=_;cases ykH m n<;>rfl
theorem yFN {m:dM} {n:Int} {s:List Int} (h:yz m=true) (h1:m.2.2.1=false) (h2:inb n m.1.length=true) (h3:yan s=true) (h4:m.2.1.length<60):ybu m n s=true:=by
 unfold ybu;rw[h,h1,h2,h3,zky (by omega)]; rfl
theorem yQT {m:dM} {n:Int} {s:List Int} (h:ybu m n s=true):(yae m n s).1=(m.1,m.2.1++ [(n,s)],m.2.2.1,yHT m.2.2.2 n):=by unfold yae; rw[h]; rfl
theorem yET {m:dM} {n:Int} {s:List Int} (h:ybu m n s=true) (k:Int):ylK (yae m n s).1 k=bif n==k then s else ylK m k:=by
 rw[yQT h]; exact yNA _ _ _ _
theorem y2n (l:List Int) (n k:Int):(yHT l n).any (· ==k)=(l.any (· ==k)&&k !=n):=by
 rw[Bool.eq_iff_iff];simp only[yHT,List.any_eq_true,List.mem_filter,Bool.and_eq_true,beq_iff_eq,bne_iff_ne];constructor
 ·rintro⟨x,⟨h1,h2⟩,rfl⟩; exact⟨⟨x,h1,rfl⟩,h2⟩
 ·rintro⟨⟨x,h1,rfl⟩,h2⟩; exact⟨x,⟨h1,h2⟩,rfl⟩
theorem yxe {m:dM} {n:Int} {s:List Int} (h:ybu m n s=true) (k:Int):ykH (yae m n s).1 k=(ykH m k&&k !=n):=by
 rw[yQT h]; exact y2n _ _ _
theorem yrm {α:Type} {l:List α} {i k:Int} {x d:α} (hi:inb i l.length=true) (hk:0≤k):nth (l.set i.toNat x) k d=bif i==k then x else nth l k d:=by
 have h1:=zj6.1 hi;unfold nth;rw[List.getD_eq_getElem?_getD,List.getD_eq_getElem?_getD,List.getElem?_set];by_cases h:i=k
 ·subst h; simp[show i.toNat<l.length by omega]
 ·rw[if_neg (by omega),show(i==k)=false from beq_eq_false_iff_ne.2 h]; rfl
theorem y3k (b:Nat→Bool) {c:List dW} {l:List (List Int)} {k:Int} (hk:0≤k) (hc: ∀w∈c,inb w.1 l.length=true) :
  ∀n,n≤c.length→((List.range n).foldl (ygW b c) l).length=l.length∧(nth ((List.range n).foldl (ygW b c) l) k []=nth l k []∨ ∃w∈c,w.1=k∧w.2=nth ((List.range n).foldl (ygW b c) l) k []) ∧
   ((∀i,b i=true)→nth ((List.range n).foldl (ygW b c) l) k []=yg3 k (c.take n) (nth l k [])):=by
 intro n
 induction n with
 | zero=>intro _; exact⟨rfl,.inl rfl,fun _=>rfl⟩
 | succ n ih =>
  intro hn;obtain⟨h1,h2,h3⟩:=ih (by omega);rw[List.range_succ,List.foldl_append,List.foldl_cons,List.foldl_nil];have hnc:n<c.length:=by omega
  generalize (List.range n).foldl (ygW b c) l=L at h1 h2 h3 ⊢;refine⟨yBd.trans h1,?_⟩;unfold ygW;rw[zkS,zkJ hnc];have hw:inb c[n].1 L.length=true:=by rw[h1]; exact hc _ (List.getElem_mem hnc)
  cases hb:b n
  ·refine⟨h2,fun h=> ?_⟩
   rw[h n]at hb; cases hb
  ·simp only[cond_true,yrm hw hk]
   constructor
   ·cases he:(c[n].1==k)
    ·exact h2
    ·exact .inr ⟨c[n],List.getElem_mem hnc,beq_iff_eq.1 he,rfl⟩
   ·intro h
    rw[h3 h,List.take_add_one,List.getElem?_eq_getElem hnc];exact(yNA k _ _ _).symm
theorem y2K {m:dM} (h:yz m=true): ∀w∈m.2.1,inb w.1 m.1.length=true:=fun w hw=>by
 have:=List.all_eq_true.1 (ycv h).2.1 w hw;simp only[yrX,Bool.and_eq_true]at this; exact this.1
theorem y1M {m:dM} {k:Int} (h:yz m=true) (h1:m.2.2.1=false) (hk:0≤k):nth (yy m).1 k []=ylK m k:=by
 have:=(y3k (fun _=>true) hk (y2K h) m.2.1.length (Nat.le_refl _)).2.2 (fun _=>rfl);rw[List.take_length]at this;unfold yy;rw[h,h1]; exact this
theorem yHj {m:dM} (h:yz m=true) (h1:m.2.2.1=false):(yy m).2.1= []∧(yy m).2.2=m.2.2:=by
 unfold yy;rw[h,h1];refine⟨rfl,?_⟩;show(false,m.2.2.2)=m.2.2;rw[← h1]
theorem y1h {m:dM} {k:Int} {v:List Int} (h:yz m=true) (h1:m.2.2.1=false) (hk:0≤k) (hv:y2m (yy m) k v):v=ylK m k:=by
 rcases hv with hv | ⟨w,hw,_⟩
 ·rw[hv,y1M h h1 hk]
 ·rw[(yHj h h1).1]at hw; cases hw
theorem y1L {m:dM} {k:Int} (h:yz m=true) (h1:m.2.2.1=false) (hk:0≤k):ylK (yy m) k=ylK m k:=y1h h h1 hk (y2q _ _)
theorem yW7 (m:dM) (k:Int):ykH (yy m) k=ykH m k:=by
 unfold yy;cases(yz m&& !m.2.2.1)<;>rfl
theorem y3A {x:Int} (h:isW x=true):(bv x).toNat<2^16:=by
 have:=ywu.1 h;unfold bv;rw[BitVec.toNat_ofInt];omega
theorem y3I {v:BitVec 64} (h:v.toNat<2^16):isW v.toInt=true:=by
 rw[BitVec.toInt_eq_toNat_of_lt (by omega)];exact ywu.2 (by omega)
theorem y3w: ∀(l:List Int),l.all isW=true→(yfd l).toNat<2^16:=by
 intro l h
 have: ∀(l:List Int) (v:BitVec 64),v.toNat<2^16→l.all isW=true→(l.foldl (fun v x=>v ^^^ bv x) v).toNat<2^16:=by
  intro l
  induction l with
  | nil=>intro v hv _; exact hv
  | cons x t ih =>
   intro v hv h;simp only[List.all_cons,Bool.and_eq_true]at h;refine ih _ ?_ h.2;rw[BitVec.toNat_xor];exact Nat.xor_lt_two_pow hv (y3A h.1)
 exact this l 0#64 (by decide) h
theorem yXr {l:List Int} (h:l.all isW=true):isW (yao l)=true:=by
 rw[yn8]; exact y3I (y3w l h)
theorem yKV {l:List Int}:l.all isW=true↔ ∀x∈l,isW x=true:=by simp
theorem yV5 {l:List Int} {i:Int} (h:l.all isW=true):isW (nth l i 0)=true:=by
 unfold nth;rw[List.getD_eq_getElem?_getD];cases e:l[i.toNat]? with
 | none=>rfl
 | some x=>exact yKV.1 h x (List.mem_of_getElem? e)
theorem yWV {l:List Int} {i:Nat} {x:Int} (h:l.all isW=true) (hx:isW x=true):(l.set i x).all isW=true:=by
 rw[yKV]at h ⊢;intro y hy;rcases List.mem_or_eq_of_mem_set hy with h1 | rfl
 ·exact h y h1
 ·exact hx
theorem y1r {m:dM} {n:Int} (h:(yhv m n).2=true):yan (yhv m n).1=true:=by
 unfold yhv at h ⊢;cases hc:yBj m n
 ·rw[hc]at h; cases h
 ·simp only[yBj,Bool.and_eq_true]at hc
  obtain⟨h1,h2,h3,_,_,_⟩:=ycv hc.1;refine yHE (P:=fun s=>yan s=true) ?_ fun w hw=> ?_
  ·exact ywx (P:=fun s=>yan s=true) hc.2.2.1 (fun x hx=>List.all_eq_true.1 h1 x hx)
  ·have:=List.all_eq_true.1 h2 w hw
   simp only[yrX,Bool.and_eq_true]at this;exact this.2
theorem y2Z (a:dA) (m s:Int):isW (yiW a m s)=true:=by
 unfold yiW;cases h:yu a m s
 ·rfl
 ·simp only[yu,Bool.and_eq_true]at h
  have:=y1r (m:=nth a.2.2.1 m yh) (n:=yX s) h.2.1;simp only[yan,Bool.and_eq_true]at this;exact yV5 this.2
theorem yD3 (a:dA) (s:Int) (n:Nat):(yV a s n).all isW=true:=by
 rw[yKV];unfold yV;intro x hx;obtain⟨i,_,rfl⟩:=List.mem_map.1 hx;exact y2Z a i s
theorem y2i (a:dA) (s:Int):(yR a s).1.all isW=true:=by
 unfold yR;cases yeF (fun(i:Nat)=>yu a i s) a.2.1.1.toNat
 ·cases leb 0 (yA (fun(i:Nat)=>yu a i s) a.2.1.1.toNat)
  ·exact yD3 _ _ _
  ·exact yWV (yD3 _ _ _) (yXr (yD3 _ _ _))
 ·rfl
theorem yW3 (a:dA) (s:Int):(ykK a s).1.all isW=true:=by
 unfold ykK;cases(yR a s).2
 ·rfl
 ·rw[yKV]
  intro x hx;obtain⟨i,_,rfl⟩:=List.mem_map.1 hx;exact yV5 (y2i a s)
def yUG:Code:=(f195.body).getD .skip
def yU9:Env:=zkw TT [(82,yF),(150,ygj)] []
theorem yMa:FrOk prog ⟨yU9,60,fun _=>none⟩ yUG:=zkA mixed yc ⟨yK,ylt,trivial⟩
abbrev yv0:List Par:= [.rd tS]
abbrev ywk:List OT:= [⟨false,tB,.fz⟩]
def yDI (a0:dS):Option (zaY ywk×zak yv0) :=let r1:=ye (a0.2.2.2.1,a0.2.2.2.2.1);bif(!(!r1))then let r2:=yb a0.1 1 60000;bif(!(!r2))then let r3:=yb a0.2.1 0 60000;bif(!(!r3))then let r4:=yb a0.2.2.1 0 (i64.wrap (a0.2.2.2.1-1));bif(!(!r4))then let r5:=yb a0.2.2.2.2.2.1 0 60000;bif(!r5)then some ((false,()),()) else let r6:=yb a0.2.2.2.2.2.2.1 (-1) (i64.wrap (a0.2.2.2.1-1));bif r6 then let r7:=yb a0.2.2.2.2.2.2.2 0 a0.2.2.2.2.1;bif r7 then bif(!(leb 0 a0.2.2.2.2.2.2.1))then some (((a0.2.2.2.2.2.2.2==0),()),()) else some ((true,()),()) else some ((false,()),()) else some ((false,()),()) else some ((false,()),()) else some ((false,()),()) else some ((false,()),()) else some ((false,()),())
theorem yQf:ConOk prog 195 ⟨yv0,ywk,fun x=>yDI x.1⟩:=zkI (yMa) func195 ntmps195.symm fun x=>by kernel_rfl
def yaD (a0:dS):Bool :=let r1:=ye (a0.2.2.2.1,a0.2.2.2.2.1);bif(!(!r1))then let r2:=yb a0.1 1 60000;bif(!(!r2))then let r3:=yb a0.2.1 0 60000;bif(!(!r3))then let r4:=yb a0.2.2.1 0 (i64.wrap (a0.2.2.2.1-1));bif(!(!r4))then let r5:=yb a0.2.2.2.2.2.1 0 60000;bif(!r5)then false else let r6:=yb a0.2.2.2.2.2.2.1 (-1) (i64.wrap (a0.2.2.2.1-1));bif r6 then let r7:=yb a0.2.2.2.2.2.2.2 0 a0.2.2.2.2.1;bif r7 then bif(!(leb 0 a0.2.2.2.2.2.2.1))then (a0.2.2.2.2.2.2.2==0) else true else false else false else false else false else false else false
def yCE:Con:=⟨yv0,ywk,fun x=>(fun n=>some ((n,()),())) (yaD x.1)⟩
theorem yS4 (a0:dS):yDI a0=(fun n=>some ((n,()),())) (yaD a0):=zkV (p:=fun(n:Bool)=>((n,()),())) (zkG (p:=fun(n:Bool)=>((n,()),())) (zkG (p:=fun(n:Bool)=>((n,()),())) (zkG (p:=fun(n:Bool)=>((n,()),())) (zkG (p:=fun(n:Bool)=>((n,()),())) (zkG (p:=fun(n:Bool)=>((n,()),())) rfl (zkG (p:=fun(n:Bool)=>((n,()),())) (zkG (p:=fun(n:Bool)=>((n,()),())) (zkG (p:=fun(n:Bool)=>((n,()),())) rfl rfl) rfl) rfl)) rfl) rfl) rfl) rfl)
theorem yT3:ConOk prog 195 yCE:=(yQf).mono (fun x r _ h=>(yS4 x.1).trans h)
abbrev y3m:dS:=(0,0,0,0,0,0,0,0)
theorem y0J {s:dS}:yaD s=true↔ye (s.2.2.2.1,s.2.2.2.2.1)=true∧(1≤s.1∧s.1≤60000)∧(0≤s.2.1∧s.2.1≤60000)∧(0≤s.2.2.1∧s.2.2.1≤s.2.2.2.1-1)∧(0≤s.2.2.2.2.2.1∧s.2.2.2.2.2.1≤60000)∧(-1≤s.2.2.2.2.2.2.1∧s.2.2.2.2.2.2.1≤s.2.2.2.1-1)∧(0≤s.2.2.2.2.2.2.2∧s.2.2.2.2.2.2.2≤s.2.2.2.2.1)∧(0≤s.2.2.2.2.2.2.1∨s.2.2.2.2.2.2.2=0):=by
 unfold yaD;cases hg:ye (s.2.2.2.1,s.2.2.2.2.1)
 ·simp
 have hg2:=yj.1 hg;simp only at hg2;rw[wq (s.2.2.2.1-1) (by omega) (by omega)];simp only[Bool.not_not,cond_true,true_and];simp only[← yud];cases yb s.1 1 60000
 ·simp
 cases yb s.2.1 0 60000
 ·simp
 cases yb s.2.2.1 0 (s.2.2.2.1-1)
 ·simp
 cases yb s.2.2.2.2.2.1 0 60000
 ·simp
 cases yb s.2.2.2.2.2.2.1 (-1) (s.2.2.2.1-1)
 ·simp
 cases yb s.2.2.2.2.2.2.2 0 s.2.2.2.2.1
 ·simp
 cases hl:leb 0 s.2.2.2.2.2.2.1
 ·have:=mt zk2 (by rw[hl]; simp: ¬leb 0 s.2.2.2.2.2.2.1=true)
  simp[this]
 ·simp[zj7.1 hl]
def y02 (l:List Int):dS:=(nth l 1 0,nth l 2 0,nth l 3 0,nth l 4 0,nth l 5 0,nth l 6 0,i64.wrap (nth l 7 0-1),nth l 8 0)
def y2x (l:List Int):dS×Bool:=bif(l.length:Int)==9&&(nth l 0 0==21317&&yaD (y02 l))then(y02 l,true)else(y3m,false)
def yQ2:Code:=(f144.body).getD .skip
def yRq:Env:=zkw TT [(195,yCE)] []
theorem yJO:FrOk prog ⟨yRq,25,fun _=>none⟩ yQ2:=zkA mixed yc ⟨yT3,trivial⟩
abbrev ytb:List Par:= [.rd tS]
abbrev yty:List OT:= [⟨false,tL,(.ow .fz)⟩]
def yAT (a0:dS):Option (zaY yty×zak ytb) :=let r1:=yaD a0;bif(!r1)then some ((([]:List Int),()),()) else some ((([21317,a0.1,a0.2.1,a0.2.2.1,a0.2.2.2.1,a0.2.2.2.2.1,a0.2.2.2.2.2.1,(i64.wrap (a0.2.2.2.2.2.2.1+1)),a0.2.2.2.2.2.2.2]:List Int),()),())
theorem yM3:ConOk prog 144 ⟨ytb,yty,fun x=>yAT x.1⟩:=zkI (yJO) func144 ntmps144.symm fun x=>by kernel_rfl
def yD (a0:dS):(List Int) :=let r1:=yaD a0;bif(!r1)then ([]:List Int) else ([21317,a0.1,a0.2.1,a0.2.2.1,a0.2.2.2.1,a0.2.2.2.2.1,a0.2.2.2.2.2.1,(i64.wrap (a0.2.2.2.2.2.2.1+1)),a0.2.2.2.2.2.2.2]:List Int)
def yph:Con:=⟨ytb,yty,fun x=>(fun n=>some ((n,()),())) (yD x.1)⟩
theorem yPQ (a0:dS):yAT a0=(fun n=>some ((n,()),())) (yD a0):=zkV (p:=fun(n:(List Int))=>((n,()),())) (zkG (p:=fun(n:(List Int))=>((n,()),())) rfl rfl)
theorem yDy:ConOk prog 144 yph:=(yM3).mono (fun x r _ h=>(yPQ x.1).trans h)
abbrev ya (a:dA):Bool:=a.2.2.2.2.2.2.2.2.2.2.1
def yZd (a:dA) (f:Int) (d:Bool):dA:=(a.1,a.2.1,a.2.2.1,a.2.2.2.1,a.2.2.2.2.1,a.2.2.2.2.2.1,a.2.2.2.2.2.2.1,a.2.2.2.2.2.2.2.1,a.2.2.2.2.2.2.2.2.1,f,d,a.2.2.2.2.2.2.2.2.2.2.2)
def opA (a:dA):Bool×dA:=bif ya a then(false,a)else bif a.2.2.2.2.2.2.2.2.2.1==0 then(false,yZd a (-1) true)else bif ltb 0 a.2.2.2.2.2.2.2.2.2.1 then(true,yZd a (i64.wrap (a.2.2.2.2.2.2.2.2.2.1-1)) (ya a))else(true,a)
def yeo (a:dA) (m:Int) (x:dM):dA:=(a.1,a.2.1,a.2.2.1.set m.toNat x,a.2.2.2)
def ycR (a:dA) (m n:Int) (s:List Int):dA:=bif(nth a.2.2.1 m yh).2.2.1 then a else bif(opA a).1 then yeo (opA a).2 m (yae (nth a.2.2.1 m yh) n s).1 else(opA a).2
def yN (a:dA) (i:Nat):dA:=bif(nth a.2.2.1 i yh).2.2.1 then a else bif(opA a).1 then yeo (opA a).2 i (yy (nth a.2.2.1 i yh))else(opA a).2
def yx (a:dA):dA:=(List.range a.2.2.1.length).foldl yN a
def yK8 (a:dA) (i:Int):dS:=(a.1,a.2.2.2.2.2.2.2.1,i,a.2.1.1,a.2.1.2,a.2.2.2.2.2.2.1,a.2.2.2.1,a.2.2.2.2.1)
def yaf (a:dA) (i:Nat):dA:=ycR a i (a.2.2.2.2.2.2.2.1.tmod 2) (yD (yK8 a i))
def yay (a:dA):dA:=(a.1,a.2.1,a.2.2.1,a.2.2.2.1,a.2.2.2.2.1,a.2.2.2.2.2.1,a.2.2.2.2.2.2.1,i64.wrap (a.2.2.2.2.2.2.2.1+1),a.2.2.2.2.2.2.2.2)
def yak (a:dA):dA:=yx ((List.range a.2.2.1.length).foldl yaf (yay a))
theorem yaE (a:dA):(opA a).2.2.2.1=a.2.2.1:=by
 unfold opA;cases ya a
 ·cases(a.2.2.2.2.2.2.2.2.2.1==0)
  ·cases ltb 0 a.2.2.2.2.2.2.2.2.2.1<;>rfl
  ·rfl
 ·rfl
theorem yWO {a:dA} (h:ya a=false):ya (opA a).2= !(opA a).1:=by
 unfold opA;rw[h];cases(a.2.2.2.2.2.2.2.2.2.1==0)
 ·cases ltb 0 a.2.2.2.2.2.2.2.2.2.1
  ·exact h
  ·rfl
 ·rfl
theorem y0X {a:dA} (h:ya a=true):opA a=(false,a):=by unfold opA; rw[h]; rfl
theorem yse (a:dA) (m n:Int) (s:List Int):(ycR a m n s).2.2.1.length=a.2.2.1.length:=by
 unfold ycR;cases(nth a.2.2.1 m yh).2.2.1
 ·cases(opA a).1
  ·show(opA a).2.2.2.1.length=_; rw[yaE]
  ·show((opA a).2.2.2.1.set m.toNat _).length=_; rw[List.length_set,yaE]
 ·rfl
theorem ylD (a:dA) (i:Nat):(yN a i).2.2.1.length=a.2.2.1.length:=by
 unfold yN;cases(nth a.2.2.1 i yh).2.2.1
 ·cases(opA a).1
  ·show(opA a).2.2.2.1.length=_; rw[yaE]
  ·show((opA a).2.2.2.1.set _ _).length=_; rw[List.length_set,yaE]
 ·rfl
theorem yq7 {one:dA→Nat→dA} (h: ∀a i,(one a i).2.2.1.length=a.2.2.1.length): ∀(l:List Nat) (a:dA),(l.foldl one a).2.2.1.length=a.2.2.1.length
 | [],_=>rfl
 | x::l,a=>by rw[List.foldl_cons,yq7 h l,h]
theorem yD2 (a:dA):(yx a).2.2.1.length=a.2.2.1.length:=yq7 ylD _ _
theorem ywE {a:dA} (h:ya a=true) (m n:Int) (s:List Int):ycR a m n s=a:=by
 unfold ycR;rw[y0X h];cases(nth a.2.2.1 m yh).2.2.1<;>rfl
theorem yD0 {a:dA} (i:Nat) (h:ya a=true):yN a i=a:=by
 unfold yN;rw[y0X h];cases(nth a.2.2.1 i yh).2.2.1<;>rfl
theorem yxL {one:dA→Nat→dA} (hs: ∀a i,ya a=true→one a i=a): ∀(l:List Nat) (a:dA),ya a=true→l.foldl one a=a
 | [],_,_=>rfl
 | x::l,a,h=>by rw[List.foldl_cons,hs a x h]; exact yxL hs l a h
theorem yFC {a:dA} (h:ya a=true):yx a=a:=yxL (fun _ i h=>yD0 i h) _ a h
theorem y0c {a:dA} (h:ya a=false) (m n:Int) (s:List Int):ya (ycR a m n s)=(!(nth a.2.2.1 m yh).2.2.1&& !(opA a).1):=by
 have:=yWO h;unfold ycR;cases(nth a.2.2.1 m yh).2.2.1
 ·cases ho:(opA a).1
  ·rw[ho]at this; exact this
  ·rw[ho]at this; exact this
 ·exact h
theorem yKP {a:dA} (h:ya a=false) (i:Nat):ya (yN a i)=(!(nth a.2.2.1 i yh).2.2.1&& !(opA a).1):=by
 have:=yWO h;unfold yN;cases(nth a.2.2.1 i yh).2.2.1
 ·cases ho:(opA a).1
  ·rw[ho]at this; exact this
  ·rw[ho]at this; exact this
 ·exact h
theorem yDf {one:dA→Nat→dA} (hs: ∀a i,ya a=true→one a i=a): ∀(k i:Nat) (s:dA),goE (fun i s=>bif ya (one s i)then(.inr (one s i):dA ⊕ dA)else .inl (one s i)) id k i s=(List.range' i k).foldl one s
 | 0,_,_=>rfl
 | k+1,i,s=>by
  rw[List.range'_succ,List.foldl_cons,goE];cases hd:ya (one s i)
  ·exact yDf hs k (i+1) (one s i)
  ·exact(yxL hs _ _ hd).symm
def yev (a:dA) (m:Int):dA:=(a.1,a.2.1,a.2.2.1.set m.toNat (ylB (nth a.2.2.1 m yh)),m,0,a.2.2.2.2.2)
def yRS (a:dA) (m:Int):dA:=(a.1,a.2.1,a.2.2.1.set m.toNat (ylB (nth a.2.2.1 m yh)),a.2.2.2.1,a.2.2.2.2.1,a.2.2.2.2.2.1,a.2.2.2.2.2.2.1,a.2.2.2.2.2.2.2.1,a.2.2.2.2.2.2.2.2.1,a.2.2.2.2.2.2.2.2.2.1,a.2.2.2.2.2.2.2.2.2.2.1,true)
def yoC (a:dA) (m:Int):dA:=bif a.2.2.2.1== -1||a.2.2.2.1==m then(bif !(ya a)&&(!a.2.2.2.2.2.2.2.2.2.2.2&&ltb a.2.2.2.2.2.2.2.1 60000)then yak (yev a m)else yev a m)else yRS a m
theorem y2J (a:dA):(yak a).2.2.1.length=a.2.2.1.length:=(yD2 _).trans (yq7 (one:=yaf) (fun _ _=>yse _ _ _ _) _ (yay a))
theorem yHM (a:dA):(opA a).2.2.2.2.2.2.2.2.2.1=a.2.2.2.2.2.2.2.2.1:=by
 unfold opA;cases ya a
 ·cases(a.2.2.2.2.2.2.2.2.2.1==0)
  ·cases ltb 0 a.2.2.2.2.2.2.2.2.2.1<;>rfl
  ·rfl
 ·rfl
theorem y11 (a:dA) (m n:Int) (s:List Int):(ycR a m n s).2.2.2.2.2.2.2.2.1=a.2.2.2.2.2.2.2.2.1:=by
 unfold ycR;cases(nth a.2.2.1 m yh).2.2.1
 ·cases(opA a).1
  ·exact yHM a
  ·exact yHM a
 ·rfl
theorem yZb (a:dA) (i:Nat):(yN a i).2.2.2.2.2.2.2.2.1=a.2.2.2.2.2.2.2.2.1:=by
 unfold yN;cases(nth a.2.2.1 i yh).2.2.1
 ·cases(opA a).1
  ·exact yHM a
  ·exact yHM a
 ·rfl
theorem yHk {one:dA→Nat→dA} (h: ∀a i,(one a i).2.2.2.2.2.2.2.2.1=a.2.2.2.2.2.2.2.2.1): ∀(l:List Nat) (a:dA),(l.foldl one a).2.2.2.2.2.2.2.2.1=a.2.2.2.2.2.2.2.2.1
 | [],_=>rfl
 | x::l,a=>by rw[List.foldl_cons,yHk h l,h]
theorem yHU (a:dA):(yx a).2.2.2.2.2.2.2.2.1=a.2.2.2.2.2.2.2.2.1:=yHk yZb _ _
theorem y1l (a:dA):(yak a).2.2.2.2.2.2.2.2.1=a.2.2.2.2.2.2.2.2.1:=(yHU _).trans (yHk (one:=yaf) (fun _ _=>y11 _ _ _ _) _ (yay a))
theorem y2o {a:dA} (h:yO a=true):a.2.2.1.length≤5:=by
 have h1:=yj.1 (yb3 h);have h2:=yEj h;omega
def ycu (n:Int):dM:=bif leb 1 n&&leb n 20 then(List.replicate n.toNat [],[],false,[])else yh
theorem yXf {n:Int} (h1:1≤n) (h2:n≤20):yz (ycu n)=true:=by
 unfold ycu;rw[zk2 h1,zk2 h2];refine yww ?_ rfl rfl ?_ ?_ (Nat.zero_le _)
 ·show(List.replicate n.toNat ([]:List Int)).all yan=true
  rw[List.all_eq_true];intro x hx;rw[(List.mem_replicate.1 hx).2]; rfl
 ·show 1≤(List.replicate n.toNat ([]:List Int)).length; rw[List.length_replicate]; omega
 ·show(List.replicate n.toNat ([]:List Int)).length≤20; rw[List.length_replicate]; omega
def yb2 (a:dA):dA:=(a.1,a.2.1,a.2.2.1.set a.2.2.2.1.toNat (ycu (6+a.2.1.2)),a.2.2.2.1,0,a.2.2.2.2.2)
def ybe (a:dA):dA:=(a.1,a.2.1,a.2.2.1,a.2.2.2.1,a.2.2.2.2.1,a.2.2.2.2.2.1,a.2.2.2.2.2.1,a.2.2.2.2.2.2.2)
def yW (a:dA):dA:=bif ya (yx a)then yx a else yak (ybe (yx a))
theorem yWZ (a:dA):(yW a).2.2.1.length=a.2.2.1.length:=by
 unfold yW;cases ya (yx a)
 ·exact(y2J (ybe (yx a))).trans (yD2 a)
 ·exact yD2 a
theorem y0t (a:dA):(yW a).2.2.2.2.2.2.2.2.1=a.2.2.2.2.2.2.2.2.1:=by
 unfold yW;cases ya (yx a)
 ·exact(y1l (ybe (yx a))).trans (yHU a)
 ·exact yHU a
def yZ3 (id:Int) (g:dG) (i:Int):dS:=(id,0,i,g.1,g.2,0,-1,0)
def ysd (m:dM) (s:Nat):dM:=(m.1.set (s+6) [0],m.2)
def yj6 (id:Int) (g:dG) (i:Int):dM:=((ycu (6+g.2)).1.set 0 (yD (yZ3 id g i)),(ycu (6+g.2)).2)
def yI (id:Int) (g:dG) (i:Int):dM:=(List.range g.2.toNat).foldl ysd (yj6 id g i)
def yCc (a:dA) (m:dM):dA:=(a.1,a.2.1,a.2.2.1++ [m],a.2.2.2)
def yCg (id:Int) (g:dG):dA:=(id,g,[],-1,0,0,0,0,[],-1,false,false)
def yla (id:Int) (g:dG):dA:=bif ye g&&(leb 1 id&&leb id 60000)then(List.range g.1.toNat).foldl (fun a (i:Nat)=>yCc a (yI id g i)) (yCg id g)else ycC
theorem yNz (l:List Nat) (m:dM):(l.foldl ysd m).1.length=m.1.length:=by
 induction l generalizing m with
 | nil=>rfl
 | cons x t ih=>rw[List.foldl_cons,ih]; show(m.1.set _ _).length=_; rw[List.length_set]
def yv (a:dA):Int×(Int×Int)×Int×Int×Int×Int×Int×List dW×Bool:=(a.1,a.2.1,a.2.2.2.1,a.2.2.2.2.1,a.2.2.2.2.2.1,a.2.2.2.2.2.2.1,a.2.2.2.2.2.2.2.1,a.2.2.2.2.2.2.2.2.1,a.2.2.2.2.2.2.2.2.2.2.2)
theorem yGV (a:dA):yv (opA a).2=yv a:=by
 unfold opA;cases ya a
 ·cases(a.2.2.2.2.2.2.2.2.2.1==0)
  ·cases ltb 0 a.2.2.2.2.2.2.2.2.2.1<;>rfl
  ·rfl
 ·rfl
theorem yrr (a:dA) (m n:Int) (s:List Int):yv (ycR a m n s)=yv a:=by
 unfold ycR;cases(nth a.2.2.1 m yh).2.2.1
 ·cases(opA a).1
  ·exact yGV a
  ·exact yGV a
 ·rfl
theorem yKO (a:dA) (i:Nat):yv (yN a i)=yv a:=by
 unfold yN;cases(nth a.2.2.1 i yh).2.2.1
 ·cases(opA a).1
  ·exact yGV a
  ·exact yGV a
 ·rfl
theorem yxK {one:dA→Nat→dA} (h: ∀a i,yv (one a i)=yv a): ∀(l:List Nat) (a:dA),yv (l.foldl one a)=yv a
 | [],_=>rfl
 | x::l,a=>by rw[List.foldl_cons,yxK h l,h]
theorem ydf (a:dA):yv (yx a)=yv a:=yxK yKO _ _
theorem ynv (a:dA):yv (yak a)=yv (yay a):=(ydf _).trans (yxK (one:=yaf) (fun _ _=>yrr _ _ _ _) _ _)
theorem yaQ {a b:dA} (h:yv a=yv b):a.2.1=b.2.1:=congrArg (fun x=>x.2.1) h
theorem ybc {a b:dA} (h:yv a=yv b):a.2.2.2.2.1=b.2.2.2.2.1:=congrArg (fun x=>x.2.2.2.1) h
theorem yRO {a b:dA} (h:yv a=yv b):a.2.2.2.2.2.2.2.2.1=b.2.2.2.2.2.2.2.2.1:=congrArg (fun x=>x.2.2.2.2.2.2.2.1) h
def y3y (d:List dW) (x:dA):Prop:=x.2.2.1.length≤5∧y1Y x.2.2.1∧x.2.2.2.2.2.2.2.2.1=d
theorem yZ2 {a:dA} (h:yO a=true):y3y a.2.2.2.2.2.2.2.2.1 a:=⟨y2o h,y09 h,rfl⟩
def y19 (b:dA):dA:=(b.1,b.2.1,b.2.2.1,b.2.2.2.1,i64.wrap (b.2.2.2.2.1+1),b.2.2.2.2.2)
def ybg (a:dA):dA:=ycR a a.2.2.2.1 (yX a.2.2.2.2.1) [nth (yR a a.2.2.2.2.1).1 a.2.2.2.1 0]
def ysj (a:dA):Int×dA:=bif(yR a a.2.2.2.2.1).2 then(bif ya (ybg a)then(6,ybg a)else(0,y19 (ybg a)))else(5,a)
def yzB (lost:Int) (br:Bool) (S:Int) (i:Nat) (m:dM):Prop:=yz m=true∧(m.1.length:Int)=6+S∧(m.2.2.1=true→(i:Int)=lost∨br=true)
def yHv (lost:Int) (br:Bool) (S:Int) (l:List dM):Prop:= ∀i,i<l.length→yzB lost br S i (nth l i yh)
theorem yx1 {lost S:Int} {br:Bool} {l:List dM} {i:Nat} {x:dM} (h:yHv lost br S l) (hx:i<l.length→yzB lost br S i x):yHv lost br S (l.set i x):=fun j hj=>by
 rw[List.length_set]at hj;by_cases e:j=i
 ·subst e
  rw[zkS,zkJ (by rw[List.length_set]; exact hj),List.getElem_set_self]; exact hx hj
 ·have:=h j hj
  rw[zkS,zkJ hj]at this;rw[zkS,zkJ (by rw[List.length_set]; exact hj),List.getElem_set_ne (fun e'=>e e'.symm)]; exact this
theorem y1o {a:dA}:ylg a=true↔yHv a.2.2.2.1 a.2.2.2.2.2.2.2.2.2.2.2 a.2.1.2 a.2.2.1∧(a.2.2.1.length:Int)=a.2.1.1:=by
 constructor
 ·intro h
  refine⟨fun i hi=>yXg h hi,?_⟩;simp only[ylg,Bool.and_eq_true,beq_iff_eq]at h; exact h.2
 ·rintro⟨h1,h2⟩
  simp only[ylg,Bool.and_eq_true,beq_iff_eq,Bool.not_eq_true',List.any_eq_false,List.mem_range];refine⟨fun i hi=> ?_,h2⟩;obtain⟨g1,g2,g3⟩:=h1 i hi;unfold ygX;rw[g1,show(((nth a.2.2.1 i yh).1.length:Int) !=6+a.2.1.2)=false from bne_eq_false_iff_eq.2 g2];cases hf:(nth a.2.2.1 i yh).2.2.1
  ·simp
  ·rcases g3 hf with e | e
   ·rw[show((i:Int) !=a.2.2.2.1)=false from bne_eq_false_iff_eq.2 e]; simp
   ·rw[e]; simp
def fuz (a:dA):Int:=a.2.2.2.2.2.2.2.2.2.1
def yap (a:dA):Prop:=(yHv a.2.2.2.1 a.2.2.2.2.2.2.2.2.2.2.2 a.2.1.2 a.2.2.1∧(a.2.2.1.length:Int)=a.2.1.1)∧ -1≤fuz a∧fuz a≤1000
def yaH (a:dA):Prop:=ye a.2.1=true∧(1≤a.1∧a.1≤60000)∧yaq a.2.1 a.2.2.2.2.2.2.2.2.1=true∧(-1≤a.2.2.2.1∧a.2.2.2.1≤a.2.1.1-1)∧(0≤a.2.2.2.2.1∧a.2.2.2.2.1≤a.2.1.2)∧(a.2.2.2.1= -1→a.2.2.2.2.1=0) ∧ (0≤a.2.2.2.2.2.2.1∧a.2.2.2.2.2.2.1≤60000)∧(a.2.2.2.2.2.2.1≤a.2.2.2.2.2.1∧a.2.2.2.2.2.1≤60000)∧a.2.2.2.2.2.1≤a.2.2.2.2.2.2.1+4∧0≤a.2.2.2.2.2.2.2.1∧a.2.2.2.2.2.2.2.1≤60000
theorem yKW {a:dA}:yO a=true↔yaH a∧yap a:=by
 unfold yO yaH yap fuz;simp only[Bool.and_eq_true,zj7,y1o,Bool.not_eq_true',Bool.and_eq_false_iff,beq_eq_false_iff_ne,bne_eq_false_iff_eq];constructor
 ·rintro⟨h1,h2,h3,h4,h5,h6,h7,h8,h9,h10,h11,h12⟩
  exact⟨⟨h1,h2,h4,h5,h6,fun e=>h7.resolve_left (fun g=>g e),h8,h9,h10,h11.1,h11.2⟩,h3,h12⟩
 ·rintro⟨⟨h1,h2,h4,h5,h6,h7,h8,h9,h10,h11,h11'⟩,h3,h12⟩
  exact⟨h1,h2,h3,h4,h5,h6,(Decidable.em (a.2.2.2.1= -1)).elim (fun e=> .inr (h7 e)) (fun e=> .inl e),h8,h9,h10,⟨h11,h11'⟩,h12⟩
theorem yKZ {a b:dA} (h:yv b=yv a) (ha:yaH a):yaH b:=by
 unfold yv at h;simp only[Prod.mk.injEq]at h;obtain⟨h1,h2,h3,h4,h5,h6,h7,h8,h9⟩:=h;unfold yaH at *;rw[h1,h2,h3,h4,h5,h6,h7,h8]; exact ha
theorem y3j {a b:dA} (h:yv b=yv a) (hl:b.2.2.1.length=a.2.2.1.length) (hm:yHv a.2.2.2.1 a.2.2.2.2.2.2.2.2.2.2.2 a.2.1.2 b.2.2.1) (hn:(a.2.2.1.length:Int)=a.2.1.1) (hf: -1≤fuz b∧fuz b≤1000):yap b:=by
 unfold yv at h;simp only[Prod.mk.injEq]at h;obtain⟨h1,h2,h3,h4,h5,h6,h7,h8,h9⟩:=h;unfold yap;rw[h2,h3,h9,hl]; exact⟨⟨hm,hn⟩,hf⟩
theorem y3M {a:dA} (h: -1≤fuz a∧fuz a≤1000): -1≤fuz (opA a).2∧fuz (opA a).2≤1000:=by
 unfold opA;cases ya a
 ·cases h0:(a.2.2.2.2.2.2.2.2.2.1==0)
  ·cases h1:ltb 0 a.2.2.2.2.2.2.2.2.2.1
   ·exact h
   ·have:=zka.1 h1
    unfold fuz at h;show -1≤i64.wrap (a.2.2.2.2.2.2.2.2.2.1-1)∧i64.wrap (a.2.2.2.2.2.2.2.2.2.1-1)≤1000;rw[wr (by omega) (by omega)]; omega
  ·show -1≤(-1:Int)∧(-1:Int)≤1000; omega
 ·exact h
theorem yK5 {a:dA} (h:yap a):yap (opA a).2:=y3j (yGV a) (by rw[yaE]) (by rw[yaE]; exact h.1.1) h.1.2 (y3M h.2)
theorem yw6 {a:dA} {m:Int} {x:dM} (h:yap a) (hm:inb m a.2.2.1.length=true) (hx:yzB a.2.2.2.1 a.2.2.2.2.2.2.2.2.2.2.2 a.2.1.2 m.toNat (nth a.2.2.1 m yh)→yzB a.2.2.2.1 a.2.2.2.2.2.2.2.2.2.2.2 a.2.1.2 m.toNat x):yap (yeo a m x):=by
 have hm:=zj6.1 hm;refine⟨⟨yx1 h.1.1 (fun hi=>hx ?_),by show((a.2.2.1.set m.toNat x).length:Int)=_; rw[List.length_set]; exact h.1.2⟩,h.2⟩;have:=h.1.1 m.toNat hi;rwa[Int.toNat_of_nonneg hm.1]at this
theorem y1n {lost S:Int} {br:Bool} {i:Nat} {m:dM} (n:Int) (s:List Int) (h:yzB lost br S i m):yzB lost br S i (yae m n s).1 :=
 ⟨y0o n s h.1,by rw[(yyu m n s).1]; exact h.2.1,by rw[(yyu m n s).2]; exact h.2.2⟩
theorem y1m {lost S:Int} {br:Bool} {i:Nat} {m:dM} (h:yzB lost br S i m):yzB lost br S i (yy m) :=
 ⟨y2v h.1,by rw[(ykm m).1]; exact h.2.1,by rw[(ykm m).2]; exact h.2.2⟩
theorem yDi {a:dA} {m n:Int} {s:List Int} (h:yap a) (hm:inb m a.2.2.1.length=true):yap (ycR a m n s):=by
 unfold ycR;cases(nth a.2.2.1 m yh).2.2.1
 ·cases(opA a).1
  ·exact yK5 h
  ·exact yw6 (yK5 h) (by rw[yaE]; exact hm) (fun g=>by rw[yaE]at g; exact y1n _ _ g)
 ·exact h
theorem yZW {a:dA} {i:Nat} (h:yap a) (hi:i<a.2.2.1.length):yap (yN a i):=by
 unfold yN;cases(nth a.2.2.1 i yh).2.2.1
 ·cases(opA a).1
  ·exact yK5 h
  ·exact yw6 (yK5 h) (by rw[yaE]; exact zkR hi) (fun g=>by rw[yaE]at g; exact y1m g)
 ·exact h
theorem ykL {P:dA→Prop} {one:dA→Nat→dA} (hl: ∀a i,(one a i).2.2.1.length=a.2.2.1.length) (ho: ∀a i,P a→i<a.2.2.1.length→P (one a i)): ∀(n:Nat) (a:dA),n≤a.2.2.1.length→P a→P ((List.range n).foldl one a)
 | 0,_,_,h=>h
 | n+1,a,hn,h=>by
  rw[List.range_succ,List.foldl_append];exact ho _ _ (ykL hl ho n a (by omega) h) (by rw[yq7 hl]; exact hn)
theorem yE4 {a:dA} (h:yap a):yap (yx a):=ykL (P:=yap) (one:=yN) ylD (fun _ _=>yZW) _ a (Nat.le_refl _) h
theorem yXd {a:dA} (h:yap a):yap (yak a) :=yE4 (ykL (P:=yap) (one:=yaf) (fun _ _=>yse _ _ _ _) (fun _ _ h hi=>yDi h (zkR hi)) _ (yay a) (Nat.le_refl _) h)
def yiN (a:dA):Prop:=ya a=false∧fuz a= -1
theorem y0W {a:dA} (h:yiN a):opA a=(true,a):=by
 unfold opA;rw[h.1,show a.2.2.2.2.2.2.2.2.2.1= -1 from h.2]; rfl
theorem yHr {a:dA} (h:yiN a) (m n:Int) (s:List Int):yiN (ycR a m n s):=by
 unfold ycR;rw[y0W h];cases(nth a.2.2.1 m yh).2.2.1<;>exact h
theorem yZO {a:dA} (h:yiN a) (i:Nat):yiN (yN a i):=by
 unfold yN;rw[y0W h];cases(nth a.2.2.1 i yh).2.2.1<;>exact h
theorem yEZ {a:dA} (h:yiN a):yiN (yx a):=ykL (P:=yiN) (one:=yN) ylD (fun _ i h _=>yZO h i) _ a (Nat.le_refl _) h
theorem y1P {a:dA} (h:yiN a):yiN (yak a) :=yEZ (ykL (P:=yiN) (one:=yaf) (fun _ _=>yse _ _ _ _) (fun _ _ h _=>yHr h _ _ _) _ (yay a) (Nat.le_refl _) h)
theorem yRN {a:dA} (h:yiN a):yW a=yak (ybe (yx a)):=by
 unfold yW;rw[(yEZ h).1]; rfl
def Wk (k:Int) (a:dA):Prop:=yaH a∧yap a∧yiN a∧a.2.2.2.2.2.2.2.2.2.2.2=false∧a.2.2.2.2.2.2.2.1≤k
theorem y3S {k:Int} {a:dA} (h:Wk k a):yO a=true:=yKW.2 ⟨h.1,h.2.1⟩
theorem ydg {k j:Int} {a:dA} (h:Wk k a) (hj:k≤j):Wk j a:=⟨h.1,h.2.1,h.2.2.1,h.2.2.2.1,Int.le_trans h.2.2.2.2 hj⟩
theorem yBk {k:Int} {a b:dA} (hc:yv b=yv a) (hk:yap b) (hf:yiN b) (h:Wk k a):Wk k b:=by
 refine⟨yKZ hc h.1,hk,hf,?_⟩;unfold yv at hc;simp only[Prod.mk.injEq]at hc;obtain⟨_,_,_,_,_,_,h7,_,h9⟩:=hc;rw[h7,h9]; exact h.2.2.2
theorem y3U {k:Int} {a:dA} {m n:Int} {s:List Int} (h:Wk k a) (hm:inb m a.2.2.1.length=true):Wk k (ycR a m n s):=yBk (yrr _ _ _ _) (yDi h.2.1 hm) (yHr h.2.2.1 _ _ _) h
theorem y3v {k:Int} {a:dA} (h:Wk k a):Wk k (yx a):=yBk (ydf _) (yE4 h.2.1) (yEZ h.2.2.1) h
theorem y2V {k:Int} {a:dA} (h:Wk k a) (hk:k+1≤60000):Wk (k+1) (yay a):=by
 obtain⟨⟨c1,c2,c3,c4,c5,c6,c7,c8,c9,c10,c11⟩,h2,h3,h4,h5⟩:=h;have e:i64.wrap (a.2.2.2.2.2.2.2.1+1)=a.2.2.2.2.2.2.2.1+1:=wr (by omega) (by omega);refine⟨⟨c1,c2,c3,c4,c5,c6,c7,c8,c9,?_,?_⟩,h2,h3,h4,?_⟩
 ·show 0≤i64.wrap (a.2.2.2.2.2.2.2.1+1); omega
 ·show i64.wrap (a.2.2.2.2.2.2.2.1+1)≤_; omega
 ·show i64.wrap (a.2.2.2.2.2.2.2.1+1)≤_; omega
theorem yWW {k:Int} {a:dA} (h:Wk k a) (hk:k+1≤60000):Wk (k+1) (yak a):=yBk (ynv _) (yXd h.2.1) (y1P h.2.2.1) (y2V h hk)
theorem y2g {k:Int} {a:dA} (h:Wk k a):Wk k (ybe a):=by
 obtain⟨⟨c1,c2,c3,c4,c5,c6,c7,c8,c9,c10,c11⟩,h2,h3,h4,h5⟩:=h;refine⟨⟨c1,c2,c3,c4,c5,c6,⟨?_,?_⟩,⟨Int.le_refl _,c8.2⟩,?_,c10,c11⟩,h2,h3,h4,h5⟩
 ·show 0≤a.2.2.2.2.2.1; omega
 ·show a.2.2.2.2.2.1≤60000; omega
 ·show a.2.2.2.2.2.1≤a.2.2.2.2.2.1+4; omega
theorem y0k {k:Int} {a:dA} (h:Wk k a) (hk:k+1≤60000):Wk (k+1) (yW a):=by
 rw[yRN h.2.2.1]; exact yWW (y2g (y3v h)) hk
theorem y2f {k:Int} {a:dA} {m:Int} {x:dM} (h:Wk k a) (hm:inb m a.2.2.1.length=true) (hx:yzB a.2.2.2.1 a.2.2.2.2.2.2.2.2.2.2.2 a.2.1.2 m.toNat (nth a.2.2.1 m yh)→yzB a.2.2.2.1 a.2.2.2.2.2.2.2.2.2.2.2 a.2.1.2 m.toNat x):Wk k (yeo a m x) :=yBk (a:=a) (b:=yeo a m x) rfl (yw6 h.2.1 hm hx) h.2.2.1 h
theorem y3t {k m:Int} {a:dA} (h:Wk k a) (hl:a.2.2.2.1= -1) (hm:inb m a.2.2.1.length=true) (hk:k+1≤60000):Wk (k+1) (yoC a m):=by
 have hmi:=zj6.1 hm
 have hw:Wk k (yev a m):=by
  obtain⟨⟨c1,c2,c3,c4,c5,c6,c7,c8,c9,c10,c11⟩,⟨⟨g1,g2⟩,g3⟩,f,b,t⟩:=h;refine⟨⟨c1,c2,c3,⟨?_,?_⟩,⟨Int.le_refl _,by show(0:Int)≤a.2.1.2; omega⟩,fun e=>rfl,c7,c8,c9,c10,c11⟩,⟨⟨?_,?_⟩,g3⟩,f,b,t⟩
  ·show -1≤m; omega
  ·show m≤a.2.1.1-1; omega
  ·show yHv m a.2.2.2.2.2.2.2.2.2.2.2 a.2.1.2 (a.2.2.1.set m.toNat (ylB (nth a.2.2.1 m yh)))
   refine yx1 (fun i hi=> ?_) (fun hi=> ?_)
   ·obtain⟨e1,e2,e3⟩:=g1 i hi
    refine⟨e1,e2,fun e=> ?_⟩;rcases e3 e with e | e
    ·omega
    ·exact .inr e
   ·have:=g1 m.toNat hi
    rw[Int.toNat_of_nonneg hmi.1]at this;exact⟨y0P this.1,this.2.1,fun _=> .inl (Int.toNat_of_nonneg hmi.1)⟩
  ·show((a.2.2.1.set m.toNat (ylB (nth a.2.2.1 m yh))).length:Int)=a.2.1.1
   rw[List.length_set]; exact g2
 unfold yoC;rw[show(a.2.2.2.1== -1)=true from beq_iff_eq.2 hl,h.2.2.1.1,h.2.2.2.1];cases ltb a.2.2.2.2.2.2.2.1 60000
 ·exact ydg hw (by omega)
 ·exact yWW hw hk
theorem y2X {k:Int} {a:dA} (h:Wk k a) (hl:inb a.2.2.2.1 a.2.2.1.length=true) (hk:k+1≤60000):Wk (k+1) (yak (yb2 a)):=by
 have hmi:=zj6.1 hl;refine yWW ?_ hk;obtain⟨⟨c1,c2,c3,c4,c5,c6,c7,c8,c9,c10,c11⟩,⟨⟨g1,g2⟩,g3⟩,f,b,t⟩:=h;have hg:=yj.1 c1;refine⟨⟨c1,c2,c3,c4,⟨Int.le_refl _,by show(0:Int)≤a.2.1.2; omega⟩,fun e=>rfl,c7,c8,c9,c10,c11⟩,⟨⟨yx1 g1 (fun hi=>⟨yXf (by omega) (by omega),?_,fun e=> ?_⟩),?_⟩,g3⟩,f,b,t⟩
 ·unfold ycu
  rw[zk2 (show 1≤6+a.2.1.2 by omega),zk2 (show 6+a.2.1.2≤20 by omega)];show((List.replicate (6+a.2.1.2).toNat ([]:List Int)).length:Int)=6+a.2.1.2;rw[List.length_replicate]; omega
 ·unfold ycu at e
  rw[zk2 (show 1≤6+a.2.1.2 by omega),zk2 (show 6+a.2.1.2≤20 by omega)]at e;cases e
 ·show((a.2.2.1.set a.2.2.2.1.toNat (ycu (6+a.2.1.2))).length:Int)=a.2.1.1
  rw[List.length_set]; exact g2
theorem y3u {k:Int} {a:dA} (h:Wk k a) (hl:inb a.2.2.2.1 a.2.2.1.length=true) (hb:a.2.2.2.2.1<a.2.1.2):Wk k (ysj a).2:=by
 have hp:Wk k (ybg a):=y3U h hl;have e:=yrr a a.2.2.2.1 (yX a.2.2.2.2.1) [nth (yR a a.2.2.2.2.1).1 a.2.2.2.1 0];have e1:(ybg a).2.2.2.2.1=a.2.2.2.2.1:=ybc e;have e2:(ybg a).2.1=a.2.1:=yaQ e;have e3:(ybg a).2.2.2.1=a.2.2.2.1:=congrArg (fun x=>x.2.2.1) e;unfold ysj;cases(yR a a.2.2.2.2.1).2
 ·exact h
 ·generalize ybg a=R at hp e1 e2 e3 ⊢
  rw[hp.2.2.1.1];have hmi:=zj6.1 hl;obtain⟨⟨c1,c2,c3,c4,c5,c6,c7,c8,c9,c10,c11⟩,g2,g3,g4,g5⟩:=hp;have hg:=yj.1 c1;have e4:i64.wrap (R.2.2.2.2.1+1)=R.2.2.2.2.1+1:=wr (by omega) (by omega);refine⟨⟨c1,c2,c3,c4,⟨?_,?_⟩,fun e=> ?_,c7,c8,c9,c10,c11⟩,g2,g3,g4,g5⟩
  ·show 0≤i64.wrap (R.2.2.2.2.1+1); omega
  ·show i64.wrap (R.2.2.2.2.1+1)≤R.2.1.2; rw[e4,e1,e2]; omega
  ·have:R.2.2.2.1= -1:=e
   omega
def y07 (a:dA):Prop:=a.2.2.1.length≤1000000000∧(∀m∈a.2.2.1,m.1.length≤1000000000∧m.2.1.length≤1000000000)∧a.2.2.2.2.2.2.2.2.1.length≤1000000000
theorem yZY {d:List dW} {a:dA} (h:y3y d a) (hd:d.length≤1000000000):y07 a:=by
 refine⟨by have:=h.1; omega,fun m hm=> ?_,by rw[h.2.2]; exact hd⟩;obtain⟨_,_,_,_,h5,h6⟩:=ycv (h.2.1 m hm);omega
theorem yc0 {a b:dA} (h:yv a=yv b):a.2.2.2.1=b.2.2.2.1:=congrArg (fun x=>x.2.2.1) h
theorem y0d (s:dS):yan (yD s)=true:=by
 unfold yD;cases h:yaD s
 ·rfl
 ·unfold yaD at h
  simp only[yb6]at h;cases hg:ye (s.2.2.2.1,s.2.2.2.2.1)
  ·rw[hg]at h; cases h
  have hge:=yj.1 hg;simp only at hge;rw[hg,wq (s.2.2.2.1-1) (by omega) (by omega)]at h;cases h2:(leb 1 s.1&&leb s.1 60000)
  ·rw[h2]at h; cases h
  cases h3:(leb 0 s.2.1&&leb s.2.1 60000)
  ·rw[h2,h3]at h; cases h
  cases h4:(leb 0 s.2.2.1&&leb s.2.2.1 (s.2.2.2.1-1))
  ·rw[h2,h3,h4]at h; cases h
  cases h5:(leb 0 s.2.2.2.2.2.1&&leb s.2.2.2.2.2.1 60000)
  ·rw[h2,h3,h4,h5]at h; cases h
  cases h6:(leb (-1) s.2.2.2.2.2.2.1&&leb s.2.2.2.2.2.2.1 (s.2.2.2.1-1))
  ·rw[h2,h3,h4,h5,h6]at h; cases h
  cases h7:(leb 0 s.2.2.2.2.2.2.2&&leb s.2.2.2.2.2.2.2 s.2.2.2.2.1)
  ·rw[h2,h3,h4,h5,h6,h7]at h; cases h
  simp only[Bool.and_eq_true,zj7]at h2 h3 h4 h5 h6 h7;rw[yFx];refine⟨by show(9:Nat)≤12; omega,?_⟩;have hw:i64.wrap (s.2.2.2.2.2.2.1+1)=s.2.2.2.2.2.2.1+1:=wr (by omega) (by omega);simp only[Bool.not_true,cond_false,hw,List.mem_cons,List.not_mem_nil,or_false]
  rintro x (rfl | rfl | rfl | rfl | rfl | rfl | rfl | rfl | rfl)<;>omega
theorem yHD {g:dG} (id i:Int) (hg:ye g=true):yz (yI id g i)=true∧((yI id g i).1.length:Int)=6+g.2∧(yI id g i).2=([],false,[]):=by
 have hge:=yj.1 hg
 have hm:ycu (6+g.2)=(List.replicate (6+g.2).toNat [],[],false,[]):=by
  unfold ycu;rw[zk2 (show 1≤6+g.2 by omega),zk2 (show 6+g.2≤20 by omega)]; rfl
 have key: ∀(l:List Nat) (m:dM),m.1.all yan=true∧m.2=([],false,[])→(l.foldl ysd m).1.all yan=true∧(l.foldl ysd m).2=([],false,[]):=by
  intro l
  induction l with
  | nil=>intro m h; exact h
  | cons x t ih =>
   intro m h;refine ih _ ⟨?_,h.2⟩;rw[List.all_eq_true];intro y hy;rcases List.mem_or_eq_of_mem_set hy with h1 | rfl
   ·exact List.all_eq_true.1 h.1 y h1
   ·rfl
 have ht:(yj6 id g i).1.all yan=true∧(yj6 id g i).2=([],false,[]):=by
  unfold yj6;rw[hm];refine⟨?_,rfl⟩;rw[List.all_eq_true];intro y hy;rcases List.mem_or_eq_of_mem_set hy with h1 | rfl
  ·rw[List.eq_of_mem_replicate h1]; rfl
  ·exact y0d _
 have hl:((yI id g i).1.length:Int)=6+g.2:=by
  unfold yI;rw[yNz];unfold yj6;rw[hm];show(((List.replicate (6+g.2).toNat ([]:List Int)).set 0 _).length:Int)=_;rw[List.length_set,List.length_replicate]; omega
 obtain⟨h1,h2⟩:=key (List.range g.2.toNat) _ ht;refine⟨yww h1 ?_ ?_ ?_ ?_ ?_,hl,h2⟩
 ·show List.all ((yI id g i).2).1 _=true
  rw[show(yI id g i).2=([],false,[])from h2]; rfl
 ·show yoz _ ((yI id g i).2).2.2=true
  rw[show(yI id g i).2=([],false,[])from h2,yrY];exact⟨fun x hx=>absurd hx List.not_mem_nil,List.Pairwise.nil⟩
 ·show 1≤(yI id g i).1.length; omega
 ·show(yI id g i).1.length≤20; omega
 ·show((yI id g i).2).1.length≤60
  rw[show(yI id g i).2=([],false,[])from h2]; exact Nat.zero_le _
theorem yJd {id:Int} {g:dG} (hg:ye g=true) (h1:1≤id) (h2:id≤60000):yla id g=(id,g,(List.range g.1.toNat).map (fun(i:Nat)=>yI id g i),-1,0,0,0,0,[],-1,false,false):=by
 unfold yla;rw[hg,zk2 h1,zk2 h2]
 have: ∀(n:Nat),(List.range n).foldl (fun a (i:Nat)=>yCc a (yI id g i)) (yCg id g)=(id,g,(List.range n).map (fun(i:Nat)=>yI id g i),-1,0,0,0,0,[],-1,false,false):=by
  intro n
  induction n with
  | zero=>rfl
  | succ n ih=>rw[List.range_succ,List.foldl_append,ih,List.map_append]; rfl
 exact this _
theorem y2e {id:Int} {g:dG} (hg:ye g=true) (h1:1≤id) (h2:id≤60000):Wk 0 (yla id g):=by
 have hge:=yj.1 hg;rw[yJd hg h1 h2];have hl:((List.range g.1.toNat).map (fun(i:Nat)=>yI id g i)).length=g.1.toNat:=by rw[List.length_map,List.length_range]
 refine⟨⟨hg,⟨h1,h2⟩,?_,⟨Int.le_refl _,?_⟩,⟨Int.le_refl _,?_⟩,fun _=>rfl,?_,?_,?_,?_,?_⟩,⟨⟨fun i hi=> ?_,?_⟩,?_,?_⟩,⟨rfl,rfl⟩,rfl,Int.le_refl _⟩
 ·rfl
 ·show(-1:Int)≤g.1-1; omega
 ·show(0:Int)≤g.2; omega
 ·show(0:Int)≤0∧(0:Int)≤60000; omega
 ·show(0:Int)≤0∧(0:Int)≤60000; omega
 ·show(0:Int)≤0+4; omega
 ·show(0:Int)≤0; omega
 ·show(0:Int)≤60000; omega
 ·have hi':i<((List.range g.1.toNat).map (fun(i:Nat)=>yI id g i)).length:=hi
  show yzB (-1) false g.2 i (nth ((List.range g.1.toNat).map (fun(i:Nat)=>yI id g i)) i yh);rw[zkS,zkJ hi',List.getElem_map,List.getElem_range];obtain⟨k1,k2,k3⟩:=yHD id i hg;refine⟨k1,k2,fun e=> ?_⟩;rw[show(yI id g i).2=([],false,[])from k3]at e;cases e
 ·show(((List.range g.1.toNat).map (fun(i:Nat)=>yI id g i)).length:Int)=g.1
  rw[hl]; omega
 ·show(-1:Int)≤ -1; omega
 ·show(-1:Int)≤1000; omega
theorem y2Y {k m n:Int} {a:dA} (h:Wk k a) (hm:inb m a.2.2.1.length=true):Wk k (yeo a m (spoil (nth a.2.2.1 m yh) n)) :=
 y2f h hm (fun g=>⟨y0g n g.1,by rw[(yFB _ _).1]; exact g.2.1,by rw[(yFB _ _).2]; exact g.2.2⟩)
def yUC:Code:=(f27.body).getD .skip
def yU5:Env:=zkw TT [(31,ypf),(94,yxr)] []
theorem yL1:FrOk prog ⟨yU5,87,fun _=>none⟩ yUC:=zkA mixed yc ⟨yDv,yNc,trivial⟩
abbrev yvW:List Par:= [.rd tA,.rd tA]
abbrev ywe:List OT:= [⟨false,tB,.fz⟩]
def yg5 (a0 a1:dA):Option (zaY ywe×zak yvW) :=bif(a0.1==a1.1)then bif((a0.2.1.1==a1.2.1.1)&&((a0.2.1.2==a1.2.1.2)&&true))then bnd (ydQ a0.2.2.1 a1.2.2.1) fun r1 =>bif r1.1.1 then bif(a0.2.2.2.1==a1.2.2.2.1)then bif(a0.2.2.2.2.1==a1.2.2.2.2.1)then bif(a0.2.2.2.2.2.1==a1.2.2.2.2.2.1)then bif(a0.2.2.2.2.2.2.1==a1.2.2.2.2.2.2.1)then bif(a0.2.2.2.2.2.2.2.1==a1.2.2.2.2.2.2.2.1)then bnd (yfa a0.2.2.2.2.2.2.2.2.1 a1.2.2.2.2.2.2.2.2.1) fun r2 =>bif r2.1.1 then bif(a0.2.2.2.2.2.2.2.2.2.1==a1.2.2.2.2.2.2.2.2.2.1)then bif(a0.2.2.2.2.2.2.2.2.2.2.1==a1.2.2.2.2.2.2.2.2.2.2.1)then some (((a0.2.2.2.2.2.2.2.2.2.2.2==a1.2.2.2.2.2.2.2.2.2.2.2),()),()) else some ((false,()),()) else some ((false,()),()) else some ((false,()),()) else some ((false,()),()) else some ((false,()),()) else some ((false,()),()) else some ((false,()),()) else some ((false,()),()) else some ((false,()),()) else some ((false,()),()) else some ((false,()),())
theorem yP9:ConOk prog 27 ⟨yvW,ywe,fun x=>yg5 x.1 x.2.1⟩:=zkI (yL1) func27 ntmps27.symm fun x=>by kernel_rfl
def yCy:Con:=⟨yvW,ywe,fun x=>yg5 x.1 x.2.1⟩
theorem yTX:ConOk prog 27 yCy:=yP9
theorem y2O (a:dA) (h:y07 a):yg5 a a=some ((true,()),()):=by
 unfold yg5;rw[yXm _ h.1 h.2.1,y1s _ h.2.2];simp only[beq_self_eq_true,Bool.and_self,zkH,cond_true]
def yXF:Code:=(f81.body).getD .skip
def yYa:Env:=zkw TT [] []
theorem yOo:FrOk prog ⟨yYa,15,fun _=>none⟩ yXF:=zkA mixed yc trivial
abbrev yyM:List Par:= [.rd tI,.rd tI,.rd tI]
abbrev yzb:List OT:= [⟨false,tB,.fz⟩]
def yFp (a0 a1 a2:Int):Option (zaY yzb×zak yyM) :=bif(leb a1 a0)then some (((leb a0 a2),()),()) else some ((false,()),())
theorem yTq:ConOk prog 81 ⟨yyM,yzb,fun x=>yFp x.1 x.2.1 x.2.2.1⟩:=zkI (yOo) func81 ntmps81.symm fun x=>by kernel_rfl
def yf (a0 a1 a2:Int):Bool :=bif(leb a1 a0)then (leb a0 a2) else false
def yJ:Con:=⟨yyM,yzb,fun x=>(fun n=>some ((n,()),())) (yf x.1 x.2.1 x.2.2.1)⟩
theorem yVK (a0 a1 a2:Int):yFp a0 a1 a2=(fun n=>some ((n,()),())) (yf a0 a1 a2):=zkV (p:=fun(n:Bool)=>((n,()),())) (zkG (p:=fun(n:Bool)=>((n,()),())) rfl rfl)
theorem yY:ConOk prog 81 yJ:=(yTq).mono (fun x r _ h=>(yVK x.1 x.2.1 x.2.2.1).trans h)
theorem yas (a b c:Int):yf a b c=yb a b c:=by kernel_rfl
def yXD:Code:=(f135.body).getD .skip
def yX8:Env:=zkw TT [(81,yJ)] []
theorem yOm:FrOk prog ⟨yX8,5,fun _=>none⟩ yXD:=zkA mixed yc ⟨yY,trivial⟩
abbrev yyK:List Par:= [.rd tI]
abbrev yy9:List OT:= [⟨false,tB,.fz⟩]
def yFn (a0:Int):Option (zaY yy9×zak yyK) :=let r1:=yf a0 0 65535;some ((r1,()),())
theorem yTo:ConOk prog 135 ⟨yyK,yy9,fun x=>yFn x.1⟩:=zkI (yOm) func135 ntmps135.symm fun x=>by kernel_rfl
def yai (a0:Int):Bool :=let r1:=yf a0 0 65535;r1
def ytU:Con:=⟨yyK,yy9,fun x=>(fun n=>some ((n,()),())) (yai x.1)⟩
theorem yVI (a0:Int):yFn a0=(fun n=>some ((n,()),())) (yai a0):=zkV (p:=fun(n:Bool)=>((n,()),())) rfl
theorem yGQ:ConOk prog 135 ytU:=(yTo).mono (fun x r _ h=>(yVI x.1).trans h)
def yXC:Code:=(f156.body).getD .skip
def yX7:Env:=zkw TT [(81,yJ)] []
theorem yOl:FrOk prog ⟨yX7,11,fun _=>none⟩ yXC:=zkA mixed yc ⟨yY,trivial⟩
abbrev yyJ:List Par:= [.rd tM,.rd tI]
abbrev yy8:List OT:= [⟨false,tB,.fz⟩]
def yFm (a0:dM) (a1:Int):Option (zaY yy8×zak yyJ) :=let r1:=yf a1 0 (i64.wrap ((a0.1.length:Int)-1));some ((r1,()),())
theorem yTn:ConOk prog 156 ⟨yyJ,yy8,fun x=>yFm x.1 x.2.1⟩:=zkI (yOl) func156 ntmps156.symm fun x=>by kernel_rfl
def ybC (a0:dM) (a1:Int):Bool :=let r1:=yf a1 0 (i64.wrap ((a0.1.length:Int)-1));r1
def ymR:Con:=⟨yyJ,yy8,fun x=>(fun n=>some ((n,()),())) (ybC x.1 x.2.1)⟩
theorem yVH (a0:dM) (a1:Int):yFm a0 a1=(fun n=>some ((n,()),())) (ybC a0 a1):=zkV (p:=fun(n:Bool)=>((n,()),())) rfl
theorem ywz:ConOk prog 156 ymR:=(yTn).mono (fun x r _ h=>(yVH x.1 x.2.1).trans h)
def yod:Code:=(f187.body).getD .skip
def yvK:Env:=zkw TT [(135,ytU)] []
theorem yLZ:FrOk prog ⟨yvK,15,fun _=>none⟩ yod:=zkA mixed yc ⟨yGQ,trivial⟩
def yBq:Nat→Option Seg:=fun _=>none
def ydL:Shape:=⟨[(5,false,[.br tI]),(6,false,[.int .i64]),(7,false,[.int .i64])],[],[]⟩
def yi0:Shape:=⟨[(5,false,[.br tI]),(6,false,[.int .i64]),(7,false,[.ci .i64 0])],[],[]⟩
def yiY:Shape:=⟨[],[],[]⟩
def yi8:Shape:=⟨[(2,false,[.bool])],[],[]⟩
def yn1 (v0:List Int) (v1 v2:Int):Option ((ydL).X ⊕ ((yiY).X ⊕ (yi8).X)) :=bif(ltb v2 v1)then bif(inb v2 v0.length)then let r2:=yai (nth v0 v2 0);bif(!r2)then some (.inr (.inr (((false,()),()),(),()))) else some (.inl (((v0,()),(v1,()),((i64.wrap (v2+1)),()),()),(),())) else none else some (.inr (.inl ((),(),())))
def yck (x:(ydL).X):=yn1 x.1.1.1 x.1.2.1.1 x.1.2.2.1.1
def yxC (x:(yi0).X):(ydL).X:=(((x.1.1.1,()),(x.1.2.1.1,()),(0,()),()),(),())
def yz6:Code:=(zd7 yod 64 52).getD .skip
theorem yLA:zd7 yod 64 13=some (.block 0 (.loop yz6)):=by kernel_rfl
theorem yNn (x:(ydL).X):zhu ⟨yvK,15,yBq⟩ 0 yz6 52 ydL yiY yi8 x=yck x:=by kernel_rfl
def yxT (x:(yi0).X):Nat:=18446744073709551616
def yoZ (x:(yi0).X):Option ((yiY).X ⊕ (yi8).X):=zF yck (yxT x) (yxC x)
def yym:Seg:=⟨yi0,yiY,yi8,yoZ⟩
def yNO:Nat→Option Seg:=fun q=>bif Nat.beq q 13 then some yym else yBq q
theorem yL0:FrOk prog ⟨yvK,15,yNO⟩ yod:=(yLZ).loop (sg:=yym) ydL yxC (by decide) yLA yck yxT (by decide) (fun _=>rfl) (fun x r _ h=>h) yNn
abbrev yoo:List Par:= [.rd tL]
abbrev ywd:List OT:= [⟨false,tB,.fz⟩]
def yrz (a0:List Int):Option (zaY ywd×zak yoo) :=zkt (yoZ (((a0,()),((a0.length:Int),()),((),()),()),(),())) (fun y2 =>some ((true,()),())) (fun y2 =>some ((y2.1.1.1,()),()))
theorem yP8:ConOk prog 187 ⟨yoo,ywd,fun x=>yrz x.1⟩:=zkI (yL0) func187 ntmps187.symm fun x=>by kernel_rfl
def yar (a0:List Int):Bool:=a0.all yai
theorem yS0 (a0:List Int) (hk:zjx yoo (a0,())):yrz a0=(fun n=>some ((n,()),())) (yar a0):=by
 have hb:a0.length*8≤2^47:=hk.1.1
 have hl:yoZ (((a0,()),((a0.length:Int),()),((),()),()),(),())=some (bif a0.all yai then .inl ((),(),())else .inr (((false,()),()),(),())) :=
  zj9 (step:=yck) a0 0 (fun i=>(((a0,()),((a0.length:Int),()),((i:Int),()),()),(),())) yai _ _ (fun i hi=>by
   simp only[yck,yn1,zkR hi,zkS,zky (show(i:Int)<a0.length by omega),cond_true,wq ((i:Int)+1) (by omega) (by omega),Int.natCast_add,Int.natCast_one]
   cases yai (a0.getD i 0)<;>rfl) (by simp only[yck,yn1,zk3 (Int.le_refl _),cond_false]) _ (by show _<18446744073709551616; omega)
 unfold yrz yar;rw[hl];cases a0.all yai<;>rfl
def ykJ:Con:=⟨yoo,ywd,fun x=>(fun n=>some ((n,()),())) (yar x.1)⟩
theorem yus:ConOk prog 187 ykJ:=(yP8).mono (fun x r hk h=>(yS0 x.1 hk).trans h)
def yZi:Code:=(f186.body).getD .skip
def yZv:Env:=zkw TT [(187,ykJ)] []
theorem yR4:FrOk prog ⟨yZv,10,fun _=>none⟩ yZi:=zkA mixed yc ⟨yus,trivial⟩
abbrev yBL:List Par:= [.rd tL]
abbrev yBW:List OT:= [⟨false,tB,.fz⟩]
def yG2 (a0:List Int):Option (zaY yBW×zak yBL) :=bif(leb (a0.length:Int) 12)then let r1:=yar a0;some ((r1,()),()) else some ((false,()),())
theorem yWb:ConOk prog 186 ⟨yBL,yBW,fun x=>yG2 x.1⟩:=zkI (yR4) func186 ntmps186.symm fun x=>by kernel_rfl
def ygZ (a0:List Int):Bool :=bif(leb (a0.length:Int) 12)then let r1:=yar a0;r1 else false
def ywp:Con:=⟨yBL,yBW,fun x=>(fun n=>some ((n,()),())) (ygZ x.1)⟩
theorem yYy (a0:List Int):yG2 a0=(fun n=>some ((n,()),())) (ygZ a0):=zkV (p:=fun(n:Bool)=>((n,()),())) (zkG (p:=fun(n:Bool)=>((n,()),())) rfl rfl)
theorem yH0:ConOk prog 186 ywp:=(yWb).mono (fun x r _ h=>(yYy x.1).trans h)
theorem yFP:ygZ=yan:=funext fun s=>by
 unfold ygZ yan yar;rw[show yai=isW from funext fun x=>by unfold yai; rw[yas,yb6]; rfl];cases leb (s.length:Int) 12<;>rfl
def ycr:Code:=(f127.body).getD .skip
def ygq:Env:=zkw TT [(81,yJ),(156,ymR),(186,ywp)] []
theorem yRZ:FrOk prog ⟨ygq,76,fun _=>none⟩ ycr:=zkA mixed yc ⟨yY,ywz,yH0,trivial⟩
def yF0:Nat→Option Seg:=fun _=>none
def ydj:Shape:=⟨[(1,false,[.ptr 0 0]),(10,false,[.br tL]),(11,false,[.int .i64]),(12,false,[.int .i64])],[(0,[.br tL,.br tW,.bool,.br tI])],[]⟩
def yhY:Shape:=⟨[(1,false,[.ptr 0 0]),(10,false,[.br tL]),(11,false,[.int .i64]),(12,false,[.ci .i64 0])],[(0,[.br tL,.br tW,.bool,.br tI])],[]⟩
def yhJ:Shape:=⟨[(1,false,[.ptr 0 0])],[(0,[.br tL,.br tW,.bool,.br tI])],[]⟩
def yif:Shape:=⟨[(2,false,[.bool])],[],[]⟩
abbrev yq9 (v0:List (List Int)) (v1 v2:Int) (v3:dM):(ydj).X:=((((),()),(v0,()),(v1,()),(v2,()),()),((v3.1,v3.2.1,v3.2.2.1,v3.2.2.2,()),()),())
abbrev yPd (v0:List (List Int)) (v1:Int) (v2:dM):(yhY).X:=((((),()),(v0,()),(v1,()),((),()),()),((v2.1,v2.2.1,v2.2.2.1,v2.2.2.2,()),()),())
abbrev yO5 (v0:dM):(yhJ).X:=((((),()),()),((v0.1,v0.2.1,v0.2.2.1,v0.2.2.2,()),()),())
abbrev yPr (v0:Bool):(yif).X:=(((v0,()),()),(),())
def yrK (v0:List (List Int)) (v1 v2:Int) (v3:List (List Int)) (v4:List dW) (v5:Bool) (v6:List Int):Option ((ydj).X ⊕ ((yhJ).X ⊕ (yif).X)) :=bif(ltb v2 v1)then bif(inb v2 v0.length)then let r2:=ygZ (nth v0 v2 []);bif(!r2)then some (.inr (.inr (((false,()),()),(),()))) else some (.inl ((((),()),(v0,()),(v1,()),((i64.wrap (v2+1)),()),()),((v3,v4,v5,v6,()),()),())) else none else some (.inr (.inl ((((),()),()),((v3,v4,v5,v6,()),()),())))
def ydS (x:(ydj).X):=yrK x.1.2.1.1 x.1.2.2.1.1 x.1.2.2.2.1.1 x.2.1.1.1 x.2.1.1.2.1 x.2.1.1.2.2.1 x.2.1.1.2.2.2.1
def yCL (x:(yhY).X):(ydj).X:=((((),()),(x.1.2.1.1,()),(x.1.2.2.1.1,()),(0,()),()),((x.2.1.1.1,x.2.1.1.2.1,x.2.1.1.2.2.1,x.2.1.1.2.2.2.1,()),()),())
def yEm:Code:=(zd7 ycr 64 52).getD .skip
theorem yRx:zd7 ycr 64 13=some (.block 0 (.loop yEm)):=by kernel_rfl
theorem yUe (x:(ydj).X):zhu ⟨ygq,76,yF0⟩ 0 yEm 52 ydj yhJ yif x=ydS x:=by kernel_rfl
def yC1 (x:(yhY).X):Nat:=18446744073709551616
def ysM (x:(yhY).X):Option ((yhJ).X ⊕ (yif).X):=zF ydS (yC1 x) (yCL x)
def yDL:Seg:=⟨yhY,yhJ,yif,ysM⟩
def yvC:Nat→Option Seg:=fun q=>bif Nat.beq q 13 then some yDL else yF0 q
theorem yR0:FrOk prog ⟨ygq,76,yvC⟩ ycr:=(yRZ).loop (sg:=yDL) ydj yCL (by decide) yRx ydS yC1 (by decide) (fun _=>rfl) (fun x r _ h=>h) yUe
def ydk:Shape:=⟨[(1,false,[.ptr 0 0]),(21,false,[.br tW]),(22,false,[.int .i64]),(23,false,[.int .i64])],[(0,[.br tL,.br tW,.bool,.br tI])],[]⟩
def yhZ:Shape:=⟨[(1,false,[.ptr 0 0]),(21,false,[.br tW]),(22,false,[.int .i64]),(23,false,[.ci .i64 0])],[(0,[.br tL,.br tW,.bool,.br tI])],[]⟩
def yhK:Shape:=⟨[(1,false,[.ptr 0 0])],[(0,[.br tL,.br tW,.bool,.br tI])],[]⟩
def yig:Shape:=⟨[(2,false,[.bool])],[],[]⟩
abbrev yra (v0:List dW) (v1 v2:Int) (v3:dM):(ydk).X:=((((),()),(v0,()),(v1,()),(v2,()),()),((v3.1,v3.2.1,v3.2.2.1,v3.2.2.2,()),()),())
abbrev yPe (v0:List dW) (v1:Int) (v2:dM):(yhZ).X:=((((),()),(v0,()),(v1,()),((),()),()),((v2.1,v2.2.1,v2.2.2.1,v2.2.2.2,()),()),())
abbrev yO6 (v0:dM):(yhK).X:=((((),()),()),((v0.1,v0.2.1,v0.2.2.1,v0.2.2.2,()),()),())
abbrev yPs (v0:Bool):(yig).X:=(((v0,()),()),(),())
def yrL (v0:List dW) (v1 v2:Int) (v3:List (List Int)) (v4:List dW) (v5:Bool) (v6:List Int):Option ((ydk).X ⊕ ((yhK).X ⊕ (yig).X)) :=bif(ltb v2 v1)then bif(inb v2 v0.length)then let r6:=ybC (v3,v4,v5,v6) ((nth v0 v2 (0,[])).1);bif(!(!r6))then let r7:=ygZ ((nth v0 v2 (0,[])).2);bif(!r7)then some (.inr (.inr (((false,()),()),(),()))) else some (.inl ((((),()),(v0,()),(v1,()),((i64.wrap (v2+1)),()),()),((v3,v4,v5,v6,()),()),())) else some (.inr (.inr (((false,()),()),(),()))) else none else some (.inr (.inl ((((),()),()),((v3,v4,v5,v6,()),()),())))
def ydT (x:(ydk).X):=yrL x.1.2.1.1 x.1.2.2.1.1 x.1.2.2.2.1.1 x.2.1.1.1 x.2.1.1.2.1 x.2.1.1.2.2.1 x.2.1.1.2.2.2.1
def yCM (x:(yhZ).X):(ydk).X:=((((),()),(x.1.2.1.1,()),(x.1.2.2.1.1,()),(0,()),()),((x.2.1.1.1,x.2.1.1.2.1,x.2.1.1.2.2.1,x.2.1.1.2.2.2.1,()),()),())
def yEn:Code:=(zd7 ycr 64 116).getD .skip
theorem yRy:zd7 ycr 64 29=some (.block 2 (.loop yEn)):=by kernel_rfl
theorem yUf (x:(ydk).X):zhu ⟨ygq,76,yvC⟩ 2 yEn 116 ydk yhK yig x=ydT x:=by kernel_rfl
def yC2 (x:(yhZ).X):Nat:=18446744073709551616
def ysN (x:(yhZ).X):Option ((yhK).X ⊕ (yig).X):=zF ydT (yC2 x) (yCM x)
def yDM:Seg:=⟨yhZ,yhK,yig,ysN⟩
def yvD:Nat→Option Seg:=fun q=>bif Nat.beq q 29 then some yDM else yvC q
theorem yR1:FrOk prog ⟨ygq,76,yvD⟩ ycr:=(yR0).loop (sg:=yDM) ydk yCM (by decide) yRy ydT yC2 (by decide) (fun _=>rfl) (fun x r _ h=>h) yUf
def ydl:Shape:=⟨[(1,false,[.ptr 0 0]),(40,false,[.br tI]),(41,false,[.int .i64]),(42,false,[.int .i64])],[(0,[.br tL,.br tW,.bool,.br tI])],[]⟩
def yh0:Shape:=⟨[(1,false,[.ptr 0 0]),(40,false,[.br tI]),(41,false,[.int .i64]),(42,false,[.ci .i64 0])],[(0,[.br tL,.br tW,.bool,.br tI])],[]⟩
def yhL:Shape:=⟨[(1,false,[.ptr 0 0])],[(0,[.br tL,.br tW,.bool,.br tI])],[]⟩
def yih:Shape:=⟨[(2,false,[.bool])],[],[]⟩
abbrev yrb (v0:List Int) (v1 v2:Int) (v3:dM):(ydl).X:=((((),()),(v0,()),(v1,()),(v2,()),()),((v3.1,v3.2.1,v3.2.2.1,v3.2.2.2,()),()),())
abbrev yPf (v0:List Int) (v1:Int) (v2:dM):(yh0).X:=((((),()),(v0,()),(v1,()),((),()),()),((v2.1,v2.2.1,v2.2.2.1,v2.2.2.2,()),()),())
abbrev yO7 (v0:dM):(yhL).X:=((((),()),()),((v0.1,v0.2.1,v0.2.2.1,v0.2.2.2,()),()),())
abbrev yPt (v0:Bool):(yih).X:=(((v0,()),()),(),())
def yrM (v0:List Int) (v1 v2:Int) (v3:List (List Int)) (v4:List dW) (v5:Bool) (v6:List Int):Option ((ydl).X ⊕ ((yhL).X ⊕ (yih).X)) :=bif(ltb v2 v1)then bif(inb v2 v0.length)then let r10:=ybC (v3,v4,v5,v6) (nth v0 v2 0);bif(!(!r10))then bif(ltb 0 v2)then bif(inb (i64.wrap (v2-1)) v6.length)then bif(leb (nth v0 v2 0) (nth v6 (i64.wrap (v2-1)) 0))then some (.inr (.inr (((false,()),()),(),()))) else some (.inl ((((),()),(v0,()),(v1,()),((i64.wrap (v2+1)),()),()),((v3,v4,v5,v6,()),()),())) else none else some (.inl ((((),()),(v0,()),(v1,()),((i64.wrap (v2+1)),()),()),((v3,v4,v5,v6,()),()),())) else some (.inr (.inr (((false,()),()),(),()))) else none else some (.inr (.inl ((((),()),()),((v3,v4,v5,v6,()),()),())))
def ydU (x:(ydl).X):=yrM x.1.2.1.1 x.1.2.2.1.1 x.1.2.2.2.1.1 x.2.1.1.1 x.2.1.1.2.1 x.2.1.1.2.2.1 x.2.1.1.2.2.2.1
def yCN (x:(yh0).X):(ydl).X:=((((),()),(x.1.2.1.1,()),(x.1.2.2.1.1,()),(0,()),()),((x.2.1.1.1,x.2.1.1.2.1,x.2.1.1.2.2.1,x.2.1.1.2.2.2.1,()),()),())
def yEo:Code:=(zd7 ycr 64 244).getD .skip
theorem yRz:zd7 ycr 64 61=some (.block 4 (.loop yEo)):=by kernel_rfl
theorem yUg (x:(ydl).X):zhu ⟨ygq,76,yvD⟩ 4 yEo 244 ydl yhL yih x=ydU x:=by kernel_rfl
def yC3 (x:(yh0).X):Nat:=18446744073709551616
def ysO (x:(yh0).X):Option ((yhL).X ⊕ (yih).X):=zF ydU (yC3 x) (yCN x)
def yDN:Seg:=⟨yh0,yhL,yih,ysO⟩
def yUO:Nat→Option Seg:=fun q=>bif Nat.beq q 61 then some yDN else yvD q
theorem yR2:FrOk prog ⟨ygq,76,yUO⟩ ycr:=(yR1).loop (sg:=yDN) ydl yCN (by decide) yRz ydU yC3 (by decide) (fun _=>rfl) (fun x r _ h=>h) yUg
abbrev ys1:List Par:= [.rd tM]
abbrev yBU:List OT:= [⟨false,tB,.fz⟩]
def ywL (a0:dM):Option (zaY yBU×zak ys1) :=zkt (ysM ((((),()),(a0.1,()),((a0.1.length:Int),()),((),()),()),((a0.1,a0.2.1,a0.2.2.1,a0.2.2.2,()),()),())) (fun y2 =>zkt (ysN ((((),()),(y2.2.1.1.2.1,()),((y2.2.1.1.2.1.length:Int),()),((),()),()),((y2.2.1.1.1,y2.2.1.1.2.1,y2.2.1.1.2.2.1,y2.2.1.1.2.2.2.1,()),()),())) (fun y7 =>zkt (ysO ((((),()),(y7.2.1.1.2.2.2.1,()),((y7.2.1.1.2.2.2.1.length:Int),()),((),()),()),((y7.2.1.1.1,y7.2.1.1.2.1,y7.2.1.1.2.2.1,y7.2.1.1.2.2.2.1,()),()),())) (fun y10 =>let r12:=yf (y10.2.1.1.1.length:Int) 1 20;bif r12 then some (((leb (y10.2.1.1.2.1.length:Int) 60),()),()) else some ((false,()),())) (fun y10 =>some ((y10.1.1.1,()),()))) (fun y7 =>some ((y7.1.1.1,()),()))) (fun y2 =>some ((y2.1.1.1,()),()))
theorem yV9:ConOk prog 127 ⟨ys1,yBU,fun x=>ywL x.1⟩:=zkI (yR2) func127 ntmps127.symm fun x=>by kernel_rfl
def ybx (a0:dM):Bool:=yz a0
theorem yYw (a0:dM) (hk:zjx ys1 (a0,())):ywL a0=(fun n=>some ((n,()),())) (ybx a0):=by
 have hb1:a0.1.length*24≤2^47:=hk.1.1.1;have hb2:a0.2.1.length*32≤2^47:=hk.1.2.1.1;have hb3:a0.2.2.2.length*8≤2^47:=hk.1.2.2.2.1
 have h1:ysM (yPd a0.1 a0.1.length a0)=some (bif a0.1.all yan then .inl (yO5 a0)else .inr (yPr false)) :=
  zj9 (step:=ydS) a0.1 [] (fun i=>yq9 a0.1 a0.1.length i a0) yan _ _ (fun i hi=>by
   simp only[ydS,yq9,yrK,zky (show(i:Int)<a0.1.length by omega),cond_true,wq ((i:Int)+1) (by omega) (by omega),Int.natCast_add,Int.natCast_one,Int.toNat_natCast,zkR hi,zkS,yFP]
   cases yan (a0.1.getD i [])<;>rfl) (by simp only[ydS,yq9,yrK,zk3 (Int.le_refl _),cond_false]) _ (by show _<18446744073709551616; omega)
 have h2:ysN (yPe a0.2.1 a0.2.1.length a0)=some (bif a0.2.1.all (yrX a0.1.length)then .inl (yO6 a0)else .inr (yPs false)) :=
  zj9 (step:=ydT) a0.2.1 (0,[]) (fun i=>yra a0.2.1 a0.2.1.length i a0) (yrX a0.1.length) _ _ (fun i hi=>by
   simp only[ydT,yra,yrL,zky (show(i:Int)<a0.2.1.length by omega),cond_true,wq ((i:Int)+1) (by omega) (by omega),Int.natCast_add,Int.natCast_one,Int.toNat_natCast,zkR hi,zkS,yFP,ybC,yas,ynu (show a0.1.length≤1152921504606846976 by omega),yrX]
   cases inb (a0.2.1.getD i (0,[])).1 a0.1.length<;>cases yan (a0.2.1.getD i (0,[])).2<;>rfl) (by simp only[ydT,yra,yrL,zk3 (Int.le_refl _),cond_false]) _ (by show _<18446744073709551616; omega)
 have h3:ysO (yPf a0.2.2.2 a0.2.2.2.length a0)=some (bif(List.range a0.2.2.2.length).any (yEk a0.1.length a0.2.2.2)then .inr (yPt false)else .inl (yO7 a0)) :=
  zji (step:=ydU) (fun i=>yrb a0.2.2.2 a0.2.2.2.length i a0) a0.2.2.2.length (yEk a0.1.length a0.2.2.2) _ _ (fun i hi=>by
   simp only[ydU,yrb,yrM,zky (show(i:Int)<a0.2.2.2.length by omega),cond_true,wq ((i:Int)+1) (by omega) (by omega),Int.natCast_add,Int.natCast_one,Int.toNat_natCast,zkR hi,zkS,ybC,yas,ynu (show a0.1.length≤1152921504606846976 by omega),yEk];rcases Nat.eq_zero_or_pos i with rfl | h0
   ·cases inb (a0.2.2.2.getD 0 0) a0.1.length<;>rfl
   ·rw[show i64.wrap ((i:Int)-1)=((i-1:Nat):Int)by rw[wr (by omega) (by omega)]; omega,zkR (show i-1<a0.2.2.2.length by omega),zkS,zky (show(0:Int)<i by omega),decide_eq_true h0]
    cases inb (a0.2.2.2.getD i 0) a0.1.length<;>cases leb (a0.2.2.2.getD i 0) (a0.2.2.2.getD (i-1) 0)<;>rfl) (by simp only[ydU,yrb,yrM,zk3 (Int.le_refl _),cond_false]) _ (by show _<18446744073709551616; omega)
 unfold ywL ybx yz;rw[h1];cases a0.1.all yan
 ·rfl
 simp only[cond_true,zkN,h2];cases a0.2.1.all (yrX a0.1.length)
 ·rfl
 simp only[cond_true,zkN,h3,yWY,yas,yb6];cases yoz a0.1.length a0.2.2.2
 ·rfl
 simp only[Bool.not_true,cond_false,zkN];cases leb 1 (a0.1.length:Int)<;>cases leb (a0.1.length:Int) 20<;>rfl
def yjH:Con:=⟨ys1,yBU,fun x=>(fun n=>some ((n,()),())) (ybx x.1)⟩
theorem yqF:ConOk prog 127 yjH:=(yV9).mono (fun x r hk h=>(yYw x.1 hk).trans h)
def yhx:Code:=(f201.body).getD .skip
def ym7:Env:=zkw TT [] []
theorem yGy:FrOk prog ⟨ym7,19,fun _=>none⟩ yhx:=zkA mixed yc trivial
def ysv:Nat→Option Seg:=fun _=>none
def yaA:Shape:=⟨[(0,false,[.br tI]),(1,false,[.int .i64]),(7,false,[.int .i64]),(8,false,[.int .i64])],[],[]⟩
def ycW:Shape:=⟨[(0,false,[.br tI]),(1,false,[.int .i64]),(7,false,[.int .i64]),(8,false,[.ci .i64 0])],[],[]⟩
def ycU:Shape:=⟨[],[],[]⟩
def ycY:Shape:=⟨[(4,false,[.int .i64])],[],[]⟩
abbrev yiR (v0:List Int) (v1 v2 v3:Int):(yaA).X:=(((v0,()),(v1,()),(v2,()),(v3,()),()),(),())
abbrev yFS (v0:List Int) (v1 v2:Int):(ycW).X:=(((v0,()),(v1,()),(v2,()),((),()),()),(),())
abbrev yFQ  :(ycU).X:=((),(),())
abbrev yp5 (v0:Int):(ycY).X:=(((v0,()),()),(),())
def yiU (v0:List Int) (v1 v2 v3:Int):Option ((yaA).X ⊕ ((ycU).X ⊕ (ycY).X)) :=bif(ltb v3 v2)then bif(inb v3 v0.length)then bif(v1==(nth v0 v3 0))then some (.inr (.inr (((v3,()),()),(),()))) else some (.inl (((v0,()),(v1,()),(v2,()),((i64.wrap (v3+1)),()),()),(),())) else none else some (.inr (.inl ((),(),())))
def yaK (x:(yaA).X):=yiU x.1.1.1 x.1.2.1.1 x.1.2.2.1.1 x.1.2.2.2.1.1
def ypZ (x:(ycW).X):(yaA).X:=(((x.1.1.1,()),(x.1.2.1.1,()),(x.1.2.2.1.1,()),(0,()),()),(),())
def yrZ:Code:=(zd7 yhx 64 52).getD .skip
theorem yGc:zd7 yhx 64 13=some (.block 0 (.loop yrZ)):=by kernel_rfl
theorem yGX (x:(yaA).X):zhu ⟨ym7,19,ysv⟩ 0 yrZ 52 yaA ycU ycY x=yaK x:=by kernel_rfl
def yp1 (x:(ycW).X):Nat:=18446744073709551616
def yjo (x:(ycW).X):Option ((ycU).X ⊕ (ycY).X):=zF yaK (yp1 x) (ypZ x)
def yp8:Seg:=⟨ycW,ycU,ycY,yjo⟩
def yG7:Nat→Option Seg:=fun q=>bif Nat.beq q 13 then some yp8 else ysv q
theorem yGz:FrOk prog ⟨ym7,19,yG7⟩ yhx:=(yGy).loop (sg:=yp8) yaA ypZ (by decide) yGc yaK yp1 (by decide) (fun _=>rfl) (fun x r _ h=>h) yGX
abbrev yhE:List Par:= [.rd tL,.rd tI]
abbrev ynp:List OT:= [⟨false,tI,.fz⟩]
def ykX (a0:List Int) (a1:Int):Option (zaY ynp×zak yhE) :=zkt (yjo (((a0,()),(a1,()),((a0.length:Int),()),((),()),()),(),())) (fun y0 =>some (((-1),()),())) (fun y0 =>some ((y0.1.1.1,()),()))
theorem yHI:ConOk prog 201 ⟨yhE,ynp,fun x=>ykX x.1 x.2.1⟩:=zkI (yGz) func201 ntmps201.symm fun x=>by kernel_rfl
def yVv (l:List Int) (x:Int):Int:=bif l.any (· ==x)then((l.takeWhile (· !=x)).length:Int)else -1
def ye6 (a0:List Int) (a1:Int):Int:=yVv a0 a1
theorem y1k {A B α:Type} {step:A→Option (A ⊕ B)} (l:List α) (d:α) (f:Nat→A) (p:α→Bool) (b:Nat→B) (c:B)
  (h: ∀i,i<l.length→step (f i)=some (bif p (l.getD i d)then .inr (b i)else .inl (f (i+1)))) (e:step (f l.length)=some (.inr c)) (fuel:Nat) (hf:l.length<fuel) :
  zF step fuel (f 0)=some (bif l.any p then b (l.takeWhile (fun x=> !p x)).length else c):=by
 have: ∀(t q:List α) (fuel:Nat),q++t=l→t.length<fuel→zF step fuel (f q.length)=some (bif t.any p then b (q.length+(t.takeWhile (fun x=> !p x)).length)else c):=by
  intro t
  induction t with
  | nil =>
   intro q fuel hq hf;obtain⟨fuel,rfl⟩: ∃m,fuel=m+1:=⟨fuel-1,by omega⟩;rw[List.append_nil]at hq;subst hq;simp only[zF,e,List.any_nil,cond_false]
  | cons x t ih =>
   intro q fuel hq hf;obtain⟨fuel,rfl⟩: ∃m,fuel=m+1:=⟨fuel-1,by omega⟩
   have hx:l.getD q.length d=x:=by
    subst hq;rw[zkJ (by simp)]; simp
   have hs:=h q.length (by rw[← hq]; simp);rw[hx]at hs;cases hp:p x
   ·rw[hp]at hs
    have:=ih (q++ [x]) fuel (by rw[← hq]; simp) (by simp at hf; omega);simp only[List.length_append,List.length_cons,List.length_nil]at this;simp only[zF,hs,cond_false];simp only[List.any_cons,hp,Bool.false_or,List.takeWhile_cons,Bool.not_false,if_true,List.length_cons];rw[show q.length+((t.takeWhile (fun x=> !p x)).length+1)=q.length+(0+1)+(t.takeWhile (fun x=> !p x)).length by omega];exact this
   ·rw[hp]at hs
    simp only[zF,hs,cond_true,List.any_cons,hp,Bool.true_or,List.takeWhile_cons,Bool.not_true,Bool.false_eq_true,if_false,List.length_nil,Nat.add_zero]
 have:=this l [] fuel rfl hf;simpa using this
theorem yIC (a0:List Int) (a1:Int) (hk:zjx yhE (a0,a1,())):ykX a0 a1=(fun n=>some ((n,()),())) (ye6 a0 a1):=by
 have hb:a0.length*8≤2^47:=hk.1.1
 have h1:yjo (yFS a0 a1 a0.length)=some (bif a0.any (· ==a1)then .inr (yp5 ((a0.takeWhile (fun x=> !(x==a1))).length:Int))else .inl yFQ) :=
  y1k (step:=yaK) a0 0 (fun i=>yiR a0 a1 a0.length i) (· ==a1) (fun i=> .inr (yp5 (i:Int))) _ (fun i hi=>by
   simp only[yaK,yiR,yiU,zky (show(i:Int)<a0.length by omega),cond_true,wq ((i:Int)+1) (by omega) (by omega),Int.natCast_add,Int.natCast_one,Int.toNat_natCast,zkR hi,zkS];rw[show(a1==a0.getD i 0)=(a0.getD i 0==a1)by rw[Bool.eq_iff_iff,beq_iff_eq,beq_iff_eq]; exact eq_comm]
   cases(a0.getD i 0==a1)<;>rfl) (by simp only[yaK,yiR,yiU,zk3 (Int.le_refl _),cond_false]) _ (by show _<18446744073709551616; omega)
 unfold ykX ye6 yVv;rw[h1];cases a0.any (· ==a1)<;>rfl
def ytX:Con:=⟨yhE,ynp,fun x=>(fun n=>some ((n,()),())) (ye6 x.1 x.2.1)⟩
theorem yIM:ConOk prog 201 ytX:=(yHI).mono (fun x r hk h=>(yIC x.1 x.2.1 hk).trans h)
def yFY:Code:=(f157.body).getD .skip
def yGb:Env:=zkw TT [(201,ytX)] []
theorem yCZ:FrOk prog ⟨yGb,9,fun _=>none⟩ yFY:=zkA mixed yc ⟨yIM,trivial⟩
abbrev yfe:List Par:= [.rd tL,.rd tI]
abbrev yjD:List OT:= [⟨false,tB,.fz⟩]
def yhq (a0:List Int) (a1:Int):Option (zaY yjD×zak yfe) :=let r1:=ye6 a0 a1;some (((leb 0 r1),()),())
theorem yD6:ConOk prog 157 ⟨yfe,yjD,fun x=>yhq x.1 x.2.1⟩:=zkI (yCZ) func157 ntmps157.symm fun x=>by kernel_rfl
def yc4 (a0:List Int) (a1:Int):Bool:=a0.any (· ==a1)
theorem yFU (a0:List Int) (a1:Int) (hk:zjx yfe (a0,a1,())):yhq a0 a1=(fun n=>some ((n,()),())) (yc4 a0 a1):=by
 unfold yhq yc4 ye6 yVv;cases a0.any (· ==a1)
 ·rfl
 ·simp only[cond_true]
  rw[zk2 (show(0:Int)≤((a0.takeWhile (· !=a1)).length:Int)by omega)]
def yoQ:Con:=⟨yfe,yjD,fun x=>(fun n=>some ((n,()),())) (yc4 x.1 x.2.1)⟩
theorem yFV:ConOk prog 157 yoQ:=(yD6).mono (fun x r hk h=>(yFU x.1 x.2.1 hk).trans h)
def yQZ:Code:=(f158.body).getD .skip
def yRn:Env:=zkw TT [] []
theorem yJB:FrOk prog ⟨yRn,6,fun _=>none⟩ yQZ:=zkA mixed yc trivial
abbrev yms:List Par:= [.rd tL]
abbrev ytq:List OT:= [⟨false,tL,(.ow .fz)⟩]
def ypF (a0:List Int):Option (zaY ytq×zak yms) :=bif(zkl ([]:List Int).length a0.length 8)then some (((([]:List Int)++a0),()),()) else none
theorem yMV:ConOk prog 158 ⟨yms,ytq,fun x=>ypF x.1⟩:=zkI (yJB) func158 ntmps158.symm fun x=>by kernel_rfl
def yr (a0:List Int):List Int:=a0
theorem yPJ (a0:List Int) (hk:zjx yms (a0,())):ypF a0=(fun n=>some ((n,()),())) (yr a0):=by
 have hb:a0.length*8≤2^47:=hk.1.1;unfold ypF yr;rw[show zkl ([]:List Int).length a0.length 8=true by rw[zkF,List.length_nil]; omega];rfl
def yaY:Con:=⟨yms,ytq,fun x=>(fun n=>some ((n,()),())) (yr x.1)⟩
theorem ycQ:ConOk prog 158 yaY:=(yMV).mono (fun x r hk h=>(yPJ x.1 hk).trans h)
def yoa:Code:=(f87.body).getD .skip
def yvH:Env:=zkw TT [(127,yjH),(156,ymR),(157,yoQ),(158,yaY)] []
theorem yLL:FrOk prog ⟨yvH,49,fun _=>none⟩ yoa:=zkA mixed yc ⟨yqF,ywz,yFV,ycQ,trivial⟩
def yBm:Nat→Option Seg:=fun _=>none
def ybS:Shape:=⟨[(1,false,[.int .i64]),(6,false,[.br tI]),(34,false,[.br tW]),(35,false,[.int .i64]),(36,false,[.int .i64])],[],[]⟩
def yfN:Shape:=⟨[(1,false,[.int .i64]),(6,false,[.br tI]),(34,false,[.br tW]),(35,false,[.int .i64]),(36,false,[.ci .i64 0])],[],[]⟩
def yfB:Shape:=⟨[(6,false,[.br tI])],[],[]⟩
def yi4:Shape:=⟨[],[],[]⟩
abbrev ynz (v0:Int) (v1:List Int) (v2:List dW) (v3 v4:Int):(ybS).X:=(((v0,()),(v1,()),(v2,()),(v3,()),(v4,()),()),(),())
abbrev yJ6 (v0:Int) (v1:List Int) (v2:List dW) (v3:Int):(yfN).X:=(((v0,()),(v1,()),(v2,()),(v3,()),((),()),()),(),())
abbrev yx4 (v0:List Int):(yfB).X:=(((v0,()),()),(),())
def ynW (v0:Int) (v1:List Int) (v2:List dW) (v3 v4:Int):Option ((ybS).X ⊕ ((yfB).X ⊕ (yi4).X)) :=bif(ltb v4 v3)then bif(inb v4 v2.length)then bif((nth v2 v4 (0,[])).1==v0)then some (.inl (((v0,()),((nth v2 v4 (0,[])).2,()),(v2,()),(v3,()),((i64.wrap (v4+1)),()),()),(),())) else some (.inl (((v0,()),(v1,()),(v2,()),(v3,()),((i64.wrap (v4+1)),()),()),(),())) else none else some (.inr (.inl (((v1,()),()),(),())))
def ycf (x:(ybS).X):=ynW x.1.1.1 x.1.2.1.1 x.1.2.2.1.1 x.1.2.2.2.1.1 x.1.2.2.2.2.1.1
def yxx (x:(yfN).X):(ybS).X:=(((x.1.1.1,()),(x.1.2.1.1,()),(x.1.2.2.1.1,()),(x.1.2.2.2.1.1,()),(0,()),()),(),())
def yz1:Code:=(zd7 yoa 64 244).getD .skip
theorem yLv:zd7 yoa 64 61=some (.block 0 (.loop yz1)):=by kernel_rfl
theorem yNi (x:(ybS).X):zhu ⟨yvH,49,yBm⟩ 0 yz1 244 ybS yfB yi4 x=ycf x:=by kernel_rfl
def yxO (x:(yfN).X):Nat:=18446744073709551616
def yoU (x:(yfN).X):Option ((yfB).X ⊕ (yi4).X):=zF ycf (yxO x) (yxx x)
def yyh:Seg:=⟨yfN,yfB,yi4,yoU⟩
def yNK:Nat→Option Seg:=fun q=>bif Nat.beq q 61 then some yyh else yBm q
theorem yLM:FrOk prog ⟨yvH,49,yNK⟩ yoa:=(yLL).loop (sg:=yyh) ybS yxx (by decide) yLv ycf yxO (by decide) (fun _=>rfl) (fun x r _ h=>h) yNi
abbrev yok:List Par:= [.rd tM,.rd tI]
abbrev yv5:List OT:= [⟨false,tL,(.ow .fz)⟩,⟨false,tB,.fz⟩]
def yru (a0:dM) (a1:Int):Option (zaY yv5×zak yok) :=let r1:=ybx a0;bif(!(!r1))then bif(!a0.2.2.1)then let r2:=ybC a0 a1;bif(!(!r2))then let r3:=yc4 a0.2.2.2 a1;bif r3 then some (([],false,()),()) else bif(inb a1 a0.1.length)then zkt (yoU (((a1,()),((nth a0.1 a1 []),()),(a0.2.1,()),((a0.2.1.length:Int),()),((),()),()),(),())) (fun y3 =>let r5:=yr y3.1.1.1;some ((r5,true,()),())) (fun y3 =>none) else none else some (([],false,()),()) else some (([],false,()),()) else some (([],false,()),())
theorem yPZ:ConOk prog 87 ⟨yok,yv5,fun x=>yru x.1 x.2.1⟩:=zkI (yLM) func87 ntmps87.symm fun x=>by kernel_rfl
def yjV (a0:dM) (a1:Int):List Int×Bool:=yhv a0 a1
theorem ySR (a0:dM) (a1:Int) (hk:zjx yok (a0,a1,())):yru a0 a1=(fun n=>some ((n.1,n.2,()),())) (yjV a0 a1):=by
 have hb1:a0.1.length*24≤2^47:=hk.1.1.1;have hb2:a0.2.1.length*32≤2^47:=hk.1.2.1.1
 have h1: ∀s,yoU (yJ6 a1 s a0.2.1 a0.2.1.length)=some (.inl (yx4 (yg3 a1 a0.2.1 s))):=fun s =>
  zkx (step:=ycf) a0.2.1 (0,[]) (fun i s=>ynz a1 s a0.2.1 a0.2.1.length i) (fun s w=>bif w.1==a1 then w.2 else s) (fun _ _=>True) (fun s=> .inl (yx4 s)) (fun i s hi _=>⟨by
   simp only[ycf,ynz,ynW,zky (show(i:Int)<a0.2.1.length by omega),cond_true,wq ((i:Int)+1) (by omega) (by omega),Int.natCast_add,Int.natCast_one,Int.toNat_natCast,zkR hi,zkS]
   cases((a0.2.1.getD i (0,[])).1==a1)<;>rfl,trivial⟩) (fun s _=>by simp only[ycf,ynz,ynW,zk3 (Int.le_refl _),cond_false]) s trivial _ (by show _<18446744073709551616; omega)
 unfold yru yjV yhv yBj ybC;rw[yas,ynu (show a0.1.length≤1152921504606846976 by omega)];unfold ybx yc4 yr;simp only[h1,zkN];cases yz a0
 ·rfl
 cases a0.2.2.1
 ·cases inb a1 a0.1.length
  ·rfl
  ·cases a0.2.2.2.any (· ==a1)<;>rfl
 ·rfl
def yCs:Con:=⟨yok,yv5,fun x=>(fun n=>some ((n.1,n.2,()),())) (yjV x.1 x.2.1)⟩
theorem yTR:ConOk prog 87 yCs:=(yPZ).mono (fun x r hk h=>(ySR x.1 x.2.1 hk).trans h)
def yXv:Code:=(f111.body).getD .skip
def yX0:Env:=zkw TT [(81,yJ)] []
theorem yOc:FrOk prog ⟨yX0,9,fun _=>none⟩ yXv:=zkA mixed yc ⟨yY,trivial⟩
abbrev yyF:List Par:= [.rd tI]
abbrev yy0:List OT:= [⟨false,tI,.fz⟩]
def yFi (a0:Int):Option (zaY yy0×zak yyF) :=let r1:=yf a0 0 1099511627776;bif(!r1)then some (((-1),()),()) else some (((i64.wrap ((i64.wrap (a0+2))+4)),()),())
theorem yTf:ConOk prog 111 ⟨yyF,yy0,fun x=>yFi x.1⟩:=zkI (yOc) func111 ntmps111.symm fun x=>by kernel_rfl
def ylj (a0:Int):Int :=let r1:=yf a0 0 1099511627776;bif(!r1)then (-1) else (i64.wrap ((i64.wrap (a0+2))+4))
def ytM:Con:=⟨yyF,yy0,fun x=>(fun n=>some ((n,()),())) (ylj x.1)⟩
theorem yVz (a0:Int):yFi a0=(fun n=>some ((n,()),())) (ylj a0):=zkV (p:=fun(n:Int)=>((n,()),())) (zkG (p:=fun(n:Int)=>((n,()),())) rfl rfl)
theorem yGL:ConOk prog 111 ytM:=(yTf).mono (fun x r _ h=>(yVz x.1).trans h)
def yXI:Code:=(f113.body).getD .skip
def yYd:Env:=zkw TT [(82,yF)] []
theorem yOu:FrOk prog ⟨yYd,9,fun _=>none⟩ yXI:=zkA mixed yc ⟨yK,trivial⟩
abbrev yyO:List Par:= [.rd tI]
abbrev yze:List OT:= [⟨false,tI,.fz⟩]
def yFr (a0:Int):Option (zaY yze×zak yyO) :=let r1:=yb a0 0 1099511627776;bif(!r1)then some (((-1),()),()) else some (((i64.wrap ((i64.wrap (a0+2))+4)),()),())
theorem yTu:ConOk prog 113 ⟨yyO,yze,fun x=>yFr x.1⟩:=zkI (yOu) func113 ntmps113.symm fun x=>by kernel_rfl
def ybD (a0:Int):Int :=let r1:=yb a0 0 1099511627776;bif(!r1)then (-1) else (i64.wrap ((i64.wrap (a0+2))+4))
def yfh:Con:=⟨yyO,yze,fun x=>(fun n=>some ((n,()),())) (ybD x.1)⟩
theorem yVO (a0:Int):yFr a0=(fun n=>some ((n,()),())) (ybD a0):=zkV (p:=fun(n:Int)=>((n,()),())) (zkG (p:=fun(n:Int)=>((n,()),())) rfl rfl)
theorem yka:ConOk prog 113 yfh:=(yTu).mono (fun x r _ h=>(yVO x.1).trans h)
theorem ygo (s:Int):ybD s=yX s:=by
 unfold ybD yX;rw[yb6];by_cases h:0≤s∧s≤1099511627776
 ·rw[zk2 h.1,zk2 h.2,wq (s+2) (by omega) (by omega),wr (by omega) (by omega)]
  show s+2+4=s+6;omega
 ·cases h1:(leb 0 s&&leb s 1099511627776)
  ·rfl
  ·rw[Bool.and_eq_true,zj7,zj7]at h1; exact absurd h1 h
theorem yGC (s:Int):ylj s=yX s:=ygo s
def yXx:Code:=(f168.body).getD .skip
def yX2:Env:=zkw TT [(81,yJ)] []
theorem yOg:FrOk prog ⟨yX2,34,fun _=>none⟩ yXx:=zkA mixed yc ⟨yY,trivial⟩
abbrev yqk:List Par:= [.rd tA,.rd tI,.rd tI]
abbrev yy3:List OT:= [⟨false,tB,.fz⟩]
def yuw (a0:dA) (a1 a2:Int):Option (zaY yy3×zak yqk) :=let r1:=yf a1 0 (i64.wrap ((a0.2.2.1.length:Int)-1));bif r1 then bif(inb a1 a0.2.2.1.length)then bif(!((((nth a0.2.2.1 a1 ([],[],false,[])).2).2).1))then bif(!(a0.2.2.2.1 !=a1))then some (((ltb a2 a0.2.2.2.2.1),()),()) else some ((true,()),()) else some ((false,()),()) else none else some ((false,()),())
theorem yTi:ConOk prog 168 ⟨yqk,yy3,fun x=>yuw x.1 x.2.1 x.2.2.1⟩:=zkI (yOg) func168 ntmps168.symm fun x=>by kernel_rfl
def yft (a0:dA) (a1 a2:Int):Bool:=yct a0 a1 a2
theorem yVC (a0:dA) (a1 a2:Int) (hk:zjx yqk (a0,a1,a2,())):yuw a0 a1 a2=(fun n=>some ((n,()),())) (yft a0 a1 a2):=by
 have hb:a0.2.2.1.length*80≤2^47:=hk.1.2.2.1.1;unfold yuw yft yct yh;rw[yas,ynu (show a0.2.2.1.length≤1152921504606846976 by omega),bne_comm];cases inb a1 a0.2.2.1.length
 ·rfl
 ·cases(nth a0.2.2.1 a1 ([],[],false,[])).2.2.1<;>cases(a1 !=a0.2.2.2.1)<;>rfl
def ytQ:Con:=⟨yqk,yy3,fun x=>(fun n=>some ((n,()),())) (yft x.1 x.2.1 x.2.2.1)⟩
theorem yGO:ConOk prog 168 ytQ:=(yTi).mono (fun x r hk h=>(yVC x.1 x.2.1 x.2.2.1 hk).trans h)
def yXG:Code:=(f141.body).getD .skip
def yYb:Env:=zkw TT [(87,yCs),(111,ytM),(168,ytQ)] []
theorem yOp:FrOk prog ⟨yYb,38,fun _=>none⟩ yXG:=zkA mixed yc ⟨yTR,yGL,yGO,trivial⟩
abbrev yk6:List Par:= [.rd tA,.rd tI,.rd tI]
abbrev yqv:List OT:= [⟨false,tI,.fz⟩,⟨false,tB,.fz⟩]
def yuy (a0:dA) (a1 a2:Int):Option (zaY yqv×zak yk6) :=bif(inb a1 a0.2.2.1.length)then let r1:=ylj a2;let r2:=yjV ((nth a0.2.2.1 a1 ([],[],false,[])).1,((nth a0.2.2.1 a1 ([],[],false,[])).2).1,(((nth a0.2.2.1 a1 ([],[],false,[])).2).2)) r1;let r3:=yft a0 a1 a2;bif(!(!r3))then bif(!(!r2.2))then bif((r2.1.length:Int) !=1)then some ((0,false,()),()) else bif(inb 0 r2.1.length)then some (((nth r2.1 0 0),true,()),()) else none else some ((0,false,()),()) else some ((0,false,()),()) else none
theorem yTr:ConOk prog 141 ⟨yk6,yqv,fun x=>yuy x.1 x.2.1 x.2.2.1⟩:=zkI (yOp) func141 ntmps141.symm fun x=>by kernel_rfl
def yht (a0:dA) (a1 a2:Int):Int×Bool:=(yiW a0 a1 a2,yu a0 a1 a2)
def yzH (a0:dA) (a1 a2:Int):Bool:=inb a1 a0.2.2.1.length
theorem yVL (a0:dA) (a1 a2:Int) (hk:zjx yk6 (a0,a1,a2,())) (hq:yzH a0 a1 a2=true):yuy a0 a1 a2=(fun n=>some ((n.1,n.2,()),())) (yht a0 a1 a2):=by
 unfold yuy yht yiW yft;simp only[zkX,yGC,yjV];rw[show yu a0 a1 a2=(yct a0 a1 a2&&((ydh a0 a1 a2).2&&((ydh a0 a1 a2).1.length:Int)==1))from rfl];rw[show yhv (nth a0.2.2.1 a1 ([],[],false,[])) (yX a2)=ydh a0 a1 a2 from rfl];rw[show inb a1 a0.2.2.1.length=true from hq];cases hl:yct a0 a1 a2
 ·rfl
 ·cases(ydh a0 a1 a2).2
  ·rfl
  ·rw[bne]
   cases h1:(((ydh a0 a1 a2).1.length:Int)==1)
   ·rfl
   ·rw[show inb 0 (ydh a0 a1 a2).1.length=true from zj6.2 (by have:=beq_iff_eq.1 h1; omega)]; rfl
def ylq (a0:dA) (a1 a2:Int):Option (zaY yqv×zak yk6):=bif yzH a0 a1 a2 then(fun n=>some ((n.1,n.2,()),())) (yht a0 a1 a2)else none
theorem yGW (a0:dA) (a1 a2:Int) (h:yzH a0 a1 a2=true):ylq a0 a1 a2=(fun n=>some ((n.1,n.2,()),())) (yht a0 a1 a2):=by unfold ylq; rw[h]; rfl
def ytW:Con:=⟨yk6,yqv,fun x=>ylq x.1 x.2.1 x.2.2.1⟩
theorem yGS:ConOk prog 141 ytW:=(yTr).mono (fun x r hk h=>zkY h (fun hq=>yVL x.1 x.2.1 x.2.2.1 hk hq))
def yso:Code:=(f185.body).getD .skip
def yBB:Env:=zkw TT [] []
theorem yR9:FrOk prog ⟨yBB,17,fun _=>none⟩ yso:=zkA mixed yc trivial
def yF3:Nat→Option Seg:=fun _=>none
def ydn:Shape:=⟨[(3,false,[.int .i64]),(6,false,[.br tI]),(7,false,[.int .i64]),(8,false,[.int .i64])],[],[]⟩
def yh2:Shape:=⟨[(3,false,[.ci .i64 0]),(6,false,[.br tI]),(7,false,[.int .i64]),(8,false,[.ci .i64 0])],[],[]⟩
def yhN:Shape:=⟨[(3,false,[.int .i64])],[],[]⟩
def ymH:Shape:=⟨[],[],[]⟩
abbrev yrd (v0:Int) (v1:List Int) (v2 v3:Int):(ydn).X:=(((v0,()),(v1,()),(v2,()),(v3,()),()),(),())
abbrev yPh (v0:List Int) (v1:Int):(yh2).X:=((((),()),(v0,()),(v1,()),((),()),()),(),())
abbrev yDk (v0:Int):(yhN).X:=(((v0,()),()),(),())
def yrO (v0:Int) (v1:List Int) (v2 v3:Int):Option ((ydn).X ⊕ ((yhN).X ⊕ (ymH).X)) :=bif(ltb v3 v2)then bif(inb v3 v1.length)then some (.inl ((((i64.wrap ((BitVec.ofInt IntKind.i64.bits v0 ^^^ BitVec.ofInt IntKind.i64.bits (nth v1 v3 0)).toNat:Int)),()),(v1,()),(v2,()),((i64.wrap (v3+1)),()),()),(),())) else none else some (.inr (.inl (((v0,()),()),(),())))
def ydW (x:(ydn).X):=yrO x.1.1.1 x.1.2.1.1 x.1.2.2.1.1 x.1.2.2.2.1.1
def yCP (x:(yh2).X):(ydn).X:=(((0,()),(x.1.2.1.1,()),(x.1.2.2.1.1,()),(0,()),()),(),())
def yEq:Code:=(zd7 yso 64 116).getD .skip
theorem yRB:zd7 yso 64 29=some (.block 0 (.loop yEq)):=by kernel_rfl
theorem yUi (x:(ydn).X):zhu ⟨yBB,17,yF3⟩ 0 yEq 116 ydn yhN ymH x=ydW x:=by kernel_rfl
def yC5 (x:(yh2).X):Nat:=18446744073709551616
def ysQ (x:(yh2).X):Option ((yhN).X ⊕ (ymH).X):=zF ydW (yC5 x) (yCP x)
def yDP:Seg:=⟨yh2,yhN,ymH,ysQ⟩
def yUR:Nat→Option Seg:=fun q=>bif Nat.beq q 29 then some yDP else yF3 q
theorem ySa:FrOk prog ⟨yBB,17,yUR⟩ yso:=(yR9).loop (sg:=yDP) ydn yCP (by decide) yRB ydW yC5 (by decide) (fun _=>rfl) (fun x r _ h=>h) yUi
abbrev ys5:List Par:= [.rd tL]
abbrev yBZ:List OT:= [⟨false,tI,.fz⟩]
def ywO (a0:List Int):Option (zaY yBZ×zak ys5) :=zkt (ysQ ((((),()),(a0,()),((a0.length:Int),()),((),()),()),(),())) (fun y0 =>some ((y0.1.1.1,()),())) (fun y0 =>none)
theorem yWe:ConOk prog 185 ⟨ys5,yBZ,fun x=>ywO x.1⟩:=zkI (ySa) func185 ntmps185.symm fun x=>by kernel_rfl
def ycw (a0:List Int):Int:=yao a0
theorem yYB (a0:List Int) (hk:zjx ys5 (a0,())):ywO a0=(fun n=>some ((n,()),())) (ycw a0):=by
 have hb:a0.length*8≤2^47:=hk.1.1
 have h1:ysQ (yPh a0 a0.length)=some (.inl (yDk (yao a0))) :=
  zkx (step:=ydW) a0 0 (fun i s=>yrd s a0 a0.length i) xw (fun _ _=>True) (fun s=> .inl (yDk s)) (fun i s hi _=>⟨by
   simp only[ydW,yrd,yrO,zky (show(i:Int)<a0.length by omega),cond_true,wq ((i:Int)+1) (by omega) (by omega),Int.natCast_add,Int.natCast_one,Int.toNat_natCast,zkR hi,zkS]; rfl,trivial⟩) (fun s _=>by simp only[ydW,yrd,yrO,zk3 (Int.le_refl _),cond_false]) 0 trivial _ (by show _<18446744073709551616; omega)
 unfold ywO ycw;rw[h1]; rfl
def yoA:Con:=⟨ys5,yBZ,fun x=>(fun n=>some ((n,()),())) (ycw x.1)⟩
theorem yzG:ConOk prog 185 yoA:=(yWe).mono (fun x r hk h=>(yYB x.1 hk).trans h)
def ysn:Code:=(f122.body).getD .skip
def yBA:Env:=zkw TT [(141,ytW),(185,yoA)] []
theorem yR7:FrOk prog ⟨yBA,33,fun _=>none⟩ ysn:=zkA mixed yc ⟨yGS,yzG,trivial⟩
def yF2:Nat→Option Seg:=fun _=>none
def ydm:Shape:=⟨[(1,false,[.int .i64]),(2,false,[.ptr 0 0]),(6,false,[.at 800000000]),(13,false,[.int .i64]),(14,false,[.int .i64])],[(0,[.int .i64,.int .i64,.int .i64,.br tM,.int .i64,.int .i64,.int .i64,.int .i64,.int .i64,.br tW,.int .i64,.bool,.bool])],[(800000000,tI,.fz)]⟩
def yh1:Shape:=⟨[(1,false,[.int .i64]),(2,false,[.ptr 0 0]),(6,false,[.at 800000000]),(13,false,[.int .i64]),(14,false,[.ci .i64 0])],[(0,[.int .i64,.int .i64,.int .i64,.br tM,.int .i64,.int .i64,.int .i64,.int .i64,.int .i64,.br tW,.int .i64,.bool,.bool])],[(800000000,tI,.fz)]⟩
def yhM:Shape:=⟨[(6,false,[.at 800000000])],[],[(800000000,tI,.fz)]⟩
def yii:Shape:=⟨[(4,false,[.int .i64]),(5,false,[.bool])],[],[]⟩
abbrev yrc (v0 v1 v2:Int) (v3:dA) (v4:List Int):(ydm).X:=(((v0,()),((),()),((),()),(v1,()),(v2,()),()),((v3.1,v3.2.1.1,v3.2.1.2,v3.2.2.1,v3.2.2.2.1,v3.2.2.2.2.1,v3.2.2.2.2.2.1,v3.2.2.2.2.2.2.1,v3.2.2.2.2.2.2.2.1,v3.2.2.2.2.2.2.2.2.1,v3.2.2.2.2.2.2.2.2.2.1,v3.2.2.2.2.2.2.2.2.2.2.1,v3.2.2.2.2.2.2.2.2.2.2.2,()),()),(v4,()))
abbrev yPg (v0 v1:Int) (v2:dA) (v3:List Int):(yh1).X:=(((v0,()),((),()),((),()),(v1,()),((),()),()),((v2.1,v2.2.1.1,v2.2.1.2,v2.2.2.1,v2.2.2.2.1,v2.2.2.2.2.1,v2.2.2.2.2.2.1,v2.2.2.2.2.2.2.1,v2.2.2.2.2.2.2.2.1,v2.2.2.2.2.2.2.2.2.1,v2.2.2.2.2.2.2.2.2.2.1,v2.2.2.2.2.2.2.2.2.2.2.1,v2.2.2.2.2.2.2.2.2.2.2.2,()),()),(v3,()))
abbrev yDj (v0:List Int):(yhM).X:=((((),()),()),(),(v0,()))
abbrev yPu (v0:Int) (v1:Bool):(yii).X:=(((v0,()),(v1,()),()),(),())
def yrN (v0 v1 v2 v3 v4 v5:Int) (v6:List dM) (v7 v8 v9 v10 v11:Int) (v12:List dW) (v13:Int) (v14 v15:Bool) (v16:List Int):Option ((ydm).X ⊕ ((yhM).X ⊕ (yii).X)) :=bif(ltb v2 v1)then bnd (ylq (v3,(v4,v5),v6,v7,v8,v9,v10,v11,v12,v13,v14,v15) v2 v0) fun r2 =>bif(!r2.1.2.1)then some (.inr (.inr (((0,()),(false,()),()),(),()))) else bif(zkl v16.length ([r2.1.1]:List Int).length 8)then some (.inl (((v0,()),((),()),((),()),(v1,()),((i64.wrap (v2+1)),()),()),((v3,v4,v5,v6,v7,v8,v9,v10,v11,v12,v13,v14,v15,()),()),((v16++([r2.1.1]:List Int)),()))) else none else some (.inr (.inl ((((),()),()),(),(v16,()))))
def ydV (x:(ydm).X):=yrN x.1.1.1 x.1.2.2.2.1.1 x.1.2.2.2.2.1.1 x.2.1.1.1 x.2.1.1.2.1 x.2.1.1.2.2.1 x.2.1.1.2.2.2.1 x.2.1.1.2.2.2.2.1 x.2.1.1.2.2.2.2.2.1 x.2.1.1.2.2.2.2.2.2.1 x.2.1.1.2.2.2.2.2.2.2.1 x.2.1.1.2.2.2.2.2.2.2.2.1 x.2.1.1.2.2.2.2.2.2.2.2.2.1 x.2.1.1.2.2.2.2.2.2.2.2.2.2.1 x.2.1.1.2.2.2.2.2.2.2.2.2.2.2.1 x.2.1.1.2.2.2.2.2.2.2.2.2.2.2.2.1 x.2.2.1
def yCO (x:(yh1).X):(ydm).X:=(((x.1.1.1,()),((),()),((),()),(x.1.2.2.2.1.1,()),(0,()),()),((x.2.1.1.1,x.2.1.1.2.1,x.2.1.1.2.2.1,x.2.1.1.2.2.2.1,x.2.1.1.2.2.2.2.1,x.2.1.1.2.2.2.2.2.1,x.2.1.1.2.2.2.2.2.2.1,x.2.1.1.2.2.2.2.2.2.2.1,x.2.1.1.2.2.2.2.2.2.2.2.1,x.2.1.1.2.2.2.2.2.2.2.2.2.1,x.2.1.1.2.2.2.2.2.2.2.2.2.2.1,x.2.1.1.2.2.2.2.2.2.2.2.2.2.2.1,x.2.1.1.2.2.2.2.2.2.2.2.2.2.2.2.1,()),()),(x.2.2.1,()))
def yEp:Code:=(zd7 ysn 64 116).getD .skip
theorem yRA:zd7 ysn 64 29=some (.block 0 (.loop yEp)):=by kernel_rfl
theorem yUh (x:(ydm).X):zhu ⟨yBA,33,yF2⟩ 0 yEp 116 ydm yhM yii x=ydV x:=by kernel_rfl
def yC4 (x:(yh1).X):Nat:=18446744073709551616
def ysP (x:(yh1).X):Option ((yhM).X ⊕ (yii).X):=zF ydV (yC4 x) (yCO x)
def yDO:Seg:=⟨yh1,yhM,yii,ysP⟩
def yUQ:Nat→Option Seg:=fun q=>bif Nat.beq q 29 then some yDO else yF2 q
theorem yR8:FrOk prog ⟨yBA,33,yUQ⟩ ysn:=(yR7).loop (sg:=yDO) ydm yCO (by decide) yRA ydV yC4 (by decide) (fun _=>rfl) (fun x r _ h=>h) yUh
abbrev ys4:List Par:= [.rd tA,.rd tI]
abbrev yBY:List OT:= [⟨false,tI,.fz⟩,⟨false,tB,.fz⟩]
def ywN (a0:dA) (a1:Int):Option (zaY yBY×zak ys4) :=zkt (ysP (((a1,()),((),()),((),()),((a0.2.2.1.length:Int),()),((),()),()),((a0.1,a0.2.1.1,a0.2.1.2,a0.2.2.1,a0.2.2.2.1,a0.2.2.2.2.1,a0.2.2.2.2.2.1,a0.2.2.2.2.2.2.1,a0.2.2.2.2.2.2.2.1,a0.2.2.2.2.2.2.2.2.1,a0.2.2.2.2.2.2.2.2.2.1,a0.2.2.2.2.2.2.2.2.2.2.1,a0.2.2.2.2.2.2.2.2.2.2.2,()),()),(([]:List Int),()))) (fun y2 =>let r4:=ycw y2.2.2.1;some ((r4,true,()),())) (fun y2 =>some ((y2.1.1.1,y2.1.2.1.1,()),()))
theorem yWd:ConOk prog 122 ⟨ys4,yBY,fun x=>ywN x.1 x.2.1⟩:=zkI (yR8) func122 ntmps122.symm fun x=>by kernel_rfl
def ynM (a0:dA) (a1:Int):Int×Bool:=yqH a0 a1
theorem yYA (a0:dA) (a1:Int) (hk:zjx ys4 (a0,a1,())):ywN a0 a1=(fun n=>some ((n.1,n.2,()),())) (ynM a0 a1):=by
 have hb:a0.2.2.1.length*80≤2^47:=hk.1.2.2.1.1
 have h1:ysP (yPg a1 a0.2.2.1.length a0 [])=some (bif yCf a0 a1 then .inl (yDj ((List.range a0.2.2.1.length).foldl (fun n (i:Nat)=>n++ [yiW a0 i a1]) []))else .inr (yPu 0 false)) :=
  zhU (step:=ydV) a0.2.2.1.length (fun i s=>yrc a1 a0.2.2.1.length i a0 s) (fun(i:Nat)=>yu a0 i a1) (fun n (i:Nat)=>n++ [yiW a0 i a1]) (fun i s=>s.length=i) (fun s=> .inl (yDj s)) _ (fun i s hi hs=>⟨by
   simp only[ydV,yrc,yrN,zky (show(i:Int)<a0.2.2.1.length by omega),cond_true,wq ((i:Int)+1) (by omega) (by omega),Int.natCast_add,Int.natCast_one,Int.toNat_natCast,zkX,yGW a0 i a1 (zkR hi),yht,zkH];rw[show zkl s.length ([yiW a0 i a1]:List Int).length 8=true from zkF.2 (by simp only[List.length_cons,List.length_nil]; omega)]
   cases yu a0 i a1<;>rfl,fun _=>by simp[hs]⟩) (fun s _=>by simp only[ydV,yrc,yrN,zk3 (Int.le_refl _),cond_false]) [] rfl _ (by show _<18446744073709551616; omega)
 unfold ywN ynM yqH ycw;rw[h1,yoD,List.nil_append];cases yCf a0 a1<;>rfl
def yGk:Con:=⟨ys4,yBY,fun x=>(fun n=>some ((n.1,n.2,()),())) (ynM x.1 x.2.1)⟩
theorem yYX:ConOk prog 122 yGk:=(yWd).mono (fun x r hk h=>(yYA x.1 x.2.1 hk).trans h)
def ywZ:Code:=(f48.body).getD .skip
def yFD:Env:=zkw TT [(122,yGk)] []
theorem yVp:FrOk prog ⟨yFD,28,fun _=>none⟩ ywZ:=zkA mixed yc ⟨yYX,trivial⟩
def yHX:Nat→Option Seg:=fun _=>none
def yer:Shape:=⟨[(1,false,[.ptr 0 0]),(3,false,[.int .i64])],[(0,[.int .i64,.int .i64,.int .i64,.br tM,.int .i64,.int .i64,.int .i64,.int .i64,.int .i64,.br tW,.int .i64,.bool,.bool])],[]⟩
def yjA:Shape:=⟨[(1,false,[.ptr 0 0]),(3,false,[.ci .i64 0])],[(0,[.int .i64,.int .i64,.int .i64,.br tM,.int .i64,.int .i64,.int .i64,.int .i64,.int .i64,.br tW,.int .i64,.bool,.bool])],[]⟩
def yjx:Shape:=⟨[],[],[]⟩
def yjE:Shape:=⟨[(2,false,[.bool])],[],[]⟩
abbrev yug (v0:Int) (v1:dA):(yer).X:=((((),()),(v0,()),()),((v1.1,v1.2.1.1,v1.2.1.2,v1.2.2.1,v1.2.2.2.1,v1.2.2.2.2.1,v1.2.2.2.2.2.1,v1.2.2.2.2.2.2.1,v1.2.2.2.2.2.2.2.1,v1.2.2.2.2.2.2.2.2.1,v1.2.2.2.2.2.2.2.2.2.1,v1.2.2.2.2.2.2.2.2.2.2.1,v1.2.2.2.2.2.2.2.2.2.2.2,()),()),())
abbrev ySJ (v0:dA):(yjA).X:=((((),()),((),()),()),((v0.1,v0.2.1.1,v0.2.1.2,v0.2.2.1,v0.2.2.2.1,v0.2.2.2.2.1,v0.2.2.2.2.2.1,v0.2.2.2.2.2.2.1,v0.2.2.2.2.2.2.2.1,v0.2.2.2.2.2.2.2.2.1,v0.2.2.2.2.2.2.2.2.2.1,v0.2.2.2.2.2.2.2.2.2.2.1,v0.2.2.2.2.2.2.2.2.2.2.2,()),()),())
abbrev ySG  :(yjx).X:=((),(),())
abbrev ySM (v0:Bool):(yjE).X:=(((v0,()),()),(),())
def yuQ (v0 v1 v2 v3:Int) (v4:List dM) (v5 v6 v7 v8 v9:Int) (v10:List dW) (v11:Int) (v12 v13:Bool):Option ((yer).X ⊕ ((yjx).X ⊕ (yjE).X)) :=bif(ltb v0 v3)then bif(ltb v0 20)then let r2:=ynM (v1,(v2,v3),v4,v5,v6,v7,v8,v9,v10,v11,v12,v13) v0;bif r2.2 then bif(r2.1 !=0)then some (.inr (.inr (((false,()),()),(),()))) else some (.inl ((((),()),((i64.wrap (v0+1)),()),()),((v1,v2,v3,v4,v5,v6,v7,v8,v9,v10,v11,v12,v13,()),()),())) else some (.inl ((((),()),((i64.wrap (v0+1)),()),()),((v1,v2,v3,v4,v5,v6,v7,v8,v9,v10,v11,v12,v13,()),()),())) else some (.inr (.inl ((),(),()))) else some (.inr (.inl ((),(),())))
def yey (x:(yer).X):=yuQ x.1.2.1.1 x.2.1.1.1 x.2.1.1.2.1 x.2.1.1.2.2.1 x.2.1.1.2.2.2.1 x.2.1.1.2.2.2.2.1 x.2.1.1.2.2.2.2.2.1 x.2.1.1.2.2.2.2.2.2.1 x.2.1.1.2.2.2.2.2.2.2.1 x.2.1.1.2.2.2.2.2.2.2.2.1 x.2.1.1.2.2.2.2.2.2.2.2.2.1 x.2.1.1.2.2.2.2.2.2.2.2.2.2.1 x.2.1.1.2.2.2.2.2.2.2.2.2.2.2.1 x.2.1.1.2.2.2.2.2.2.2.2.2.2.2.2.1
def yEV (x:(yjA).X):(yer).X:=((((),()),(0,()),()),((x.2.1.1.1,x.2.1.1.2.1,x.2.1.1.2.2.1,x.2.1.1.2.2.2.1,x.2.1.1.2.2.2.2.1,x.2.1.1.2.2.2.2.2.1,x.2.1.1.2.2.2.2.2.2.1,x.2.1.1.2.2.2.2.2.2.2.1,x.2.1.1.2.2.2.2.2.2.2.2.1,x.2.1.1.2.2.2.2.2.2.2.2.2.1,x.2.1.1.2.2.2.2.2.2.2.2.2.2.1,x.2.1.1.2.2.2.2.2.2.2.2.2.2.2.1,x.2.1.1.2.2.2.2.2.2.2.2.2.2.2.2.1,()),()),())
def yGe:Code:=(zd7 ywZ 64 52).getD .skip
theorem yVg:zd7 ywZ 64 13=some (.block 0 (.loop yGe)):=by kernel_rfl
theorem yWS (x:(yer).X):zhu ⟨yFD,28,yHX⟩ 0 yGe 52 yer yjx yjE x=yey x:=by kernel_rfl
def yE0 (x:(yjA).X):Nat:=18446744073709551616
def yvP (x:(yjA).X):Option ((yjx).X ⊕ (yjE).X):=zF yey (yE0 x) (yEV x)
def yFy:Seg:=⟨yjA,yjx,yjE,yvP⟩
def yXW:Nat→Option Seg:=fun q=>bif Nat.beq q 13 then some yFy else yHX q
theorem yVq:FrOk prog ⟨yFD,28,yXW⟩ ywZ:=(yVp).loop (sg:=yFy) yer yEV (by decide) yVg yey yE0 (by decide) (fun _=>rfl) (fun x r _ h=>h) yWS
abbrev yw1:List Par:= [.rd tA]
abbrev yFI:List OT:= [⟨false,tB,.fz⟩]
def yzL (a0:dA):Option (zaY yFI×zak yw1) :=zkt (yvP ((((),()),((),()),()),((a0.1,a0.2.1.1,a0.2.1.2,a0.2.2.1,a0.2.2.2.1,a0.2.2.2.2.1,a0.2.2.2.2.2.1,a0.2.2.2.2.2.2.1,a0.2.2.2.2.2.2.2.1,a0.2.2.2.2.2.2.2.2.1,a0.2.2.2.2.2.2.2.2.2.1,a0.2.2.2.2.2.2.2.2.2.2.1,a0.2.2.2.2.2.2.2.2.2.2.2,()),()),())) (fun y2 =>some ((true,()),())) (fun y2 =>some ((y2.1.1.1,()),()))
theorem yYQ:ConOk prog 48 ⟨yw1,yFI,fun x=>yzL x.1⟩:=zkI (yVq) func48 ntmps48.symm fun x=>by kernel_rfl
def yp6 (a0:dA):Bool:=yRR a0
theorem yZ4 (a0:dA) (hk:zjx yw1 (a0,())):yzL a0=(fun n=>some ((n,()),())) (yp6 a0):=by
 have h1:yvP (ySJ a0)=some (bif(List.range (min a0.2.1.2.toNat 20)).any (fun(s:Nat)=>(yqH a0 s).2&&(yqH a0 s).1 !=0)then .inr (ySM false)else .inl ySG) :=
  zji (step:=yey) (fun i=>yug i a0) (min a0.2.1.2.toNat 20) _ _ _ (fun i hi=>by
   simp only[yey,yug,yuQ,zky (show(i:Int)<a0.2.1.2 by omega),cond_true,wq ((i:Int)+1) (by omega) (by omega),Int.natCast_add,Int.natCast_one,Int.toNat_natCast,zky (show(i:Int)<20 by omega),zkX,ynM]
   cases(yqH a0 i).2<;>cases((yqH a0 i).1 !=0)<;>rfl) (by
   simp only[yey,yug,yuQ];by_cases h:a0.2.1.2≤((min a0.2.1.2.toNat 20:Nat):Int)
   ·rw[zk3 h]; rfl
   ·rw[zky (by omega),zk3 (show(20:Int)≤((min a0.2.1.2.toNat 20:Nat):Int)by omega)]; rfl) _ (by show _<18446744073709551616; omega)
 unfold yzL yp6 yRR;rw[h1,List.all_eq_not_any_not]; simp only[Bool.not_not];cases(List.range (min a0.2.1.2.toNat 20)).any (fun(s:Nat)=>(yqH a0 s).2&&(yqH a0 s).1 !=0)<;>rfl
def yHZ:Con:=⟨yw1,yFI,fun x=>(fun n=>some ((n,()),())) (yp6 x.1)⟩
theorem yZ9:ConOk prog 48 yHZ:=(yYQ).mono (fun x r hk h=>(yZ4 x.1 hk).trans h)
end
end Go.Tf
