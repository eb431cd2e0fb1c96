/- Functions of the program, and what they come to. -/
import Derived.Test.YtolmneojjjpnjaaGreatSureTt
namespace Go.Tf
noncomputable section
open Go.Proofs Go.Proofs.Tryz IntKind
set_option synthInstance.maxHeartbeats 400000
set_option synthInstance.maxSize 10000
set_option linter.unusedVariables false
set_option linter.unusedSimpArgs false
set_option maxRecDepth 100000
def y03:Code:=(f14.body).getD .skip
def y04:Env:=zku TT [] []
theorem yYn:FrOk prog ⟨y04,6,fun _=>none⟩ y03:=zky yg yh trivial
abbrev yGO:List Par:= [.rd tYs]
abbrev yGP:List OT:= [⟨false,tB,.fz⟩]
def yKk (a0:List Int):Option (zaY yGP×zak yGO) :=some (((ltb 1048576 (a0.length:Int)),()),())
theorem yZZ:ConOk prog 14 ⟨yGO,yGP,fun x=>yKk x.1⟩:=zkG (yYn) func14 ntmps14.symm fun x=>by kernel_rfl
def yt2 (a0:List Int):Bool :=(ltb 1048576 (a0.length:Int))
def yII:Con:=⟨yGO,yGP,fun x=>(fun n=>some ((n,()),())) (yt2 x.1)⟩
theorem y0w (a0:List Int):yKk a0=(fun n=>some ((n,()),())) (yt2 a0):=zkT (p:=fun(n:Bool)=>((n,()),())) rfl
theorem y0x:ConOk prog 14 yII:=(yZZ).mono (fun x r _ h=>(y0w x.1).trans h)
def yaf {α:Type} (p:α→Bool) (l:List α):Int:=bif l.any p then((l.takeWhile (fun x=> !p x)).length:Int)else -1
theorem yW6 {α:Type} (p:α→Bool):yaf p []= -1:=rfl
theorem yAX {α:Type} (p:α→Bool) (x:α) (l:List α):yaf p (x::l)=bif p x then 0 else bif leb 0 (yaf p l)then yaf p l+1 else -1:=by
 unfold yaf;rw[List.any_cons,List.takeWhile_cons];cases p x
 ·cases l.any p
  ·rfl
  ·simp only[Bool.false_or,Bool.not_false,if_true,cond_true,cond_false,List.length_cons]
   rw[zk0 (show(0:Int)≤((l.takeWhile (fun x=> !p x)).length:Int)by omega),cond_true]; omega
 ·simp
theorem ymY {α:Type} {p:α→Bool} {d:α}: ∀{l:List α},leb 0 (yaf p l)=true→inb (yaf p l) l.length=true∧p (nth l (yaf p l) d)=true
 | [],h=>by rw[yW6]at h; cases h
 | x::l,h=>by
  rw[yAX]at h ⊢;cases hx:p x
  ·rw[hx]at h
   cases hl:leb 0 (yaf p l)
   ·rw[hl]at h; cases h
   ·obtain⟨h1,h2⟩:=ymY (d:=d) hl
    have h3:=zj4.1 h1;have h4:=zj5.1 hl;simp only[cond_false,cond_true,List.length_cons];refine⟨zj4.2 (by omega),?_⟩;unfold nth at h2 ⊢;rw[show(yaf p l+1).toNat=(yaf p l).toNat+1 by omega,List.getD_cons_succ];exact h2
  ·simp only[cond_true,List.length_cons]
   refine⟨zj4.2 (by omega),?_⟩;exact hx
theorem yJs {A B α:Type} {step:A→Option (A ⊕ B)} (l:List α) (d:α) (f:Nat→A) (p:α→Bool) (b:Int→B) (c:B)
  (h: ∀i,i<l.length→step (f i)=some (bif p (l.getD i d)then .inr (b i)else .inl (f (i+1)))) (e:step (f l.length)=some (.inr c)) (fuel:Nat) (hf:l.length<fuel) :
  zF step fuel (f 0)=some (bif leb 0 (yaf p l)then b (yaf p l)else c):=by
 have: ∀(t q:List α) (fuel:Nat),q++t=l→t.length<fuel→zF step fuel (f q.length)=some (bif leb 0 (yaf p t)then b (q.length+yaf p t)else c):=by
  intro t
  induction t with
  | nil =>
   intro q fuel hq hf;obtain⟨fuel,rfl⟩: ∃m,fuel=m+1:=⟨fuel-1,by omega⟩;rw[List.append_nil]at hq;subst hq;simp only[zF,e]; rfl
  | cons x t ih =>
   intro q fuel hq hf;obtain⟨fuel,rfl⟩: ∃m,fuel=m+1:=⟨fuel-1,by omega⟩
   have hx:l.getD q.length d=x:=by
    subst hq;rw[zkH (by simp)]; simp
   have hs:=h q.length (by rw[← hq]; simp);rw[hx]at hs;rw[yAX];cases hp:p x
   ·rw[hp]at hs
    have:=ih (q++ [x]) fuel (by rw[← hq]; simp) (by simp at hf; omega);simp only[List.length_append,List.length_cons,List.length_nil]at this;simp only[zF,hs,cond_false];rw[show q.length+1=q.length+(0+1)by omega,this];cases hl:leb 0 (yaf p t)
    ·rfl
    ·have:=zj5.1 hl
     rw[cond_true,cond_true,zk0 (show 0≤yaf p t+1 by omega),cond_true];congr 2; omega
   ·rw[hp]at hs
    simp only[zF,hs,cond_true];rw[zk0 (Int.le_refl 0),cond_true,Int.add_zero]
 have:=this l [] fuel rfl hf;simpa using this
theorem yof {α β:Type} (f:α→β): ∀(l:List α) (s:List β),l.foldl (fun s i=>s++ [f i]) s=s++l.map f
 | [],s=>by simp
 | x::l,s=>by rw[List.foldl_cons,yof f l]; simp
theorem ywg {α:Type} (l:List α):l.foldl (fun s i=>s++ [i]) []=l:=by
 have:=yof id l [];simpa using this
theorem y16 {α:Type} (l:List α) (d:α) {i:Nat} (h:i<l.length):l.take i++ [nth l i d]=l.take (i+1):=by rw[zkQ,zkH h,List.take_append_getElem h]
def ycu (e:dW) (s:Bool×List dW) (x:dW):Bool×List dW:=(s.1||leb e.1 x.1,(bif !s.1&&leb e.1 x.1 then s.2++ [e]else s.2)++(bif x.1 !=e.1 then[x]else[]))
def yJ9 (l:List dW) (e:dW):List dW:=bif(l.foldl (ycu e) (false,[])).1 then(l.foldl (ycu e) (false,[])).2 else(l.foldl (ycu e) (false,[])).2++ [e]
def ywK (a:dA) (l:List dW):dA:=(a.1,a.2.1,a.2.2.1,a.2.2.2.1,a.2.2.2.2.1,a.2.2.2.2.2.1,a.2.2.2.2.2.2.1,a.2.2.2.2.2.2.2.1,l,a.2.2.2.2.2.2.2.2.2)
def y37 (a:dA):dA:=(a.1,a.2.1,a.2.2.1,a.2.2.2.1,a.2.2.2.2.1,a.2.2.2.2.2.1,a.2.2.2.2.2.2.1,a.2.2.2.2.2.2.2.1,a.2.2.2.2.2.2.2.2.1,-1,true,a.2.2.2.2.2.2.2.2.2.2.2)
abbrev yc:dM:=([],[],false,[])
def isW (x:Int):Bool:=leb 0 x&&leb x 65535
def yav (s:List Int):Bool:=leb (s.length:Int) 12&&s.all isW
theorem yrV {x:Int}:isW x=true↔0≤x∧x≤65535:=by simp[isW,zj5]
theorem yxV {s:List Int}:yav s=true↔s.length≤12∧ ∀x∈s,0≤x∧x≤65535:=by
 simp only[yav,Bool.and_eq_true,zj5,List.all_eq_true,yrV];constructor
 ·rintro⟨h1,h2⟩; exact⟨by omega,h2⟩
 ·rintro⟨h1,h2⟩; exact⟨by omega,h2⟩
theorem y0F: ∀{l:List Int},l.Pairwise (· < ·)↔ ∀i,i+1<l.length→l.getD i 0<l.getD (i+1) 0
 | []=>by simp
 | [x]=>by simp
 | x::y::l=>by
  have ih:=y0F (l:=y::l);constructor
  ·intro h i hi
   cases h with
   | cons h1 h2 =>
    cases i with
    | zero=>exact h1 y List.mem_cons_self
    | succ i=>exact ih.1 h2 i (by simpa using hi)
  ·intro h
   have h2:(y::l).Pairwise (· < ·):=ih.2 fun i hi=>h (i+1) (by simpa using hi)
   refine .cons (fun z hz=> ?_) h2;have h3:x<y:=h 0 (by simp);rcases List.mem_cons.1 hz with rfl | hz
   ·exact h3
   ·cases h2 with
    | cons h4 _=>exact Int.lt_trans h3 (h4 z hz)
def yob (n:Nat) (l:List Int):Bool:=l.all (fun x=>inb x n)&&decide (l.Pairwise (· < ·))
def yrJ (n:Nat) (w:dW):Bool:=inb w.1 n&&yav w.2
def yu (m:dM):Bool:=m.1.all yav&&m.2.1.all (yrJ m.1.length)&&yob m.1.length m.2.2.2&&leb 1 (m.1.length:Int)&&leb (m.1.length:Int) 20&&leb (m.2.1.length:Int) 60
def yDY (n:Nat) (l:List Int) (i:Nat):Bool:= !(inb (l.getD i 0) n)||(decide (0<i)&&leb (l.getD i 0) (l.getD (i-1) 0))
theorem yWP (n:Nat) (l:List Int):(List.range l.length).any (yDY n l)= !(yob n l):=by
 rw[Bool.eq_iff_iff,List.any_eq_true,Bool.not_eq_true',yob,Bool.and_eq_false_iff,decide_eq_false_iff_not,y0F,List.all_eq_false];simp only[List.mem_range,yDY,Bool.or_eq_true,Bool.not_eq_true',Bool.and_eq_true,decide_eq_true_eq,zj5];constructor
 ·rintro⟨i,hi,h | ⟨h1,h2⟩⟩
  ·exact .inl ⟨l[i],List.getElem_mem hi,by rw[zkH hi]at h; simp[h]⟩
  ·refine .inr fun h3=> ?_
   have:=h3 (i-1) (by omega);rw[show i-1+1=i by omega]at this;omega
 ·rintro(⟨x,hx,h⟩ | h)
  ·obtain⟨i,hi,rfl⟩:=List.getElem_of_mem hx
   exact⟨i,hi,.inl (by rw[zkH hi]; simpa using h)⟩
  ·refine Classical.byContradiction fun hc=>h fun i hi=> ?_
   refine Classical.byContradiction fun h4=>hc ⟨i+1,hi,.inr ⟨by omega,?_⟩⟩
   rw[Nat.add_sub_cancel]; omega
def ygU (n:Int) (c:List dW) (s:List Int):List Int:=c.foldl (fun s w=>bif w.1==n then w.2 else s) s
def yrO (m:dM) (n:Int):Bool:=yu m&&(!m.2.2.1&&(inb n m.1.length&& !(m.2.2.2.any (· ==n))))
def yN (m:dM) (n:Int):List Int×Bool:=bif yrO m n then(ygU n m.2.1 (nth m.1 n []),true)else([],false)
theorem yHc {P:List Int→Prop} {n:Int}: ∀{c:List dW} {s:List Int},P s→(∀w∈c,P w.2)→P (ygU n c s)
 | [],_,h,_=>h
 | w::c,s,h,hc=>yHc (c:=c) (zkO (hc w List.mem_cons_self) h) (fun x hx=>hc x (List.mem_cons_of_mem _ hx))
theorem yGk {α:Type} {P:α→Prop} {l:List α} {i:Int} {d:α} (h:inb i l.length=true) (hl: ∀x∈l,P x):P (nth l i d):=by
 obtain⟨h1,h2⟩:=zj4.1 h;unfold nth;rw[zkH (show i.toNat<l.length by omega)];exact hl _ (List.getElem_mem _)
theorem yVg {α:Type} {p:α→Bool} {l:List α} (h:leb 0 (yaf p l)=false):yaf p l= -1:=by
 unfold yaf at h ⊢;cases ha:l.any p
 ·rfl
 ·rw[ha,cond_true,zk0 (show(0:Int)≤((l.takeWhile (fun x=> !p x)).length:Int)by omega)]at h; cases h
theorem yW7 {α:Type} {p:α→Bool}: ∀{l:List α},leb 0 (yaf p l)=true→(l.take ((yaf p l).toNat+1)).filter (fun x=> !p x)=l.take (yaf p l).toNat
 | [],h=>by rw[yW6]at h; cases h
 | x::l,h=>by
  rw[yAX]at h ⊢;cases hx:p x
  ·rw[hx]at h
   cases hl:leb 0 (yaf p l)
   ·rw[hl]at h; cases h
   ·have h4:=zj5.1 hl
    simp only[cond_false,cond_true];rw[show(yaf p l+1).toNat=(yaf p l).toNat+1 by omega,List.take_succ_cons,List.take_succ_cons,List.filter_cons,hx,yW7 hl]; rfl
  ·simp only[cond_true]
   show List.filter (fun x=> !p x) [x]= [];rw[List.filter_cons,hx]; rfl
theorem y2x {α:Type} {p:α→Bool} {l:List α} (h:leb 0 (yaf p l)=false):l.filter (fun x=> !p x)=l:=by
 rw[List.filter_eq_self];intro x hx;unfold yaf at h;cases ha:l.any p
 ·have:=List.any_eq_false.1 ha x hx
  simpa using this
 ·rw[ha,cond_true,zk0 (show(0:Int)≤((l.takeWhile (fun x=> !p x)).length:Int)by omega)]at h; cases h
def yJ (a:dA):dA:=(a.1,a.2.1,a.2.2.1,a.2.2.2.1,a.2.2.2.2.1,i64.wrap (a.2.2.2.2.2.1+1),a.2.2.2.2.2.2)
def yx (s:Int):Int:=bif leb 0 s&&leb s 1099511627776 then s+6 else -1
def ycq (a:dA) (m s:Int):Bool:=inb m a.2.2.1.length&&(!(nth a.2.2.1 m yc).2.2.1&&(m !=a.2.2.2.1||ltb s a.2.2.2.2.1))
def yc8 (a:dA) (m s:Int):List Int×Bool:=yN (nth a.2.2.1 m yc) (yx s)
def yA (a:dA) (m s:Int):Bool:=ycq a m s&&((yc8 a m s).2&&((yc8 a m s).1.length:Int)==1)
def yiH (a:dA) (m s:Int):Int:=bif yA a m s then nth (yc8 a m s).1 0 0 else 0
def xw (a b:Int):Int:=i64.wrap ((BitVec.ofInt IntKind.i64.bits a ^^^ BitVec.ofInt IntKind.i64.bits b).toNat:Int)
def yax (l:List Int):Int:=l.foldl xw 0
def yB2 (a:dA) (s:Int):Bool:=(List.range a.2.2.1.length).all (fun(i:Nat)=>yA a i s)
def yqx (a:dA) (s:Int):Int×Bool:=bif yB2 a s then(yax ((List.range a.2.2.1.length).map (fun(i:Nat)=>yiH a i s)),true)else(0,false)
def yY8 (a:dA):Bool:=(List.range (min a.2.1.2.toNat 20)).all (fun(s:Nat)=> !((yqx a s).2&&(yqx a s).1 !=0))
def bv (x:Int):BitVec 64:=BitVec.ofInt 64 x
theorem yZa (a b:Int):xw a b=(bv a ^^^ bv b).toInt:=by
 show i64.wrap ((bv a ^^^ bv b).toNat:Int)=_;rw[IntKind.wrap_i64,BitVec.toInt_eq_toNat_cond];have:=(bv a ^^^ bv b).isLt;split<;>omega
theorem yv9 (v:BitVec 64):bv v.toInt=v:=by unfold bv; simp
theorem y2S {x:Int} (h: -9223372036854775808≤x) (h2:x≤9223372036854775807):(bv x).toInt=x:=by
 unfold bv;rw[BitVec.toInt_ofInt,Int.bmod_def];simp only[Nat.reducePow]at *;omega
def ye2 (l:List Int):BitVec 64:=l.foldl (fun v x=>v ^^^ bv x) 0#64
theorem ynF (l:List Int):yax l=(ye2 l).toInt:=by
 have: ∀(l:List Int) (v:BitVec 64),l.foldl xw v.toInt=(l.foldl (fun v x=>v ^^^ bv x) v).toInt:=by
  intro l
  induction l with
  | nil=>intro _; rfl
  | cons x l ih =>
   intro v;rw[List.foldl_cons,List.foldl_cons,yZa,yv9,ih]
 have h:=this l 0#64;rwa[show(0#64:BitVec 64).toInt=0 from by decide]at h
theorem y2k (l:List Int) (x:Int):ye2 (l++ [x])=ye2 l ^^^ bv x:=by unfold ye2; rw[List.foldl_append]; rfl
theorem y24 {i:Int} {n:Nat} (h: ¬(0≤i∧i<(n:Int))):inb i n=false:=by
 cases e:inb i n
 ·rfl
 ·exact absurd (zj4.1 e) h
def ym1 (l:List Int) (k:Int):Int:=bif inb k l.length then xw (yax l) (nth l k 0)else yax l
theorem yXn (u v:BitVec 64):u ^^^ v ^^^ v=u:=by rw[BitVec.xor_assoc,BitVec.xor_self,BitVec.xor_zero]
theorem y1W (l:List Int) (k:Int):(List.range l.length).foldl (fun n (i:Nat)=>bif(i:Int) !=k then xw n (nth l i 0)else n) 0=ym1 l k:=by
 have: ∀n,n≤l.length→(List.range n).foldl (fun n (i:Nat)=>bif(i:Int) !=k then xw n (nth l i 0)else n) 0=(bif inb k n then ye2 (l.take n) ^^^ bv (nth l k 0)else ye2 (l.take n)).toInt:=by
  intro n
  induction n with
  | zero =>
   intro _;rw[y24 (show ¬(0≤k∧k<((0:Nat):Int))by omega)];rfl
  | succ n ih =>
   intro hn;rw[List.range_succ,List.foldl_append,List.foldl_cons,List.foldl_nil,ih (by omega),← y16 l 0 (show n<l.length by omega),y2k];by_cases hk:(n:Int)=k
   ·subst hk
    rw[show((n:Int) !=n)=false by simp,cond_false,y24 (show ¬(0≤(n:Int)∧(n:Int)<(n:Int))by omega),show inb (n:Int) (n+1)=true from zkP (Nat.lt_succ_self n),cond_false,cond_true,yXn]
   ·rw[show((n:Int) !=k)=true from bne_iff_ne.2 hk,cond_true,show inb k (n+1)=inb k n by rw[Bool.eq_iff_iff,zj4,zj4]; omega,yZa,yv9]
    cases inb k n
    ·rfl
    ·rw[cond_true,cond_true,BitVec.xor_assoc,BitVec.xor_comm (bv (nth l k 0)),← BitVec.xor_assoc]
 rw[this l.length (Nat.le_refl _),List.take_length];unfold ym1;rw[yZa,ynF,yv9];cases inb k l.length<;>rfl
theorem y1V {l:List Int} {k:Int} (h:inb k l.length=true) (h0:nth l k 0=0):ym1 l k=yax l:=by
 unfold ym1;rw[h,h0,cond_true,yZa,ynF,yv9,show bv 0=0#64 by decide,BitVec.xor_zero]
theorem yW3 {α β:Type} (f:α→List β): ∀(l:List α) (s:List β),l.foldl (fun s i=>s++f i) s=s++l.flatMap f
 | [],s=>by simp
 | x::l,s=>by rw[List.foldl_cons,yW3 f l]; simp
abbrev yaB:dA:=(0,(0,0),[],0,0,0,0,0,[],0,false,false)
def yKu (k:Int) (i:Nat):Bool:=i64.wrap ((BitVec.ofInt IntKind.i64.bits (k.fdiv (2^(min (i:Int).toNat IntKind.i64.bits))) &&& BitVec.ofInt IntKind.i64.bits 1).toNat:Int)==1
def ySl (k:Int):Int:=bif leb 0 k&&leb k 1048575 then k else 0
def yeT (b:Nat→Bool) (c:List dW) (l:List (List Int)) (i:Nat):List (List Int):=bif b i then l.set (nth c i (0,[])).1.toNat (nth c i (0,[])).2 else l
def yf9 (b:Nat→Bool) (c:List dW) (l:List (List Int)):List (List Int):=(List.range c.length).foldl (yeT b c) l
def ydE (m:dM) (k:Int):dM:=bif yu m then(yf9 (fun i=>decide (i<20)&&yKu (ySl k) i) m.2.1 m.1,[],m.2.2.1,m.2.2.2)else m
def yJq (ks:List Int) (i:Nat):Int:=bif decide (i<ks.length)then nth ks i 0 else 0
def yad (l:List dM) (ks:List Int):List dM:=(List.range l.length).map (fun(i:Nat)=>ydE (nth l i yc) (yJq ks i))
theorem ycr {m:dM} (h:yu m=true):m.1.all yav=true∧m.2.1.all (yrJ m.1.length)=true∧yob m.1.length m.2.2.2=true∧1≤m.1.length∧m.1.length≤20∧m.2.1.length≤60:=by
 simp only[yu,Bool.and_eq_true,zj5]at h;exact⟨h.1.1.1.1.1,h.1.1.1.1.2,h.1.1.1.2,by omega,by omega,by omega⟩
theorem yOF {m:dM} (h:yu m=true) {i:Nat} (hi:i<m.2.1.length):inb (nth m.2.1 i (0,[])).1 m.1.length=true∧yav (nth m.2.1 i (0,[])).2=true:=by
 have h1:=List.all_eq_true.1 (ycr h).2.1 m.2.1[i] (List.getElem_mem hi);rw[zkQ,zkH hi];exact Bool.and_eq_true_iff.1 h1
theorem ytT {b:Nat→Bool} {c:List dW} {l:List (List Int)} {i:Nat}:(yeT b c l i).length=l.length:=by
 unfold yeT; cases b i
 ·rfl
 ·exact List.length_set
theorem yRD {α β:Type} (P:β→Prop) (f:β→α→β) (h: ∀s x,P s→P (f s x)): ∀(l:List α) (s:β),P s→P (l.foldl f s)
 | [],_,hs=>hs
 | x::l,s,hs=>yRD P f h l (f s x) (h s x hs)
theorem ypN {b:Nat→Bool} {c:List dW} {l:List (List Int)}:(yf9 b c l).length=l.length :=
 yRD (fun x=>x.length=l.length) _ (fun s x hs=>by rw[ytT]; exact hs) _ l rfl
theorem y0v {P:List Int→Prop} {b:Nat→Bool} {c:List dW} {l:List (List Int)} (hl: ∀x∈l,P x) (hc: ∀w∈c,P w.2): ∀x∈yf9 b c l,P x:=by
 have: ∀(n:Nat),n≤c.length→ ∀x∈(List.range n).foldl (yeT b c) l,P x:=by
  intro n
  induction n with
  | zero=>intro _; exact hl
  | succ n ih =>
   intro hn x hx;rw[List.range_succ,List.foldl_append,List.foldl_cons,List.foldl_nil,yeT]at hx;cases hb:b n
   ·rw[hb]at hx; exact ih (by omega) x hx
   ·rw[hb,cond_true]at hx
    rcases List.mem_or_eq_of_mem_set hx with h | h
    ·exact ih (by omega) x h
    ·rw[h,zkQ,zkH (show n<c.length by omega)]
     exact hc _ (List.getElem_mem _)
 exact this _ (Nat.le_refl _)
def ybc (m:dM) (n:Int) (s:List Int):Bool:=yu m&&(!m.2.2.1&&(inb n m.1.length&&(yav s&&ltb (m.2.1.length:Int) 60)))
def yHk (l:List Int) (n:Int):List Int:=l.filter (· !=n)
def yT (m:dM) (n:Int) (s:List Int):dM×Bool:=bif ybc m n s then((m.1,m.2.1++ [(n,s)],m.2.2.1,yHk m.2.2.2 n),true)else(m,false)
def yz (m:dM):dM:=bif yu m&& !m.2.2.1 then(yf9 (fun _=>true) m.2.1 m.1,[],m.2.2.1,m.2.2.2)else m
def ye7 (m:dM):dM:=(m.1,[],true,m.2.2.2)
def yXz:Code:=(f81.body).getD .skip
def yX5:Env:=zku TT [] []
theorem yN1:FrOk prog ⟨yX5,15,fun _=>none⟩ yXz:=zky yg yh trivial
abbrev yyr:List Par:= [.rd tI,.rd tI,.rd tI]
abbrev yyQ:List OT:= [⟨false,tB,.fz⟩]
def yE3 (a0 a1 a2:Int):Option (zaY yyQ×zak yyr) :=bif(leb a1 a0)then some (((leb a0 a2),()),()) else some ((false,()),())
theorem yTb:ConOk prog 81 ⟨yyr,yyQ,fun x=>yE3 x.1 x.2.1 x.2.2.1⟩:=zkG (yN1) func81 ntmps81.symm fun x=>by kernel_rfl
def yj (a0 a1 a2:Int):Bool :=bif(leb a1 a0)then (leb a0 a2) else false
def yO:Con:=⟨yyr,yyQ,fun x=>(fun n=>some ((n,()),())) (yj x.1 x.2.1 x.2.2.1)⟩
theorem yVw (a0 a1 a2:Int):yE3 a0 a1 a2=(fun n=>some ((n,()),())) (yj a0 a1 a2):=zkT (p:=fun(n:Bool)=>((n,()),())) (zkE (p:=fun(n:Bool)=>((n,()),())) rfl rfl)
theorem yaa:ConOk prog 81 yO:=(yTb).mono (fun x r _ h=>(yVw x.1 x.2.1 x.2.2.1).trans h)
def y0i:Code:=(f82.body).getD .skip
def y0k:Env:=zku TT [] []
theorem yVc:FrOk prog ⟨y0k,15,fun _=>none⟩ y0i:=zky yg yh trivial
abbrev yFi:List Par:= [.rd tI,.rd tI,.rd tI]
abbrev yFm:List OT:= [⟨false,tB,.fz⟩]
def yHG (a0 a1 a2:Int):Option (zaY yFm×zak yFi) :=bif(leb a1 a0)then some (((leb a0 a2),()),()) else some ((false,()),())
theorem yYO:ConOk prog 82 ⟨yFi,yFm,fun x=>yHG x.1 x.2.1 x.2.2.1⟩:=zkG (yVc) func82 ntmps82.symm fun x=>by kernel_rfl
def yb (a0 a1 a2:Int):Bool :=bif(leb a1 a0)then (leb a0 a2) else false
def yL:Con:=⟨yFi,yFm,fun x=>(fun n=>some ((n,()),())) (yb x.1 x.2.1 x.2.2.1)⟩
theorem yZW (a0 a1 a2:Int):yHG a0 a1 a2=(fun n=>some ((n,()),())) (yb a0 a1 a2):=zkT (p:=fun(n:Bool)=>((n,()),())) (zkE (p:=fun(n:Bool)=>((n,()),())) rfl rfl)
theorem yS:ConOk prog 82 yL:=(yYO).mono (fun x r _ h=>(yZW x.1 x.2.1 x.2.2.1).trans h)
theorem ytR {a b c:Int}:yb a b c=true↔b≤a∧a≤c:=by
 unfold yb;cases h:leb b a
 ·have:=mt zk0 (by rw[h]; simp: ¬leb b a=true)
  simp[this]
 ·simp[zj5,zj5.1 h]
theorem y36 {a b c:Int} (h:b≤a) (h2:a≤c):yb a b c=true:=ytR.2 ⟨h,h2⟩
theorem yau (a b c:Int):yj a b c=yb a b c:=by kernel_rfl
theorem ycx (x a b:Int):yb x a b=(leb a x&&leb x b):=by
 unfold yb; cases leb a x<;>rfl
theorem ymZ {x:Int} {n:Nat} (h:n≤1152921504606846976):yb x 0 (i64.wrap ((n:Int)-1))=inb x n:=by
 rw[wr (by omega) (by omega),Bool.eq_iff_iff,ytR,zj4]; omega
def yZc:Code:=(f123.body).getD .skip
def yZo:Env:=zku TT [(81,yO)] []
theorem yRH:FrOk prog ⟨yZo,11,fun _=>none⟩ yZc:=zky yg yh ⟨yaa,trivial⟩
abbrev yBv:List Par:= [.rd tG]
abbrev yBG:List OT:= [⟨false,tB,.fz⟩]
def yGC (a0:dG):Option (zaY yBG×zak yBv) :=let r1:=yj a0.1 3 5;bif r1 then let r2:=yj a0.2 1 8;some ((r2,()),()) else some ((false,()),())
theorem yVV:ConOk prog 123 ⟨yBv,yBG,fun x=>yGC x.1⟩:=zkG (yRH) func123 ntmps123.symm fun x=>by kernel_rfl
def ydw (a0:dG):Bool :=let r1:=yj a0.1 3 5;bif r1 then let r2:=yj a0.2 1 8;r2 else false
def yjs:Con:=⟨yBv,yBG,fun x=>(fun n=>some ((n,()),())) (ydw x.1)⟩
theorem yYs (a0:dG):yGC a0=(fun n=>some ((n,()),())) (ydw a0):=zkT (p:=fun(n:Bool)=>((n,()),())) (zkE (p:=fun(n:Bool)=>((n,()),())) rfl rfl)
theorem yqt:ConOk prog 123 yjs:=(yVV).mono (fun x r _ h=>(yYs x.1).trans h)
def yXy:Code:=(f125.body).getD .skip
def yX4:Env:=zku TT [(81,yO)] []
theorem yN0:FrOk prog ⟨yX4,26,fun _=>none⟩ yXy:=zky yg yh ⟨yaa,trivial⟩
abbrev yyq:List Par:= [.rd tG,.rd tI,.rd tI]
abbrev yyP:List OT:= [⟨false,tB,.fz⟩]
def yE2 (a0:dG) (a1 a2:Int):Option (zaY yyP×zak yyq) :=let r1:=yj a1 (-1) (i64.wrap (a0.1-1));bif r1 then let r2:=yj a2 0 a0.2;bif r2 then bif(!(a2==0))then some (((a1 !=(-1)),()),()) else some ((true,()),()) else some ((false,()),()) else some ((false,()),())
theorem yTa:ConOk prog 125 ⟨yyq,yyP,fun x=>yE2 x.1 x.2.1 x.2.2.1⟩:=zkG (yN0) func125 ntmps125.symm fun x=>by kernel_rfl
def yfq (a0:dG) (a1 a2:Int):Bool :=let r1:=yj a1 (-1) (i64.wrap (a0.1-1));bif r1 then let r2:=yj a2 0 a0.2;bif r2 then bif(!(a2==0))then (a1 !=(-1)) else true else false else false
def ytu:Con:=⟨yyq,yyP,fun x=>(fun n=>some ((n,()),())) (yfq x.1 x.2.1 x.2.2.1)⟩
theorem yVv (a0:dG) (a1 a2:Int):yE2 a0 a1 a2=(fun n=>some ((n,()),())) (yfq a0 a1 a2):=zkT (p:=fun(n:Bool)=>((n,()),())) (zkE (p:=fun(n:Bool)=>((n,()),())) (zkE (p:=fun(n:Bool)=>((n,()),())) (zkE (p:=fun(n:Bool)=>((n,()),())) rfl rfl) rfl) rfl)
theorem yGq:ConOk prog 125 ytu:=(yTa).mono (fun x r _ h=>(yVv x.1 x.2.1 x.2.2.1).trans h)
def yNe:Code:=(f109.body).getD .skip
def yNu:Env:=zku TT [(81,yO),(123,yjs)] []
theorem yHY:FrOk prog ⟨yNu,14,fun _=>none⟩ yNe:=zky yg yh ⟨yaa,yqt,trivial⟩
abbrev yqL:List Par:= [.rd tG,.rd tI]
abbrev yqN:List OT:= [⟨false,tB,.fz⟩]
def yxU (a0:dG) (a1:Int):Option (zaY yqN×zak yqL) :=let r1:=ydw a0;bif r1 then let r2:=yj a1 0 (i64.wrap (a0.2-1));some ((r2,()),()) else some ((false,()),())
theorem yJ1:ConOk prog 109 ⟨yqL,yqN,fun x=>yxU x.1 x.2.1⟩:=zkG (yHY) func109 ntmps109.symm fun x=>by kernel_rfl
def yaV (a0:dG) (a1:Int):Bool :=let r1:=ydw a0;bif r1 then let r2:=yj a1 0 (i64.wrap (a0.2-1));r2 else false
def yeS:Con:=⟨yqL,yqN,fun x=>(fun n=>some ((n,()),())) (yaV x.1 x.2.1)⟩
theorem yMd (a0:dG) (a1:Int):yxU a0 a1=(fun n=>some ((n,()),())) (yaV a0 a1):=zkT (p:=fun(n:Bool)=>((n,()),())) (zkE (p:=fun(n:Bool)=>((n,()),())) rfl rfl)
theorem yi2:ConOk prog 109 yeS:=(yJ1).mono (fun x r _ h=>(yMd x.1 x.2.1).trans h)
def yXx:Code:=(f135.body).getD .skip
def yX3:Env:=zku TT [(81,yO)] []
theorem yNZ:FrOk prog ⟨yX3,5,fun _=>none⟩ yXx:=zky yg yh ⟨yaa,trivial⟩
abbrev yyp:List Par:= [.rd tI]
abbrev yyO:List OT:= [⟨false,tB,.fz⟩]
def yE1 (a0:Int):Option (zaY yyO×zak yyp) :=let r1:=yj a0 0 65535;some ((r1,()),())
theorem yS9:ConOk prog 135 ⟨yyp,yyO,fun x=>yE1 x.1⟩:=zkG (yNZ) func135 ntmps135.symm fun x=>by kernel_rfl
def yaE (a0:Int):Bool :=let r1:=yj a0 0 65535;r1
def yEl:Con:=⟨yyp,yyO,fun x=>(fun n=>some ((n,()),())) (yaE x.1)⟩
theorem yVu (a0:Int):yE1 a0=(fun n=>some ((n,()),())) (yaE a0):=zkT (p:=fun(n:Bool)=>((n,()),())) rfl
theorem yWm:ConOk prog 135 yEl:=(yS9).mono (fun x r _ h=>(yVu x.1).trans h)
def ynM:Code:=(f187.body).getD .skip
def yvw:Env:=zku TT [(135,yEl)] []
theorem yLu:FrOk prog ⟨yvw,15,fun _=>none⟩ ynM:=zky yg yh ⟨yWm,trivial⟩
def yBd:Nat→Option Seg:=fun _=>none
def ydB:Shape:=⟨[(5,false,[.br tI]),(6,false,[.int .i64]),(7,false,[.int .i64])],[],[]⟩
def yiL:Shape:=⟨[(5,false,[.br tI]),(6,false,[.int .i64]),(7,false,[.ci .i64 0])],[],[]⟩
def yiJ:Shape:=⟨[],[],[]⟩
def yiT:Shape:=⟨[(2,false,[.bool])],[],[]⟩
def ynz (v0:List Int) (v1 v2:Int):Option ((ydB).X ⊕ ((yiJ).X ⊕ (yiT).X)) :=bif(ltb v2 v1)then bif(inb v2 v0.length)then let r2:=yaE (nth v0 v2 0);bif(!r2)then some (.inr (.inr (((false,()),()),(),()))) else some (.inl (((v0,()),(v1,()),((i64.wrap (v2+1)),()),()),(),())) else none else some (.inr (.inl ((),(),())))
def ycg (x:(ydB).X):=ynz x.1.1.1 x.1.2.1.1 x.1.2.2.1.1
def yxp (x:(yiL).X):(ydB).X:=(((x.1.1.1,()),(x.1.2.1.1,()),(0,()),()),(),())
def yzM:Code:=(zeJ ynM 64 52).getD .skip
theorem yK5:zeJ ynM 64 13=some (.block 0 (.loop yzM)):=by kernel_rfl
theorem yMS (x:(ydB).X):zhu ⟨yvw,15,yBd⟩ 0 yzM 52 ydB yiJ yiT x=ycg x:=by kernel_rfl
def yxE (x:(yiL).X):Nat:=18446744073709551616
def yoH (x:(yiL).X):Option ((yiJ).X ⊕ (yiT).X):=zF ycg (yxE x) (yxp x)
def yx4:Seg:=⟨yiL,yiJ,yiT,yoH⟩
def yNm:Nat→Option Seg:=fun q=>bif Nat.beq q 13 then some yx4 else yBd q
theorem yLv:FrOk prog ⟨yvw,15,yNm⟩ ynM:=(yLu).loop (sg:=yx4) ydB yxp (by decide) yK5 ycg yxE (by decide) (fun _=>rfl) (fun x r _ h=>h) yMS
abbrev ynY:List Par:= [.rd tL]
abbrev yvZ:List OT:= [⟨false,tB,.fz⟩]
def yrl (a0:List Int):Option (zaY yvZ×zak ynY) :=zkr (yoH (((a0,()),((a0.length:Int),()),((),()),()),(),())) (fun y2 =>some ((true,()),())) (fun y2 =>some ((y2.1.1.1,()),()))
theorem yPI:ConOk prog 187 ⟨ynY,yvZ,fun x=>yrl x.1⟩:=zkG (yLv) func187 ntmps187.symm fun x=>by kernel_rfl
def yaz (a0:List Int):Bool:=a0.all yaE
theorem ySL (a0:List Int) (hk:zjw ynY (a0,())):yrl a0=(fun n=>some ((n,()),())) (yaz a0):=by
 have hb:a0.length*8≤2^47:=hk.1.1
 have hl:yoH (((a0,()),((a0.length:Int),()),((),()),()),(),())=some (bif a0.all yaE then .inl ((),(),())else .inr (((false,()),()),(),())) :=
  zj7 (step:=ycg) a0 0 (fun i=>(((a0,()),((a0.length:Int),()),((i:Int),()),()),(),())) yaE _ _ (fun i hi=>by
   simp only[ycg,ynz,zkP hi,zkQ,zkw (show(i:Int)<a0.length by omega),cond_true,wq ((i:Int)+1) (by omega) (by omega),Int.natCast_add,Int.natCast_one]
   cases yaE (a0.getD i 0)<;>rfl) (by simp only[ycg,ynz,zk1 (Int.le_refl _),cond_false]) _ (by show _<18446744073709551616; omega)
 unfold yrl yaz;rw[hl];cases a0.all yaE<;>rfl
def ykp:Con:=⟨ynY,yvZ,fun x=>(fun n=>some ((n,()),())) (yaz x.1)⟩
theorem yt8:ConOk prog 187 ykp:=(yPI).mono (fun x r hk h=>(ySL x.1 hk).trans h)
def yXv:Code:=(f129.body).getD .skip
def yX1:Env:=zku TT [(187,ykp)] []
theorem yNX:FrOk prog ⟨yX1,15,fun _=>none⟩ yXv:=zky yg yh ⟨yt8,trivial⟩
abbrev yyn:List Par:= [.rd tG,.rd tL]
abbrev yyM:List OT:= [⟨false,tB,.fz⟩]
def yEZ (a0:dG) (a1:List Int):Option (zaY yyM×zak yyn) :=bif((a1.length:Int)==(i64.wrap (a0.1-1)))then let r1:=yaz a1;some ((r1,()),()) else some ((false,()),())
theorem yS7:ConOk prog 129 ⟨yyn,yyM,fun x=>yEZ x.1 x.2.1⟩:=zkG (yNX) func129 ntmps129.symm fun x=>by kernel_rfl
def yk4 (a0:dG) (a1:List Int):Bool :=bif((a1.length:Int)==(i64.wrap (a0.1-1)))then let r1:=yaz a1;r1 else false
def yEk:Con:=⟨yyn,yyM,fun x=>(fun n=>some ((n,()),())) (yk4 x.1 x.2.1)⟩
theorem yVs (a0:dG) (a1:List Int):yEZ a0 a1=(fun n=>some ((n,()),())) (yk4 a0 a1):=zkT (p:=fun(n:Bool)=>((n,()),())) (zkE (p:=fun(n:Bool)=>((n,()),())) rfl rfl)
theorem yWl:ConOk prog 129 yEk:=(yS7).mono (fun x r _ h=>(yVs x.1 x.2.1).trans h)
def yZg:Code:=(f150.body).getD .skip
def yZs:Env:=zku TT [(82,yL)] []
theorem yRV:FrOk prog ⟨yZs,11,fun _=>none⟩ yZg:=zky yg yh ⟨yS,trivial⟩
abbrev yBy:List Par:= [.rd tG]
abbrev yBO:List OT:= [⟨false,tB,.fz⟩]
def yGF (a0:dG):Option (zaY yBO×zak yBy) :=let r1:=yb a0.1 3 5;bif r1 then let r2:=yb a0.2 1 8;some ((r2,()),()) else some ((false,()),())
theorem yV3:ConOk prog 150 ⟨yBy,yBO,fun x=>yGF x.1⟩:=zkG (yRV) func150 ntmps150.symm fun x=>by kernel_rfl
def ye (a0:dG):Bool :=let r1:=yb a0.1 3 5;bif r1 then let r2:=yb a0.2 1 8;r2 else false
def yf7:Con:=⟨yBy,yBO,fun x=>(fun n=>some ((n,()),())) (ye x.1)⟩
theorem yYA (a0:dG):yGF a0=(fun n=>some ((n,()),())) (ye a0):=zkT (p:=fun(n:Bool)=>((n,()),())) (zkE (p:=fun(n:Bool)=>((n,()),())) rfl rfl)
theorem ylc:ConOk prog 150 yf7:=(yV3).mono (fun x r _ h=>(yYA x.1).trans h)
theorem yn {a:Int×Int}:ye a=true↔(3≤a.1∧a.1≤5)∧1≤a.2∧a.2≤8:=by
 unfold ye;cases h:yb a.1 3 5
 ·have: ¬(3≤a.1∧a.1≤5):=fun e=>by rw[ytR.2 e]at h; simp at h
  simp[this]
 ·simp only[cond_true,ytR]
  exact⟨fun e=>⟨ytR.1 h,e⟩,fun e=>e.2⟩
def ygN (a:dA) (i:Nat):Bool:= !(yu (nth a.2.2.1 i yc))||((((nth a.2.2.1 i yc).1.length:Int) !=6+a.2.1.2)||((nth a.2.2.1 i yc).2.2.1&&(((i:Int) !=a.2.2.2.1)&& !a.2.2.2.2.2.2.2.2.2.2.2)))
def ykX (a:dA):Bool:= !((List.range a.2.2.1.length).any (ygN a))&&(a.2.2.1.length:Int)==a.2.1.1
def yhd (g:dG) (l:List dW) (i:Nat):Bool:= !(leb 0 (nth l i (0,[])).1&&leb (nth l i (0,[])).1 (g.2-1))||(((nth l i (0,[])).2.length:Int) !=g.1-1||(!((nth l i (0,[])).2.all isW)||(decide (0<i)&&leb (nth l i (0,[])).1 (nth l ((i-1:Nat):Int) (0,[])).1)))
def yaO (g:dG) (l:List dW):Bool:= !((List.range l.length).any (yhd g l))
def yal (a:dA):Bool :=ye a.2.1&&((leb 1 a.1&&leb a.1 60000)&&(ykX a&&(yaO a.2.1 a.2.2.2.2.2.2.2.2.1&&((leb (-1) a.2.2.2.1&&leb a.2.2.2.1 (a.2.1.1-1))&&((leb 0 a.2.2.2.2.1&&leb a.2.2.2.2.1 a.2.1.2)&&(!(a.2.2.2.1== -1&&a.2.2.2.2.1 !=0) && ((leb 0 a.2.2.2.2.2.2.1&&leb a.2.2.2.2.2.2.1 60000)&&((leb a.2.2.2.2.2.2.1 a.2.2.2.2.2.1&&leb a.2.2.2.2.2.1 60000)&&(leb a.2.2.2.2.2.1 (a.2.2.2.2.2.2.1+4)&&((leb 0 a.2.2.2.2.2.2.2.1&&leb a.2.2.2.2.2.2.2.1 60000)&&(leb (-1) a.2.2.2.2.2.2.2.2.2.1&&leb a.2.2.2.2.2.2.2.2.2.1 1000)))))))))))
theorem yrK {a:dA} (h:yal a=true):ye a.2.1=true:=(Bool.and_eq_true_iff.1 h).1
theorem y05 {a:dA} (h:yal a=true):ykX a=true:=by simp only[yal,Bool.and_eq_true]at h; exact h.2.2.1
theorem yIG {a:dA} (h:yal a=true):(a.2.2.1.length:Int)=a.2.1.1:=by have:=y05 h; simp only[ykX,Bool.and_eq_true,beq_iff_eq]at this; exact this.2
theorem y1U {a:dA} (h:ykX a=true) {i:Nat} (hi:i<a.2.2.1.length):yu (nth a.2.2.1 i yc)=true∧((nth a.2.2.1 i yc).1.length:Int)=6+a.2.1.2∧((nth a.2.2.1 i yc).2.2.1=true→(i:Int)=a.2.2.2.1∨a.2.2.2.2.2.2.2.2.2.2.2=true):=by
 simp only[ykX,Bool.and_eq_true,Bool.not_eq_true',List.any_eq_false,List.mem_range]at h;have:=h.1 i hi;simp only[ygN,Bool.not_eq_true,Bool.or_eq_false_iff,Bool.not_eq_false',bne_eq_false_iff_eq,Bool.and_eq_false_iff]at this;refine⟨this.1,this.2.1,fun hf=> ?_⟩;rcases this.2.2 with h1 | h1 | h1
 ·rw[hf]at h1; cases h1
 ·exact .inl h1
 ·exact .inr h1
theorem yJo (a:Int×Int):ydw a=ye a:=by kernel_rfl
theorem yU2: ∀{l:List Int} {lo n:Int},l.Pairwise (· < ·)→(∀x∈l,lo≤x∧x<n)→lo≤n→(l.length:Int)≤n-lo
 | [],lo,n,_,_,h=>by simp; omega
 | x::l,lo,n,hp,hx,h=>by
  cases hp with
  | cons h1 h2 =>
   have h3:=hx x List.mem_cons_self;have:=yU2 (l:=l) (lo:=x+1) (n:=n) h2 (fun y hy=>⟨h1 y hy,(hx y (List.mem_cons_of_mem _ hy)).2⟩) (by omega);rw[List.length_cons]; omega
theorem yrL {n:Nat} {l:List Int}:yob n l=true↔(∀x∈l,0≤x∧x<n)∧l.Pairwise (· < ·):=by
 simp only[yob,Bool.and_eq_true,List.all_eq_true,zj4,decide_eq_true_eq]
theorem yqW {m:dM} (h1:m.1.all yav=true) (h2:m.2.1.all (yrJ m.1.length)=true) (h3:yob m.1.length m.2.2.2=true) (h4:1≤m.1.length) (h5:m.1.length≤20) (h6:m.2.1.length≤60):yu m=true:=by
 simp only[yu,h1,h2,h3,Bool.true_and,Bool.and_eq_true,zj5];omega
theorem ySn {m:dM} (b:Nat→Bool) (h:yu m=true):(yf9 b m.2.1 m.1).all yav=true:=by
 obtain⟨h1,h2,_⟩:=ycr h;rw[List.all_eq_true];exact y0v (P:=fun x=>yav x=true) (fun x hx=>List.all_eq_true.1 h1 x hx) (fun w hw=>(Bool.and_eq_true_iff.1 (List.all_eq_true.1 h2 w hw)).2)
theorem y0h {m:dM} (n:Int) (s:List Int) (h:yu m=true):yu (yT m n s).1=true:=by
 unfold yT;cases hc:ybc m n s
 ·exact h
 ·simp only[ybc,Bool.and_eq_true,Bool.not_eq_true',zj8]at hc
  obtain⟨h1,h2,h3,h4,h5,h6⟩:=ycr h;refine yqW h1 ?_ ?_ h4 h5 (by show(m.2.1++ [(n,s)]).length≤60; rw[List.length_append]; simp only[List.length_cons,List.length_nil]; omega)
  ·show(m.2.1++ [(n,s)]).all (yrJ m.1.length)=true
   rw[List.all_append,h2];simp[yrJ,hc.2.2.1,hc.2.2.2.1]
  ·show yob m.1.length (yHk m.2.2.2 n)=true
   obtain⟨b1,b2⟩:=yrL.1 h3;exact yrL.2 ⟨fun x hx=>b1 x (List.mem_filter.1 hx).1,b2.filter _⟩
theorem yya (m:dM) (n:Int) (s:List Int):(yT m n s).1.1=m.1∧(yT m n s).1.2.2.1=m.2.2.1:=by
 unfold yT;cases ybc m n s<;>exact⟨rfl,rfl⟩
theorem y2w {m:dM} (h:yu m=true):yu (yz m)=true:=by
 unfold yz;cases hc:(yu m&& !m.2.2.1)
 ·exact h
 ·obtain⟨h1,h2,h3,h4,h5,h6⟩:=ycr h
  refine yqW (ySn _ h) rfl ?_ ?_ ?_ (Nat.zero_le _)
  ·show yob (yf9 _ m.2.1 m.1).length m.2.2.2=true; rw[ypN]; exact h3
  ·show 1≤(yf9 _ m.2.1 m.1).length; rw[ypN]; exact h4
  ·show(yf9 _ m.2.1 m.1).length≤20; rw[ypN]; exact h5
theorem yrS (m:dM):(yz m).1.length=m.1.length∧(yz m).2.2.1=m.2.2.1:=by
 unfold yz;cases(yu m&& !m.2.2.1)
 ·exact⟨rfl,rfl⟩
 ·exact⟨ypN,rfl⟩
theorem yU7 {m:dM} (h:yu m=true):yu (ye7 m)=true:=by
 obtain⟨h1,h2,h3,h4,h5,h6⟩:=ycr h;exact yqW h1 rfl h3 h4 h5 (Nat.zero_le _)
def y1O (g:dG):Bool:=decide ((-1000≤g.1∧g.1≤1000)∧ -1000≤g.2∧g.2≤1000)
theorem y1Q {g:dG} (h:(ye g||y1O g)=true):(-1000≤g.1∧g.1≤1000)∧ -1000≤g.2∧g.2≤1000:=by
 rcases Bool.or_eq_true_iff.1 h with h | h
 ·have:=yn.1 h; omega
 ·exact of_decide_eq_true h
def ymt (p:Nat→Bool) (n:Nat):Nat:=((List.range n).filter (fun i=> !p i)).length
theorem yAZ (p:Nat→Bool) (n:Nat):ymt p (n+1)=bif p n then ymt p n else ymt p n+1:=by
 unfold ymt;rw[List.range_succ,List.filter_append,List.length_append,List.filter_cons];cases p n<;>simp
theorem y0S {α:Type} (A:List α) (y:α) (t:List α) (d:α):(A++y::t).getD A.length d=y:=by
 rw[List.getD_eq_getElem?_getD,List.getElem?_append_right (Nat.le_refl _),Nat.sub_self]; rfl
theorem y0Y {α:Type} (A:List α) (y z:α) (t:List α):(A++y::t).set A.length z=A++z::t:=by
 rw[List.set_append_right _ _ (Nat.le_refl _),Nat.sub_self]; rfl
def ytS (l:List Int) (n:Int):List Int:=l.filter (fun x=>ltb x n)++n::l.filter (fun x=>ltb n x)
def spoil (m:dM) (n:Int):dM:=bif yu m&&(inb n m.1.length&& !(m.2.2.2.any (· ==n)))then(m.1,m.2.1,m.2.2.1,ytS m.2.2.2 n)else m
theorem yZ8 {l:List Int} {n:Int} (h:l.Pairwise (· < ·)) (hn:n∉l):l=l.filter (fun x=>ltb x n)++l.filter (fun x=>ltb n x):=by
 induction l with
 | nil=>rfl
 | cons x t ih =>
  obtain⟨hx,ht⟩:=List.pairwise_cons.1 h;simp only[List.mem_cons,not_or]at hn;rw[List.filter_cons,List.filter_cons];by_cases hlt:x<n
  ·rw[zkw hlt,zk1 (show x≤n by omega)]
   simp only[if_true,Bool.false_eq_true,if_false,List.cons_append];rw[← ih ht hn.2]
  ·have h3:t.filter (fun x=>ltb x n)= []:=List.filter_eq_nil_iff.2 (fun y hy=>by rw[zk1 (by have:=hx y hy; omega)]; simp)
   have h4:t.filter (fun x=>ltb n x)=t:=List.filter_eq_self.2 (fun y hy=>zkw (by have:=hx y hy; omega));rw[zk1 (show n≤x by omega),zkw (show n<x by omega),h3,h4]; rfl
theorem yQw {m:dM} (n:Int) (h:yu m=true):yu (spoil m n)=true:=by
 unfold spoil;cases hc:(yu m&&(inb n m.1.length&& !(m.2.2.2.any (· ==n))))
 ·exact h
 ·simp only[Bool.and_eq_true]at hc
  have hi:=zj4.1 hc.2.1;obtain⟨h1,h2,h3,h4,h5,h6⟩:=ycr h;rw[yrL]at h3;refine yqW h1 h2 ?_ h4 h5 h6;show yob m.1.length (ytS m.2.2.2 n)=true;rw[yrL];unfold ytS;refine⟨fun x hx=> ?_,?_⟩
  ·rcases List.mem_append.1 hx with g | g
   ·exact h3.1 x (List.mem_filter.1 g).1
   ·rcases List.mem_cons.1 g with rfl | g
    ·exact hi
    ·exact h3.1 x (List.mem_filter.1 g).1
  ·rw[List.pairwise_append,List.pairwise_cons]
   refine⟨h3.2.filter _,⟨fun y hy=>zj8.1 (List.mem_filter.1 hy).2,h3.2.filter _⟩,fun x hx y hy=> ?_⟩;have g1:=zj8.1 (List.mem_filter.1 hx).2;rcases List.mem_cons.1 hy with rfl | hy
   ·exact g1
   ·exact Int.lt_trans g1 (zj8.1 (List.mem_filter.1 hy).2)
theorem ynq (m:dM) (n:Int):(spoil m n).1=m.1∧(spoil m n).2.2.1=m.2.2.1:=by
 unfold spoil;cases(yu m&&(inb n m.1.length&& !(m.2.2.2.any (· ==n))))<;>exact⟨rfl,rfl⟩
def yac (g:dG) (s:Int):Bool:=ye g&&(leb 0 s&&leb s (g.2-1))
def yk (g:dG) (s:Int):Int:=bif yac g s then g.1-1-s.tmod g.1 else -1
def ybA (g:dG) (s i:Int):Int:=bif yac g s&&(leb 0 i&&leb i (g.1-2))then(yk g s+1+i).tmod g.1 else -1
theorem yY {g:dG} {s:Int}:yac g s=true↔ye g=true∧0≤s∧s≤g.2-1:=by simp[yac,zj5]
theorem yj3 {g:dG} {s:Int} (h:yac g s=true):0≤yk g s∧yk g s≤g.1-1:=by
 have h1:=yY.1 h;have h2:=yn.1 h1.1;unfold yk;rw[h,cond_true,Int.tmod_eq_emod_of_nonneg h1.2.1];have:=Int.emod_nonneg s (show g.1≠0 by omega);have:=Int.emod_lt_of_pos s (show 0<g.1 by omega);omega
theorem yU6 {g:dG} {s i:Int} (h:yac g s=true) (h1:0≤i) (h2:i≤g.1-2):0≤ybA g s i∧ybA g s i≤g.1-1:=by
 have h3:=yn.1 (yY.1 h).1;have h4:=yj3 h;unfold ybA;rw[h,zk0 h1,zk0 h2,Bool.and_self,Bool.and_self,cond_true,Int.tmod_eq_emod_of_nonneg (by omega)];have:=Int.emod_nonneg (yk g s+1+i) (show g.1≠0 by omega);have:=Int.emod_lt_of_pos (yk g s+1+i) (show 0<g.1 by omega);omega
def yG (p:Nat→Bool):Nat→Int
 | 0=> -1
 | n+1=>bif p n then yG p n else n
def yey (p:Nat→Bool) (n:Nat):Bool:=(List.range n).any (fun i=> !p i&&leb 0 (yG p i))
theorem yJv (p:Nat→Bool): ∀n,yG p n= -1∨(0≤yG p n∧yG p n<n∧p (yG p n).toNat=false)
 | 0=> .inl rfl
 | n+1=>by
  unfold yG;cases h:p n
  ·exact .inr ⟨by show(0:Int)≤n; omega,by show(n:Int)<_; omega,h⟩
  ·rcases yJv p n with h1 | h1
   ·exact .inl h1
   ·exact .inr ⟨h1.1,by show yG p n<_; omega,h1.2.2⟩
def yae (a:dA) (s:Int) (n:Nat):List Int:=(List.range n).map (fun(i:Nat)=>yiH a i s)
theorem ye1 (a:dA) (s:Int) (n:Nat):(yae a s n).length=n:=by unfold yae; rw[List.length_map,List.length_range]
theorem yHJ (a:dA) (s:Int) (n:Nat):yae a s n++ [yiH a n s]=yae a s (n+1):=by unfold yae; rw[List.range_succ,List.map_append]; rfl
theorem y0C (a:dA) (s:Int) {i n:Nat} (h:i<n):nth (yae a s n) i 0=yiH a i s:=by
 unfold yae;rw[zkQ,zkH (by rw[List.length_map,List.length_range]; exact h)]; simp
def yP (a:dA) (s:Int):List Int×Bool :=bif yey (fun(i:Nat)=>yA a i s) a.2.1.1.toNat then([],false) else bif leb 0 (yG (fun(i:Nat)=>yA a i s) a.2.1.1.toNat)then((yae a s a.2.1.1.toNat).set (yG (fun(i:Nat)=>yA a i s) a.2.1.1.toNat).toNat (yax (yae a s a.2.1.1.toNat)),true) else(yae a s a.2.1.1.toNat,true)
theorem yKs {a:dA} {s:Int} (h:(yP a s).2=true):(yP a s).1.length=a.2.1.1.toNat:=by
 unfold yP at h ⊢;cases h1:yey (fun(i:Nat)=>yA a i s) a.2.1.1.toNat
 ·cases leb 0 (yG (fun(i:Nat)=>yA a i s) a.2.1.1.toNat)
  ·exact ye1 _ _ _
  ·simp only[cond_false,cond_true,List.length_set]; exact ye1 _ _ _
 ·rw[h1]at h; cases h
theorem yXd (a:dA) (s:Int) (n:Nat) (h:leb 0 (yG (fun(i:Nat)=>yA a i s) n)=true):inb (yG (fun(i:Nat)=>yA a i s) n) (yae a s n).length=true∧ym1 (yae a s n) (yG (fun(i:Nat)=>yA a i s) n)=yax (yae a s n):=by
 rcases yJv (fun(i:Nat)=>yA a i s) n with h1 | h1
 ·rw[h1]at h; cases h
 ·have h2:inb (yG (fun(i:Nat)=>yA a i s) n) (yae a s n).length=true:=by rw[ye1,zj4]; exact⟨h1.1,h1.2.1⟩
  refine⟨h2,y1V h2 ?_⟩;have h3:=y0C a s (show(yG (fun(i:Nat)=>yA a i s) n).toNat<n by omega);rw[show(((yG (fun(i:Nat)=>yA a i s) n).toNat:Nat):Int)=yG (fun(i:Nat)=>yA a i s) n by omega]at h3;rw[h3];unfold yiH
  have h4:yA a (yG (fun(i:Nat)=>yA a i s) n) s=false:=by
   have:=h1.2.2;have this:yA a ((yG (fun(i:Nat)=>yA a i s) n).toNat:Nat) s=false:=h1.2.2;rwa[show(((yG (fun(i:Nat)=>yA a i s) n).toNat:Nat):Int)=yG (fun(i:Nat)=>yA a i s) n by omega]at this
  rw[h4]; rfl
def yqo (a:dA) (s:Int):List Int×Bool:=bif(yP a s).2 then((List.range (a.2.1.1-1).toNat).map (fun(i:Nat)=>nth (yP a s).1 (ybA a.2.1 s i) 0),true)else([],false)
def ydv (a:dA) (s:Int):List Int×Bool:=bif yal a&&(!a.2.2.2.2.2.2.2.2.2.2.2&&yac a.2.1 s)then yqo a s else([],false)
theorem y1H (a:dA) (s:Int):(yqo a s).1.length≤(a.2.1.1-1).toNat:=by
 unfold yqo;cases(yP a s).2
 ·exact Nat.zero_le _
 ·simp
def yoe (a:dA):List Int:=bif yal a&&(List.range a.2.1.2.toNat).all (fun(s:Nat)=>(ydv a s).2)then(List.range a.2.1.2.toNat).flatMap (fun(s:Nat)=>(ydv a s).1)else[]
theorem yFt (g:dG) (s:Int):yaV g s=yac g s:=by
 unfold yaV yac;rw[yJo];cases hg:ye g
 ·rfl
 have:=yn.1 hg;rw[yau,ycx,wr (by omega) (by omega)]; rfl
theorem y08 {a:dA} (s:Int) (hg:ye a.2.1=true):(ydv a s).1.length≤4:=by
 have:=yn.1 hg;unfold ydv;cases(yal a&&(!a.2.2.2.2.2.2.2.2.2.2.2&&yac a.2.1 s))
 ·exact Nat.zero_le _
 ·have:=y1H a s
  show(yqo a s).1.length≤4;omega
theorem ySo (p:Nat→Bool): ∀n,leb 0 (yG p n)=decide (1≤ymt p n)∧yey p n=decide (2≤ymt p n)
 | 0=>⟨rfl,rfl⟩
 | n+1=>by
  obtain⟨h1,h2⟩:=ySo p n
  have e:yey p (n+1)=(yey p n||(!p n&&leb 0 (yG p n))):=by
   unfold yey;rw[List.range_succ,List.any_append]; simp
  have e2:yG p (n+1)=bif p n then yG p n else n:=rfl;rw[e,e2,yAZ,h2,h1];cases hp:p n
  ·simp only[cond_false,Bool.not_false,Bool.true_and]
   refine⟨by rw[zk0 (show(0:Int)≤n by omega)]; simp,?_⟩;rw[Bool.eq_iff_iff,Bool.or_eq_true,decide_eq_true_eq,decide_eq_true_eq,decide_eq_true_eq]; omega
  ·simp[h1]
def yb1 (m:dM) (n:Int):List Int:=ygU n m.2.1 (nth m.1 n [])
def yaT (m:dM) (n:Int):Bool:=m.2.2.2.any (· ==n)
def ymQ (m:dM) (n:Int) (v:List Int):Prop:=v=nth m.1 n []∨ ∃w∈m.2.1,w.1=n∧w.2=v
theorem ySz (n:Int): ∀(c:List dW) (s:List Int),ygU n c s=s∨ ∃w∈c,w.1=n∧w.2=ygU n c s
 | [],s=> .inl rfl
 | w::c,s=>by
  show ygU n c (bif w.1==n then w.2 else s)=s∨ ∃x∈w::c,x.1=n∧x.2=ygU n c (bif w.1==n then w.2 else s);rcases ySz n c (bif w.1==n then w.2 else s)with h | ⟨x,hx,h1,h2⟩
  ·rw[h]
   cases hw:(w.1==n)
   ·exact .inl rfl
   ·exact .inr ⟨w,List.mem_cons_self,beq_iff_eq.1 hw,rfl⟩
  ·exact .inr ⟨x,List.mem_cons_of_mem _ hx,h1,h2⟩
theorem ywf (m:dM) (n:Int):ymQ m n (yb1 m n):=ySz n m.2.1 _
theorem yM8 (n:Int) (c:List dW) (w:dW) (s:List Int):ygU n (c++ [w]) s=bif w.1==n then w.2 else ygU n c s:=by
 unfold ygU; rw[List.foldl_append]; rfl
theorem yQv {m:dM} {n:Int} (h:yu m=true) (h1:m.2.2.1=false) (h2:inb n m.1.length=true):yN m n=bif yaT m n then([],false)else(yb1 m n,true):=by
 unfold yN yrO;rw[h,h1,h2];show(bif !(yaT m n)then(yb1 m n,true)else([],false))=_;cases yaT m n<;>rfl
theorem ypF {m:dM} {n:Int} {s:List Int} (h:yu m=true) (h1:m.2.2.1=false) (h2:inb n m.1.length=true) (h3:yav s=true) (h4:m.2.1.length<60):ybc m n s=true:=by
 unfold ybc;rw[h,h1,h2,h3,zkw (by omega)]; rfl
theorem yHt {m:dM} {n:Int} {s:List Int} (h:ybc m n s=true):(yT m n s).1=(m.1,m.2.1++ [(n,s)],m.2.2.1,yHk m.2.2.2 n):=by unfold yT; rw[h]; rfl
theorem ymW {m:dM} {n:Int} {s:List Int} (h:ybc m n s=true) (k:Int):yb1 (yT m n s).1 k=bif n==k then s else yb1 m k:=by
 rw[yHt h]; exact yM8 _ _ _ _
theorem y2m (l:List Int) (n k:Int):(yHk l n).any (· ==k)=(l.any (· ==k)&&k !=n):=by
 rw[Bool.eq_iff_iff];simp only[yHk,List.any_eq_true,List.mem_filter,Bool.and_eq_true,beq_iff_eq,bne_iff_ne];constructor
 ·rintro⟨x,⟨h1,h2⟩,rfl⟩; exact⟨⟨x,h1,rfl⟩,h2⟩
 ·rintro⟨⟨x,h1,rfl⟩,h2⟩; exact⟨x,⟨h1,h2⟩,rfl⟩
theorem yw0 {m:dM} {n:Int} {s:List Int} (h:ybc m n s=true) (k:Int):yaT (yT m n s).1 k=(yaT m k&&k !=n):=by
 rw[yHt h]; exact y2m _ _ _
theorem y1q {m:dM} {n:Int} {s:List Int} {k:Int} {v:List Int} (h:ymQ (yT m n s).1 k v):ymQ m k v∨(k=n∧v=s):=by
 cases hc:ybc m n s
 ·unfold yT at h; rw[hc]at h; exact .inl h
 ·rw[yHt hc]at h
  rcases h with h | ⟨w,hw,h1,h2⟩
  ·exact .inl (.inl h)
  ·rcases List.mem_append.1 hw with hw | hw
   ·exact .inl (.inr ⟨w,hw,h1,h2⟩)
   ·rw[List.mem_singleton.1 hw]at h1 h2; exact .inr ⟨h1.symm,h2.symm⟩
theorem yDa {α:Type} {l:List α} {i k:Int} {x d:α} (hi:inb i l.length=true) (hk:0≤k):nth (l.set i.toNat x) k d=bif i==k then x else nth l k d:=by
 have h1:=zj4.1 hi;unfold nth;rw[List.getD_eq_getElem?_getD,List.getD_eq_getElem?_getD,List.getElem?_set];by_cases h:i=k
 ·subst h; simp[show i.toNat<l.length by omega]
 ·rw[if_neg (by omega),show(i==k)=false from beq_eq_false_iff_ne.2 h]; rfl
theorem y0N (b:Nat→Bool) {c:List dW} {l:List (List Int)} {k:Int} (hk:0≤k) (hc: ∀w∈c,inb w.1 l.length=true) :
  ∀n,n≤c.length→((List.range n).foldl (yeT b c) l).length=l.length∧(nth ((List.range n).foldl (yeT b c) l) k []=nth l k []∨ ∃w∈c,w.1=k∧w.2=nth ((List.range n).foldl (yeT b c) l) k []) ∧
   ((∀i,b i=true)→nth ((List.range n).foldl (yeT b c) l) k []=ygU k (c.take n) (nth l k [])):=by
 intro n
 induction n with
 | zero=>intro _; exact⟨rfl,.inl rfl,fun _=>rfl⟩
 | succ n ih =>
  intro hn;obtain⟨h1,h2,h3⟩:=ih (by omega);rw[List.range_succ,List.foldl_append,List.foldl_cons,List.foldl_nil];have hnc:n<c.length:=by omega
  generalize (List.range n).foldl (yeT b c) l=L at h1 h2 h3 ⊢;refine⟨ytT.trans h1,?_⟩;unfold yeT;rw[zkQ,zkH hnc];have hw:inb c[n].1 L.length=true:=by rw[h1]; exact hc _ (List.getElem_mem hnc)
  cases hb:b n
  ·refine⟨h2,fun h=> ?_⟩
   rw[h n]at hb; cases hb
  ·simp only[cond_true,yDa hw hk]
   constructor
   ·cases he:(c[n].1==k)
    ·exact h2
    ·exact .inr ⟨c[n],List.getElem_mem hnc,beq_iff_eq.1 he,rfl⟩
   ·intro h
    rw[h3 h,List.take_add_one,List.getElem?_eq_getElem hnc];exact(yM8 k _ _ _).symm
theorem yZS {m:dM} (h:yu m=true): ∀w∈m.2.1,inb w.1 m.1.length=true:=fun w hw=>by
 have:=List.all_eq_true.1 (ycr h).2.1 w hw;simp only[yrJ,Bool.and_eq_true]at this; exact this.1
theorem y1N {m:dM} {k:Int} (h:yu m=true) (h1:m.2.2.1=false) (hk:0≤k):nth (yz m).1 k []=yb1 m k:=by
 have:=(y0N (fun _=>true) hk (yZS h) m.2.1.length (Nat.le_refl _)).2.2 (fun _=>rfl);rw[List.take_length]at this;unfold yz;rw[h,h1]; exact this
theorem yAT {m:dM} (h:yu m=true) (h1:m.2.2.1=false):(yz m).2.1= []∧(yz m).2.2=m.2.2:=by
 unfold yz;rw[h,h1];refine⟨rfl,?_⟩;show(false,m.2.2.2)=m.2.2;rw[← h1]
theorem ytJ {m:dM} {k:Int} {v:List Int} (h:yu m=true) (h1:m.2.2.1=false) (hk:0≤k) (hv:ymQ (yz m) k v):v=yb1 m k:=by
 rcases hv with hv | ⟨w,hw,_⟩
 ·rw[hv,y1N h h1 hk]
 ·rw[(yAT h h1).1]at hw; cases hw
theorem y1M {m:dM} {k:Int} (h:yu m=true) (h1:m.2.2.1=false) (hk:0≤k):yb1 (yz m) k=yb1 m k:=ytJ h h1 hk (ywf _ _)
theorem yIM (m:dM) (k:Int):yaT (yz m) k=yaT m k:=by
 unfold yz;cases(yu m&& !m.2.2.1)<;>rfl
theorem y2v {m:dM} (h:yu m=true) (ks:Int) {k:Int} (hk:0≤k):ymQ m k (nth (ydE m ks).1 k []):=by
 have:=(y0N (fun i=>decide (i<20)&&yKu (ySl ks) i) hk (yZS h) m.2.1.length (Nat.le_refl _)).2.1;unfold ydE;rw[h];rcases this with h1 | ⟨w,hw,h1,h2⟩
 ·exact .inl h1
 ·exact .inr ⟨w,hw,h1,h2⟩
theorem yW2 {m:dM} (h:yu m=true) (ks:Int):(ydE m ks).2.1= []∧(ydE m ks).2.2=m.2.2∧(ydE m ks).1.length=m.1.length:=by
 unfold ydE;rw[h];exact⟨rfl,rfl,ypN⟩
theorem y3d {m:dM} (h:yu m=true) (ks:Int):yu (ydE m ks)=true:=by
 obtain⟨h1,h2,h3,h4,h5,h6⟩:=ycr h;obtain⟨e1,e2,e3⟩:=yW2 h ks;refine yqW ?_ (by rw[e1]; rfl) (by rw[e2,e3]; exact h3) (by omega) (by omega) (by rw[e1]; exact Nat.zero_le _);have:=ySn (fun i=>decide (i<20)&&yKu (ySl ks) i) h;unfold ydE;rw[h]; exact this
theorem y3x {x:Int} (h:isW x=true):(bv x).toNat<2^16:=by
 have:=yrV.1 h;unfold bv;rw[BitVec.toNat_ofInt];omega
theorem y3B {v:BitVec 64} (h:v.toNat<2^16):isW v.toInt=true:=by
 rw[BitVec.toInt_eq_toNat_of_lt (by omega)];exact yrV.2 (by omega)
theorem y3v: ∀(l:List Int),l.all isW=true→(ye2 l).toNat<2^16:=by
 intro l h
 have: ∀(l:List Int) (v:BitVec 64),v.toNat<2^16→l.all isW=true→(l.foldl (fun v x=>v ^^^ bv x) v).toNat<2^16:=by
  intro l
  induction l with
  | nil=>intro v hv _; exact hv
  | cons x t ih =>
   intro v hv h;simp only[List.all_cons,Bool.and_eq_true]at h;refine ih _ ?_ h.2;rw[BitVec.toNat_xor];exact Nat.xor_lt_two_pow hv (y3x h.1)
 exact this l 0#64 (by decide) h
theorem yXm {l:List Int} (h:l.all isW=true):isW (yax l)=true:=by
 rw[ynF]; exact y3B (y3v l h)
theorem yFS {l:List Int}:l.all isW=true↔ ∀x∈l,isW x=true:=by simp
theorem yVS {l:List Int} {i:Int} (h:l.all isW=true):isW (nth l i 0)=true:=by
 unfold nth;rw[List.getD_eq_getElem?_getD];cases e:l[i.toNat]? with
 | none=>rfl
 | some x=>exact yFS.1 h x (List.mem_of_getElem? e)
theorem yWK {l:List Int} {i:Nat} {x:Int} (h:l.all isW=true) (hx:isW x=true):(l.set i x).all isW=true:=by
 rw[yFS]at h ⊢;intro y hy;rcases List.mem_or_eq_of_mem_set hy with h1 | rfl
 ·exact h y h1
 ·exact hx
theorem y1r {m:dM} {n:Int} (h:(yN m n).2=true):yav (yN m n).1=true:=by
 unfold yN at h ⊢;cases hc:yrO m n
 ·rw[hc]at h; cases h
 ·simp only[yrO,Bool.and_eq_true]at hc
  obtain⟨h1,h2,h3,_,_,_⟩:=ycr hc.1;refine yHc (P:=fun s=>yav s=true) ?_ fun w hw=> ?_
  ·exact yGk (P:=fun s=>yav s=true) hc.2.2.1 (fun x hx=>List.all_eq_true.1 h1 x hx)
  ·have:=List.all_eq_true.1 h2 w hw
   simp only[yrJ,Bool.and_eq_true]at this;exact this.2
theorem y21 (a:dA) (m s:Int):isW (yiH a m s)=true:=by
 unfold yiH;cases h:yA a m s
 ·rfl
 ·simp only[yA,Bool.and_eq_true]at h
  have:=y1r (m:=nth a.2.2.1 m yc) (n:=yx s) h.2.1;simp only[yav,Bool.and_eq_true]at this;exact yVS this.2
theorem yDI (a:dA) (s:Int) (n:Nat):(yae a s n).all isW=true:=by
 rw[yFS];unfold yae;intro x hx;obtain⟨i,_,rfl⟩:=List.mem_map.1 hx;exact y21 a i s
theorem y2g (a:dA) (s:Int):(yP a s).1.all isW=true:=by
 unfold yP;cases yey (fun(i:Nat)=>yA a i s) a.2.1.1.toNat
 ·cases leb 0 (yG (fun(i:Nat)=>yA a i s) a.2.1.1.toNat)
  ·exact yDI _ _ _
  ·exact yWK (yDI _ _ _) (yXm (yDI _ _ _))
 ·rfl
theorem yWX (a:dA) (s:Int):(yqo a s).1.all isW=true:=by
 unfold yqo;cases(yP a s).2
 ·rfl
 ·rw[yFS]
  intro x hx;obtain⟨i,_,rfl⟩:=List.mem_map.1 hx;exact yVS (y2g a s)
def ynL:Code:=(f126.body).getD .skip
def yvv:Env:=zku TT [(109,yeS),(129,yEk)] []
theorem yLq:FrOk prog ⟨yvv,44,fun _=>none⟩ ynL:=zky yg yh ⟨yi2,yWl,trivial⟩
def yBc:Nat→Option Seg:=fun _=>none
def ybW:Shape:=⟨[(1,false,[.ptr 0 0]),(6,false,[.br tW]),(7,false,[.int .i64]),(8,false,[.int .i64])],[(0,[.int .i64,.int .i64,.int .i64,.br tM,.int .i64,.int .i64,.int .i64,.int .i64,.int .i64,.br tW,.int .i64,.bool,.bool])],[]⟩
def yfM:Shape:=⟨[(1,false,[.ptr 0 0]),(6,false,[.br tW]),(7,false,[.int .i64]),(8,false,[.ci .i64 0])],[(0,[.int .i64,.int .i64,.int .i64,.br tM,.int .i64,.int .i64,.int .i64,.int .i64,.int .i64,.br tW,.int .i64,.bool,.bool])],[]⟩
def yfA:Shape:=⟨[],[],[]⟩
def yfT:Shape:=⟨[(2,false,[.bool])],[],[]⟩
abbrev ym9 (v0:List dW) (v1 v2:Int) (v3:dA):(ybW).X:=((((),()),(v0,()),(v1,()),(v2,()),()),((v3.1,v3.2.1.1,v3.2.1.2,v3.2.2.1,v3.2.2.2.1,v3.2.2.2.2.1,v3.2.2.2.2.2.1,v3.2.2.2.2.2.2.1,v3.2.2.2.2.2.2.2.1,v3.2.2.2.2.2.2.2.2.1,v3.2.2.2.2.2.2.2.2.2.1,v3.2.2.2.2.2.2.2.2.2.2.1,v3.2.2.2.2.2.2.2.2.2.2.2,()),()),())
abbrev yJJ (v0:List dW) (v1:Int) (v2:dA):(yfM).X:=((((),()),(v0,()),(v1,()),((),()),()),((v2.1,v2.2.1.1,v2.2.1.2,v2.2.2.1,v2.2.2.2.1,v2.2.2.2.2.1,v2.2.2.2.2.2.1,v2.2.2.2.2.2.2.1,v2.2.2.2.2.2.2.2.1,v2.2.2.2.2.2.2.2.2.1,v2.2.2.2.2.2.2.2.2.2.1,v2.2.2.2.2.2.2.2.2.2.2.1,v2.2.2.2.2.2.2.2.2.2.2.2,()),()),())
abbrev yJy  :(yfA).X:=((),(),())
abbrev yJQ (v0:Bool):(yfT).X:=(((v0,()),()),(),())
def yny (v0:List dW) (v1 v2 v3 v4 v5:Int) (v6:List dM) (v7 v8 v9 v10 v11:Int) (v12:List dW) (v13:Int) (v14 v15:Bool):Option ((ybW).X ⊕ ((yfA).X ⊕ (yfT).X)) :=bif(ltb v2 v1)then bif(inb v2 v0.length)then let r4:=yaV (v4,v5) ((nth v0 v2 (0,[])).1);bif(!(!r4))then bif(ltb 0 v2)then bif(inb (i64.wrap (v2-1)) v12.length)then bif(!(leb ((nth v0 v2 (0,[])).1) ((nth v12 (i64.wrap (v2-1)) (0,[])).1)))then let r5:=yk4 (v4,v5) ((nth v0 v2 (0,[])).2);bif(!r5)then some (.inr (.inr (((false,()),()),(),()))) else some (.inl ((((),()),(v0,()),(v1,()),((i64.wrap (v2+1)),()),()),((v3,v4,v5,v6,v7,v8,v9,v10,v11,v12,v13,v14,v15,()),()),())) else some (.inr (.inr (((false,()),()),(),()))) else none else let r6:=yk4 (v4,v5) ((nth v0 v2 (0,[])).2);bif(!r6)then some (.inr (.inr (((false,()),()),(),()))) else some (.inl ((((),()),(v0,()),(v1,()),((i64.wrap (v2+1)),()),()),((v3,v4,v5,v6,v7,v8,v9,v10,v11,v12,v13,v14,v15,()),()),())) else some (.inr (.inr (((false,()),()),(),()))) else none else some (.inr (.inl ((),(),())))
def ycf (x:(ybW).X):=yny x.1.2.1.1 x.1.2.2.1.1 x.1.2.2.2.1.1 x.2.1.1.1 x.2.1.1.2.1 x.2.1.1.2.2.1 x.2.1.1.2.2.2.1 x.2.1.1.2.2.2.2.1 x.2.1.1.2.2.2.2.2.1 x.2.1.1.2.2.2.2.2.2.1 x.2.1.1.2.2.2.2.2.2.2.1 x.2.1.1.2.2.2.2.2.2.2.2.1 x.2.1.1.2.2.2.2.2.2.2.2.2.1 x.2.1.1.2.2.2.2.2.2.2.2.2.2.1 x.2.1.1.2.2.2.2.2.2.2.2.2.2.2.1 x.2.1.1.2.2.2.2.2.2.2.2.2.2.2.2.1
def yxo (x:(yfM).X):(ybW).X:=((((),()),(x.1.2.1.1,()),(x.1.2.2.1.1,()),(0,()),()),((x.2.1.1.1,x.2.1.1.2.1,x.2.1.1.2.2.1,x.2.1.1.2.2.2.1,x.2.1.1.2.2.2.2.1,x.2.1.1.2.2.2.2.2.1,x.2.1.1.2.2.2.2.2.2.1,x.2.1.1.2.2.2.2.2.2.2.1,x.2.1.1.2.2.2.2.2.2.2.2.1,x.2.1.1.2.2.2.2.2.2.2.2.2.1,x.2.1.1.2.2.2.2.2.2.2.2.2.2.1,x.2.1.1.2.2.2.2.2.2.2.2.2.2.2.1,x.2.1.1.2.2.2.2.2.2.2.2.2.2.2.2.1,()),()),())
def yzL:Code:=(zeJ ynL 64 52).getD .skip
theorem yK4:zeJ ynL 64 13=some (.block 0 (.loop yzL)):=by kernel_rfl
theorem yMR (x:(ybW).X):zhu ⟨yvv,44,yBc⟩ 0 yzL 52 ybW yfA yfT x=ycf x:=by kernel_rfl
def yxD (x:(yfM).X):Nat:=18446744073709551616
def yoG (x:(yfM).X):Option ((yfA).X ⊕ (yfT).X):=zF ycf (yxD x) (yxo x)
def yx3:Seg:=⟨yfM,yfA,yfT,yoG⟩
def yNl:Nat→Option Seg:=fun q=>bif Nat.beq q 13 then some yx3 else yBc q
theorem yLr:FrOk prog ⟨yvv,44,yNl⟩ ynL:=(yLq).loop (sg:=yx3) ybW yxo (by decide) yK4 ycf yxD (by decide) (fun _=>rfl) (fun x r _ h=>h) yMR
abbrev yi8:List Par:= [.rd tA]
abbrev yn3:List OT:= [⟨false,tB,.fz⟩]
def yrk (a0:dA):Option (zaY yn3×zak yi8) :=zkr (yoG ((((),()),(a0.2.2.2.2.2.2.2.2.1,()),((a0.2.2.2.2.2.2.2.2.1.length:Int),()),((),()),()),((a0.1,a0.2.1.1,a0.2.1.2,a0.2.2.1,a0.2.2.2.1,a0.2.2.2.2.1,a0.2.2.2.2.2.1,a0.2.2.2.2.2.2.1,a0.2.2.2.2.2.2.2.1,a0.2.2.2.2.2.2.2.2.1,a0.2.2.2.2.2.2.2.2.2.1,a0.2.2.2.2.2.2.2.2.2.2.1,a0.2.2.2.2.2.2.2.2.2.2.2,()),()),())) (fun y6 =>some ((true,()),())) (fun y6 =>some ((y6.1.1.1,()),()))
theorem yPF:ConOk prog 126 ⟨yi8,yn3,fun x=>yrk x.1⟩:=zkG (yLr) func126 ntmps126.symm fun x=>by kernel_rfl
def yjD (a0:dA):Bool:=yaO a0.2.1 a0.2.2.2.2.2.2.2.2.1
def ywp (a0:dA):Bool:=ye a0.2.1
theorem yEI (l:List Int):yaz l=l.all isW:=by
 unfold yaz;rw[show yaE=isW from funext fun x=>by unfold yaE; rw[yau,ycx]; rfl]
theorem ySI (a0:dA) (hk:zjw yi8 (a0,())) (hq:ywp a0=true):yrk a0=(fun n=>some ((n,()),())) (yjD a0):=by
 have hb:a0.2.2.2.2.2.2.2.2.1.length*32≤2^47:=hk.1.2.2.2.2.2.2.2.2.1.1;have hg:=yn.1 hq;have hq':ye a0.2.1=true:=hq
 have h1:yoG (yJJ a0.2.2.2.2.2.2.2.2.1 a0.2.2.2.2.2.2.2.2.1.length a0)=some (bif(List.range a0.2.2.2.2.2.2.2.2.1.length).any (yhd a0.2.1 a0.2.2.2.2.2.2.2.2.1)then .inr (yJQ false)else .inl yJy) :=
  zjh (step:=ycf) (fun i=>ym9 a0.2.2.2.2.2.2.2.2.1 a0.2.2.2.2.2.2.2.2.1.length i a0) a0.2.2.2.2.2.2.2.2.1.length (yhd a0.2.1 a0.2.2.2.2.2.2.2.2.1) _ _ (fun i hi=>by
   simp only[ycf,ym9,yny,zkw (show(i:Int)<a0.2.2.2.2.2.2.2.2.1.length by omega),cond_true,wq ((i:Int)+1) (by omega) (by omega),Int.natCast_add,Int.natCast_one,Int.toNat_natCast,zkP hi,zkV,yaV,yk4,yJo,hq',yau,ycx,yEI,wq (a0.2.1.2-1) (by omega) (by omega),wq (a0.2.1.1-1) (by omega) (by omega),yhd,bne];rcases Nat.eq_zero_or_pos i with rfl | h0
   ·cases(leb 0 (nth a0.2.2.2.2.2.2.2.2.1 ((0:Nat):Int) (0,[])).1&&leb (nth a0.2.2.2.2.2.2.2.2.1 ((0:Nat):Int) (0,[])).1 (a0.2.1.2-1))<;>cases(((nth a0.2.2.2.2.2.2.2.2.1 ((0:Nat):Int) (0,[])).2.length:Int)==a0.2.1.1-1)<;>cases((nth a0.2.2.2.2.2.2.2.2.1 ((0:Nat):Int) (0,[])).2.all isW)<;>rfl
   ·rw[show i64.wrap ((i:Int)-1)=((i-1:Nat):Int)by rw[wr (by omega) (by omega)]; omega,zkP (show i-1<a0.2.2.2.2.2.2.2.2.1.length by omega),zkw (show(0:Int)<i by omega),decide_eq_true h0]
    cases(leb 0 (nth a0.2.2.2.2.2.2.2.2.1 (i:Int) (0,[])).1&&leb (nth a0.2.2.2.2.2.2.2.2.1 (i:Int) (0,[])).1 (a0.2.1.2-1))<;>cases(((nth a0.2.2.2.2.2.2.2.2.1 (i:Int) (0,[])).2.length:Int)==a0.2.1.1-1)<;>cases((nth a0.2.2.2.2.2.2.2.2.1 (i:Int) (0,[])).2.all isW)<;>cases leb (nth a0.2.2.2.2.2.2.2.2.1 (i:Int) (0,[])).1 (nth a0.2.2.2.2.2.2.2.2.1 ((i-1:Nat):Int) (0,[])).1<;>rfl) (by simp only[ycf,ym9,yny,zk1 (Int.le_refl _),cond_false]) _ (by show _<18446744073709551616; omega)
 unfold yrk yjD yaO;rw[h1];cases(List.range a0.2.2.2.2.2.2.2.2.1.length).any (yhd a0.2.1 a0.2.2.2.2.2.2.2.2.1)<;>rfl
def yoq (a0:dA):Option (zaY yn3×zak yi8):=bif ywp a0 then(fun n=>some ((n,()),())) (yjD a0)else none
theorem yTU (a0:dA) (h:ywp a0=true):yoq a0=(fun n=>some ((n,()),())) (yjD a0):=by unfold yoq; rw[h]; rfl
def yCj:Con:=⟨yi8,yn3,fun x=>yoq x.1⟩
theorem yTG:ConOk prog 126 yCj:=(yPF).mono (fun x r hk h=>zkW h (fun hq=>ySI x.1 hk hq))
def yXw:Code:=(f156.body).getD .skip
def yX2:Env:=zku TT [(81,yO)] []
theorem yNY:FrOk prog ⟨yX2,11,fun _=>none⟩ yXw:=zky yg yh ⟨yaa,trivial⟩
abbrev yyo:List Par:= [.rd tM,.rd tI]
abbrev yyN:List OT:= [⟨false,tB,.fz⟩]
def yE0 (a0:dM) (a1:Int):Option (zaY yyN×zak yyo) :=let r1:=yj a1 0 (i64.wrap ((a0.1.length:Int)-1));some ((r1,()),())
theorem yS8:ConOk prog 156 ⟨yyo,yyN,fun x=>yE0 x.1 x.2.1⟩:=zkG (yNY) func156 ntmps156.symm fun x=>by kernel_rfl
def ybC (a0:dM) (a1:Int):Bool :=let r1:=yj a1 0 (i64.wrap ((a0.1.length:Int)-1));r1
def ymn:Con:=⟨yyo,yyN,fun x=>(fun n=>some ((n,()),())) (ybC x.1 x.2.1)⟩
theorem yVt (a0:dM) (a1:Int):yE0 a0 a1=(fun n=>some ((n,()),())) (ybC a0 a1):=zkT (p:=fun(n:Bool)=>((n,()),())) rfl
theorem ywk:ConOk prog 156 ymn:=(yS8).mono (fun x r _ h=>(yVt x.1 x.2.1).trans h)
def yZe:Code:=(f186.body).getD .skip
def yZq:Env:=zku TT [(187,ykp)] []
theorem yRN:FrOk prog ⟨yZq,10,fun _=>none⟩ yZe:=zky yg yh ⟨yt8,trivial⟩
abbrev yBx:List Par:= [.rd tL]
abbrev yBJ:List OT:= [⟨false,tB,.fz⟩]
def yGE (a0:List Int):Option (zaY yBJ×zak yBx) :=bif(leb (a0.length:Int) 12)then let r1:=yaz a0;some ((r1,()),()) else some ((false,()),())
theorem yVY:ConOk prog 186 ⟨yBx,yBJ,fun x=>yGE x.1⟩:=zkG (yRN) func186 ntmps186.symm fun x=>by kernel_rfl
def ygP (a0:List Int):Bool :=bif(leb (a0.length:Int) 12)then let r1:=yaz a0;r1 else false
def ywb:Con:=⟨yBx,yBJ,fun x=>(fun n=>some ((n,()),())) (ygP x.1)⟩
theorem yYv (a0:List Int):yGE a0=(fun n=>some ((n,()),())) (ygP a0):=zkT (p:=fun(n:Bool)=>((n,()),())) (zkE (p:=fun(n:Bool)=>((n,()),())) rfl rfl)
theorem yHC:ConOk prog 186 ywb:=(yVY).mono (fun x r _ h=>(yYv x.1).trans h)
theorem yFs:ygP=yav:=funext fun s=>by
 unfold ygP yav yaz;rw[show yaE=isW from funext fun x=>by unfold yaE; rw[yau,ycx]; rfl];cases leb (s.length:Int) 12<;>rfl
def ycm:Code:=(f127.body).getD .skip
def ygg:Env:=zku TT [(81,yO),(156,ymn),(186,ywb)] []
theorem yRI:FrOk prog ⟨ygg,76,fun _=>none⟩ ycm:=zky yg yh ⟨yaa,ywk,yHC,trivial⟩
def yFE:Nat→Option Seg:=fun _=>none
def ydb:Shape:=⟨[(1,false,[.ptr 0 0]),(10,false,[.br tL]),(11,false,[.int .i64]),(12,false,[.int .i64])],[(0,[.br tL,.br tW,.bool,.br tI])],[]⟩
def yhL:Shape:=⟨[(1,false,[.ptr 0 0]),(10,false,[.br tL]),(11,false,[.int .i64]),(12,false,[.ci .i64 0])],[(0,[.br tL,.br tW,.bool,.br tI])],[]⟩
def yhw:Shape:=⟨[(1,false,[.ptr 0 0])],[(0,[.br tL,.br tW,.bool,.br tI])],[]⟩
def yh3:Shape:=⟨[(2,false,[.bool])],[],[]⟩
abbrev yqY (v0:List (List Int)) (v1 v2:Int) (v3:dM):(ydb).X:=((((),()),(v0,()),(v1,()),(v2,()),()),((v3.1,v3.2.1,v3.2.2.1,v3.2.2.2,()),()),())
abbrev yOP (v0:List (List Int)) (v1:Int) (v2:dM):(yhL).X:=((((),()),(v0,()),(v1,()),((),()),()),((v2.1,v2.2.1,v2.2.2.1,v2.2.2.2,()),()),())
abbrev yOH (v0:dM):(yhw).X:=((((),()),()),((v0.1,v0.2.1,v0.2.2.1,v0.2.2.2,()),()),())
abbrev yO3 (v0:Bool):(yh3).X:=(((v0,()),()),(),())
def yrw (v0:List (List Int)) (v1 v2:Int) (v3:List (List Int)) (v4:List dW) (v5:Bool) (v6:List Int):Option ((ydb).X ⊕ ((yhw).X ⊕ (yh3).X)) :=bif(ltb v2 v1)then bif(inb v2 v0.length)then let r2:=ygP (nth v0 v2 []);bif(!r2)then some (.inr (.inr (((false,()),()),(),()))) else some (.inl ((((),()),(v0,()),(v1,()),((i64.wrap (v2+1)),()),()),((v3,v4,v5,v6,()),()),())) else none else some (.inr (.inl ((((),()),()),((v3,v4,v5,v6,()),()),())))
def ydH (x:(ydb).X):=yrw x.1.2.1.1 x.1.2.2.1.1 x.1.2.2.2.1.1 x.2.1.1.1 x.2.1.1.2.1 x.2.1.1.2.2.1 x.2.1.1.2.2.2.1
def yCy (x:(yhL).X):(ydb).X:=((((),()),(x.1.2.1.1,()),(x.1.2.2.1.1,()),(0,()),()),((x.2.1.1.1,x.2.1.1.2.1,x.2.1.1.2.2.1,x.2.1.1.2.2.2.1,()),()),())
def yD1:Code:=(zeJ ycm 64 52).getD .skip
theorem yRi:zeJ ycm 64 13=some (.block 0 (.loop yD1)):=by kernel_rfl
theorem yT0 (x:(ydb).X):zhu ⟨ygg,76,yFE⟩ 0 yD1 52 ydb yhw yh3 x=ydH x:=by kernel_rfl
def yCO (x:(yhL).X):Nat:=18446744073709551616
def ysr (x:(yhL).X):Option ((yhw).X ⊕ (yh3).X):=zF ydH (yCO x) (yCy x)
def yDs:Seg:=⟨yhL,yhw,yh3,ysr⟩
def yvm:Nat→Option Seg:=fun q=>bif Nat.beq q 13 then some yDs else yFE q
theorem yRJ:FrOk prog ⟨ygg,76,yvm⟩ ycm:=(yRI).loop (sg:=yDs) ydb yCy (by decide) yRi ydH yCO (by decide) (fun _=>rfl) (fun x r _ h=>h) yT0
def ydc:Shape:=⟨[(1,false,[.ptr 0 0]),(21,false,[.br tW]),(22,false,[.int .i64]),(23,false,[.int .i64])],[(0,[.br tL,.br tW,.bool,.br tI])],[]⟩
def yhM:Shape:=⟨[(1,false,[.ptr 0 0]),(21,false,[.br tW]),(22,false,[.int .i64]),(23,false,[.ci .i64 0])],[(0,[.br tL,.br tW,.bool,.br tI])],[]⟩
def yhx:Shape:=⟨[(1,false,[.ptr 0 0])],[(0,[.br tL,.br tW,.bool,.br tI])],[]⟩
def yh4:Shape:=⟨[(2,false,[.bool])],[],[]⟩
abbrev yqZ (v0:List dW) (v1 v2:Int) (v3:dM):(ydc).X:=((((),()),(v0,()),(v1,()),(v2,()),()),((v3.1,v3.2.1,v3.2.2.1,v3.2.2.2,()),()),())
abbrev yOQ (v0:List dW) (v1:Int) (v2:dM):(yhM).X:=((((),()),(v0,()),(v1,()),((),()),()),((v2.1,v2.2.1,v2.2.2.1,v2.2.2.2,()),()),())
abbrev yOI (v0:dM):(yhx).X:=((((),()),()),((v0.1,v0.2.1,v0.2.2.1,v0.2.2.2,()),()),())
abbrev yO4 (v0:Bool):(yh4).X:=(((v0,()),()),(),())
def yrx (v0:List dW) (v1 v2:Int) (v3:List (List Int)) (v4:List dW) (v5:Bool) (v6:List Int):Option ((ydc).X ⊕ ((yhx).X ⊕ (yh4).X)) :=bif(ltb v2 v1)then bif(inb v2 v0.length)then let r6:=ybC (v3,v4,v5,v6) ((nth v0 v2 (0,[])).1);bif(!(!r6))then let r7:=ygP ((nth v0 v2 (0,[])).2);bif(!r7)then some (.inr (.inr (((false,()),()),(),()))) else some (.inl ((((),()),(v0,()),(v1,()),((i64.wrap (v2+1)),()),()),((v3,v4,v5,v6,()),()),())) else some (.inr (.inr (((false,()),()),(),()))) else none else some (.inr (.inl ((((),()),()),((v3,v4,v5,v6,()),()),())))
def ydI (x:(ydc).X):=yrx x.1.2.1.1 x.1.2.2.1.1 x.1.2.2.2.1.1 x.2.1.1.1 x.2.1.1.2.1 x.2.1.1.2.2.1 x.2.1.1.2.2.2.1
def yCz (x:(yhM).X):(ydc).X:=((((),()),(x.1.2.1.1,()),(x.1.2.2.1.1,()),(0,()),()),((x.2.1.1.1,x.2.1.1.2.1,x.2.1.1.2.2.1,x.2.1.1.2.2.2.1,()),()),())
def yD2:Code:=(zeJ ycm 64 116).getD .skip
theorem yRj:zeJ ycm 64 29=some (.block 2 (.loop yD2)):=by kernel_rfl
theorem yT1 (x:(ydc).X):zhu ⟨ygg,76,yvm⟩ 2 yD2 116 ydc yhx yh4 x=ydI x:=by kernel_rfl
def yCP (x:(yhM).X):Nat:=18446744073709551616
def yss (x:(yhM).X):Option ((yhx).X ⊕ (yh4).X):=zF ydI (yCP x) (yCz x)
def yDt:Seg:=⟨yhM,yhx,yh4,yss⟩
def yvn:Nat→Option Seg:=fun q=>bif Nat.beq q 29 then some yDt else yvm q
theorem yRK:FrOk prog ⟨ygg,76,yvn⟩ ycm:=(yRJ).loop (sg:=yDt) ydc yCz (by decide) yRj ydI yCP (by decide) (fun _=>rfl) (fun x r _ h=>h) yT1
def ydd:Shape:=⟨[(1,false,[.ptr 0 0]),(40,false,[.br tI]),(41,false,[.int .i64]),(42,false,[.int .i64])],[(0,[.br tL,.br tW,.bool,.br tI])],[]⟩
def yhN:Shape:=⟨[(1,false,[.ptr 0 0]),(40,false,[.br tI]),(41,false,[.int .i64]),(42,false,[.ci .i64 0])],[(0,[.br tL,.br tW,.bool,.br tI])],[]⟩
def yhy:Shape:=⟨[(1,false,[.ptr 0 0])],[(0,[.br tL,.br tW,.bool,.br tI])],[]⟩
def yh5:Shape:=⟨[(2,false,[.bool])],[],[]⟩
abbrev yq0 (v0:List Int) (v1 v2:Int) (v3:dM):(ydd).X:=((((),()),(v0,()),(v1,()),(v2,()),()),((v3.1,v3.2.1,v3.2.2.1,v3.2.2.2,()),()),())
abbrev yOR (v0:List Int) (v1:Int) (v2:dM):(yhN).X:=((((),()),(v0,()),(v1,()),((),()),()),((v2.1,v2.2.1,v2.2.2.1,v2.2.2.2,()),()),())
abbrev yOJ (v0:dM):(yhy).X:=((((),()),()),((v0.1,v0.2.1,v0.2.2.1,v0.2.2.2,()),()),())
abbrev yO5 (v0:Bool):(yh5).X:=(((v0,()),()),(),())
def yry (v0:List Int) (v1 v2:Int) (v3:List (List Int)) (v4:List dW) (v5:Bool) (v6:List Int):Option ((ydd).X ⊕ ((yhy).X ⊕ (yh5).X)) :=bif(ltb v2 v1)then bif(inb v2 v0.length)then let r10:=ybC (v3,v4,v5,v6) (nth v0 v2 0);bif(!(!r10))then bif(ltb 0 v2)then bif(inb (i64.wrap (v2-1)) v6.length)then bif(leb (nth v0 v2 0) (nth v6 (i64.wrap (v2-1)) 0))then some (.inr (.inr (((false,()),()),(),()))) else some (.inl ((((),()),(v0,()),(v1,()),((i64.wrap (v2+1)),()),()),((v3,v4,v5,v6,()),()),())) else none else some (.inl ((((),()),(v0,()),(v1,()),((i64.wrap (v2+1)),()),()),((v3,v4,v5,v6,()),()),())) else some (.inr (.inr (((false,()),()),(),()))) else none else some (.inr (.inl ((((),()),()),((v3,v4,v5,v6,()),()),())))
def ydJ (x:(ydd).X):=yry x.1.2.1.1 x.1.2.2.1.1 x.1.2.2.2.1.1 x.2.1.1.1 x.2.1.1.2.1 x.2.1.1.2.2.1 x.2.1.1.2.2.2.1
def yCA (x:(yhN).X):(ydd).X:=((((),()),(x.1.2.1.1,()),(x.1.2.2.1.1,()),(0,()),()),((x.2.1.1.1,x.2.1.1.2.1,x.2.1.1.2.2.1,x.2.1.1.2.2.2.1,()),()),())
def yD3:Code:=(zeJ ycm 64 244).getD .skip
theorem yRk:zeJ ycm 64 61=some (.block 4 (.loop yD3)):=by kernel_rfl
theorem yT2 (x:(ydd).X):zhu ⟨ygg,76,yvn⟩ 4 yD3 244 ydd yhy yh5 x=ydJ x:=by kernel_rfl
def yCQ (x:(yhN).X):Nat:=18446744073709551616
def yst (x:(yhN).X):Option ((yhy).X ⊕ (yh5).X):=zF ydJ (yCQ x) (yCA x)
def yDu:Seg:=⟨yhN,yhy,yh5,yst⟩
def yUz:Nat→Option Seg:=fun q=>bif Nat.beq q 61 then some yDu else yvn q
theorem yRL:FrOk prog ⟨ygg,76,yUz⟩ ycm:=(yRK).loop (sg:=yDu) ydd yCA (by decide) yRk ydJ yCQ (by decide) (fun _=>rfl) (fun x r _ h=>h) yT2
abbrev ysG:List Par:= [.rd tM]
abbrev yBH:List OT:= [⟨false,tB,.fz⟩]
def ywv (a0:dM):Option (zaY yBH×zak ysG) :=zkr (ysr ((((),()),(a0.1,()),((a0.1.length:Int),()),((),()),()),((a0.1,a0.2.1,a0.2.2.1,a0.2.2.2,()),()),())) (fun y2 =>zkr (yss ((((),()),(y2.2.1.1.2.1,()),((y2.2.1.1.2.1.length:Int),()),((),()),()),((y2.2.1.1.1,y2.2.1.1.2.1,y2.2.1.1.2.2.1,y2.2.1.1.2.2.2.1,()),()),())) (fun y7 =>zkr (yst ((((),()),(y7.2.1.1.2.2.2.1,()),((y7.2.1.1.2.2.2.1.length:Int),()),((),()),()),((y7.2.1.1.1,y7.2.1.1.2.1,y7.2.1.1.2.2.1,y7.2.1.1.2.2.2.1,()),()),())) (fun y10 =>let r12:=yj (y10.2.1.1.1.length:Int) 1 20;bif r12 then some (((leb (y10.2.1.1.2.1.length:Int) 60),()),()) else some ((false,()),())) (fun y10 =>some ((y10.1.1.1,()),()))) (fun y7 =>some ((y7.1.1.1,()),()))) (fun y2 =>some ((y2.1.1.1,()),()))
theorem yVW:ConOk prog 127 ⟨ysG,yBH,fun x=>ywv x.1⟩:=zkG (yRL) func127 ntmps127.symm fun x=>by kernel_rfl
def yat (a0:dM):Bool:=yu a0
theorem yYt (a0:dM) (hk:zjw ysG (a0,())):ywv a0=(fun n=>some ((n,()),())) (yat a0):=by
 have hb1:a0.1.length*24≤2^47:=hk.1.1.1;have hb2:a0.2.1.length*32≤2^47:=hk.1.2.1.1;have hb3:a0.2.2.2.length*8≤2^47:=hk.1.2.2.2.1
 have h1:ysr (yOP a0.1 a0.1.length a0)=some (bif a0.1.all yav then .inl (yOH a0)else .inr (yO3 false)) :=
  zj7 (step:=ydH) a0.1 [] (fun i=>yqY a0.1 a0.1.length i a0) yav _ _ (fun i hi=>by
   simp only[ydH,yqY,yrw,zkw (show(i:Int)<a0.1.length by omega),cond_true,wq ((i:Int)+1) (by omega) (by omega),Int.natCast_add,Int.natCast_one,Int.toNat_natCast,zkP hi,zkQ,yFs]
   cases yav (a0.1.getD i [])<;>rfl) (by simp only[ydH,yqY,yrw,zk1 (Int.le_refl _),cond_false]) _ (by show _<18446744073709551616; omega)
 have h2:yss (yOQ a0.2.1 a0.2.1.length a0)=some (bif a0.2.1.all (yrJ a0.1.length)then .inl (yOI a0)else .inr (yO4 false)) :=
  zj7 (step:=ydI) a0.2.1 (0,[]) (fun i=>yqZ a0.2.1 a0.2.1.length i a0) (yrJ a0.1.length) _ _ (fun i hi=>by
   simp only[ydI,yqZ,yrx,zkw (show(i:Int)<a0.2.1.length by omega),cond_true,wq ((i:Int)+1) (by omega) (by omega),Int.natCast_add,Int.natCast_one,Int.toNat_natCast,zkP hi,zkQ,yFs,ybC,yau,ymZ (show a0.1.length≤1152921504606846976 by omega),yrJ]
   cases inb (a0.2.1.getD i (0,[])).1 a0.1.length<;>cases yav (a0.2.1.getD i (0,[])).2<;>rfl) (by simp only[ydI,yqZ,yrx,zk1 (Int.le_refl _),cond_false]) _ (by show _<18446744073709551616; omega)
 have h3:yst (yOR a0.2.2.2 a0.2.2.2.length a0)=some (bif(List.range a0.2.2.2.length).any (yDY a0.1.length a0.2.2.2)then .inr (yO5 false)else .inl (yOJ a0)) :=
  zjh (step:=ydJ) (fun i=>yq0 a0.2.2.2 a0.2.2.2.length i a0) a0.2.2.2.length (yDY a0.1.length a0.2.2.2) _ _ (fun i hi=>by
   simp only[ydJ,yq0,yry,zkw (show(i:Int)<a0.2.2.2.length by omega),cond_true,wq ((i:Int)+1) (by omega) (by omega),Int.natCast_add,Int.natCast_one,Int.toNat_natCast,zkP hi,zkQ,ybC,yau,ymZ (show a0.1.length≤1152921504606846976 by omega),yDY];rcases Nat.eq_zero_or_pos i with rfl | h0
   ·cases inb (a0.2.2.2.getD 0 0) a0.1.length<;>rfl
   ·rw[show i64.wrap ((i:Int)-1)=((i-1:Nat):Int)by rw[wr (by omega) (by omega)]; omega,zkP (show i-1<a0.2.2.2.length by omega),zkQ,zkw (show(0:Int)<i by omega),decide_eq_true h0]
    cases inb (a0.2.2.2.getD i 0) a0.1.length<;>cases leb (a0.2.2.2.getD i 0) (a0.2.2.2.getD (i-1) 0)<;>rfl) (by simp only[ydJ,yq0,yry,zk1 (Int.le_refl _),cond_false]) _ (by show _<18446744073709551616; omega)
 unfold ywv yat yu;rw[h1];cases a0.1.all yav
 ·rfl
 simp only[cond_true,zkL,h2];cases a0.2.1.all (yrJ a0.1.length)
 ·rfl
 simp only[cond_true,zkL,h3,yWP,yau,ycx];cases yob a0.1.length a0.2.2.2
 ·rfl
 simp only[Bool.not_true,cond_false,zkL];cases leb 1 (a0.1.length:Int)<;>cases leb (a0.1.length:Int) 20<;>rfl
def yek:Con:=⟨ysG,yBH,fun x=>(fun n=>some ((n,()),())) (yat x.1)⟩
theorem yhj:ConOk prog 127 yek:=(yVW).mono (fun x r hk h=>(yYt x.1 hk).trans h)
def yUm:Code:=(f128.body).getD .skip
def yUM:Env:=zku TT [] []
theorem yLs:FrOk prog ⟨yUM,6,fun _=>none⟩ yUm:=zky yg yh trivial
abbrev yvH:List Par:= [.rd tG]
abbrev yvX:List OT:= [⟨false,tI,.fz⟩]
def yDm (a0:dG):Option (zaY yvX×zak yvH) :=some (((i64.wrap (6+a0.2)),()),())
theorem yPG:ConOk prog 128 ⟨yvH,yvX,fun x=>yDm x.1⟩:=zkG (yLs) func128 ntmps128.symm fun x=>by kernel_rfl
def yoi (a0:dG):Int :=(i64.wrap (6+a0.2))
def yCk:Con:=⟨yvH,yvX,fun x=>(fun n=>some ((n,()),())) (yoi x.1)⟩
theorem ySJ (a0:dG):yDm a0=(fun n=>some ((n,()),())) (yoi a0):=zkT (p:=fun(n:Int)=>((n,()),())) rfl
theorem yTH:ConOk prog 128 yCk:=(yPG).mono (fun x r _ h=>(ySJ x.1).trans h)
def yr4:Code:=(f55.body).getD .skip
def yBk:Env:=zku TT [(81,yO),(123,yjs),(125,ytu),(126,yCj),(127,yek),(128,yCk)] []
theorem yRE:FrOk prog ⟨yBk,103,fun _=>none⟩ yr4:=zky yg yh ⟨yaa,yqt,yGq,yTG,yhj,yTH,trivial⟩
def yFD:Nat→Option Seg:=fun _=>none
def yda:Shape:=⟨[(1,false,[.ptr 0 0]),(41,false,[.br tM]),(42,false,[.int .i64]),(43,false,[.int .i64])],[(0,[.int .i64,.int .i64,.int .i64,.br tM,.int .i64,.int .i64,.int .i64,.int .i64,.int .i64,.br tW,.int .i64,.bool,.bool])],[]⟩
def yhK:Shape:=⟨[(1,false,[.ptr 0 0]),(41,false,[.br tM]),(42,false,[.int .i64]),(43,false,[.ci .i64 0])],[(0,[.int .i64,.int .i64,.int .i64,.br tM,.int .i64,.int .i64,.int .i64,.int .i64,.int .i64,.br tW,.int .i64,.bool,.bool])],[]⟩
def yhv:Shape:=⟨[(1,false,[.ptr 0 0])],[(0,[.int .i64,.int .i64,.int .i64,.br tM,.int .i64,.int .i64,.int .i64,.int .i64,.int .i64,.br tW,.int .i64,.bool,.bool])],[]⟩
def yhZ:Shape:=⟨[(2,false,[.bool])],[],[]⟩
abbrev yqX (v0:List dM) (v1 v2:Int) (v3:dA):(yda).X:=((((),()),(v0,()),(v1,()),(v2,()),()),((v3.1,v3.2.1.1,v3.2.1.2,v3.2.2.1,v3.2.2.2.1,v3.2.2.2.2.1,v3.2.2.2.2.2.1,v3.2.2.2.2.2.2.1,v3.2.2.2.2.2.2.2.1,v3.2.2.2.2.2.2.2.2.1,v3.2.2.2.2.2.2.2.2.2.1,v3.2.2.2.2.2.2.2.2.2.2.1,v3.2.2.2.2.2.2.2.2.2.2.2,()),()),())
abbrev yOO (v0:List dM) (v1:Int) (v2:dA):(yhK).X:=((((),()),(v0,()),(v1,()),((),()),()),((v2.1,v2.2.1.1,v2.2.1.2,v2.2.2.1,v2.2.2.2.1,v2.2.2.2.2.1,v2.2.2.2.2.2.1,v2.2.2.2.2.2.2.1,v2.2.2.2.2.2.2.2.1,v2.2.2.2.2.2.2.2.2.1,v2.2.2.2.2.2.2.2.2.2.1,v2.2.2.2.2.2.2.2.2.2.2.1,v2.2.2.2.2.2.2.2.2.2.2.2,()),()),())
abbrev yOG (v0:dA):(yhv).X:=((((),()),()),((v0.1,v0.2.1.1,v0.2.1.2,v0.2.2.1,v0.2.2.2.1,v0.2.2.2.2.1,v0.2.2.2.2.2.1,v0.2.2.2.2.2.2.1,v0.2.2.2.2.2.2.2.1,v0.2.2.2.2.2.2.2.2.1,v0.2.2.2.2.2.2.2.2.2.1,v0.2.2.2.2.2.2.2.2.2.2.1,v0.2.2.2.2.2.2.2.2.2.2.2,()),()),())
abbrev yO2 (v0:Bool):(yhZ).X:=(((v0,()),()),(),())
def yrv (v0:List dM) (v1 v2 v3 v4 v5:Int) (v6:List dM) (v7 v8 v9 v10 v11:Int) (v12:List dW) (v13:Int) (v14 v15:Bool):Option ((yda).X ⊕ ((yhv).X ⊕ (yhZ).X)) :=bif(ltb v2 v1)then bif(inb v2 v0.length)then let r7:=yat ((nth v0 v2 ([],[],false,[])).1,((nth v0 v2 ([],[],false,[])).2).1,(((nth v0 v2 ([],[],false,[])).2).2));bif(!(!r7))then let r8:=yoi (v4,v5);bif(!((((nth v0 v2 ([],[],false,[])).1).length:Int) !=r8))then bif(((nth v0 v2 ([],[],false,[])).2).2).1 then bif(v7 !=v2)then bif(!v15)then some (.inr (.inr (((false,()),()),(),()))) else some (.inl ((((),()),(v0,()),(v1,()),((i64.wrap (v2+1)),()),()),((v3,v4,v5,v6,v7,v8,v9,v10,v11,v12,v13,v14,v15,()),()),())) else some (.inl ((((),()),(v0,()),(v1,()),((i64.wrap (v2+1)),()),()),((v3,v4,v5,v6,v7,v8,v9,v10,v11,v12,v13,v14,v15,()),()),())) else some (.inl ((((),()),(v0,()),(v1,()),((i64.wrap (v2+1)),()),()),((v3,v4,v5,v6,v7,v8,v9,v10,v11,v12,v13,v14,v15,()),()),())) else some (.inr (.inr (((false,()),()),(),()))) else some (.inr (.inr (((false,()),()),(),()))) else none else some (.inr (.inl ((((),()),()),((v3,v4,v5,v6,v7,v8,v9,v10,v11,v12,v13,v14,v15,()),()),())))
def ydG (x:(yda).X):=yrv x.1.2.1.1 x.1.2.2.1.1 x.1.2.2.2.1.1 x.2.1.1.1 x.2.1.1.2.1 x.2.1.1.2.2.1 x.2.1.1.2.2.2.1 x.2.1.1.2.2.2.2.1 x.2.1.1.2.2.2.2.2.1 x.2.1.1.2.2.2.2.2.2.1 x.2.1.1.2.2.2.2.2.2.2.1 x.2.1.1.2.2.2.2.2.2.2.2.1 x.2.1.1.2.2.2.2.2.2.2.2.2.1 x.2.1.1.2.2.2.2.2.2.2.2.2.2.1 x.2.1.1.2.2.2.2.2.2.2.2.2.2.2.1 x.2.1.1.2.2.2.2.2.2.2.2.2.2.2.2.1
def yCx (x:(yhK).X):(yda).X:=((((),()),(x.1.2.1.1,()),(x.1.2.2.1.1,()),(0,()),()),((x.2.1.1.1,x.2.1.1.2.1,x.2.1.1.2.2.1,x.2.1.1.2.2.2.1,x.2.1.1.2.2.2.2.1,x.2.1.1.2.2.2.2.2.1,x.2.1.1.2.2.2.2.2.2.1,x.2.1.1.2.2.2.2.2.2.2.1,x.2.1.1.2.2.2.2.2.2.2.2.1,x.2.1.1.2.2.2.2.2.2.2.2.2.1,x.2.1.1.2.2.2.2.2.2.2.2.2.2.1,x.2.1.1.2.2.2.2.2.2.2.2.2.2.2.1,x.2.1.1.2.2.2.2.2.2.2.2.2.2.2.2.1,()),()),())
def yD0:Code:=(zeJ yr4 64 116).getD .skip
theorem yRh:zeJ yr4 64 29=some (.block 0 (.loop yD0)):=by kernel_rfl
theorem yTZ (x:(yda).X):zhu ⟨yBk,103,yFD⟩ 0 yD0 116 yda yhv yhZ x=ydG x:=by kernel_rfl
def yCN (x:(yhK).X):Nat:=18446744073709551616
def ysq (x:(yhK).X):Option ((yhv).X ⊕ (yhZ).X):=zF ydG (yCN x) (yCx x)
def yDr:Seg:=⟨yhK,yhv,yhZ,ysq⟩
def yUy:Nat→Option Seg:=fun q=>bif Nat.beq q 29 then some yDr else yFD q
theorem yRF:FrOk prog ⟨yBk,103,yUy⟩ yr4:=(yRE).loop (sg:=yDr) yda yCx (by decide) yRh ydG yCN (by decide) (fun _=>rfl) (fun x r _ h=>h) yTZ
abbrev ysF:List Par:= [.rd tA]
abbrev yBE:List OT:= [⟨false,tB,.fz⟩]
def ywu (a0:dA):Option (zaY yBE×zak ysF) :=let r1:=ydw a0.2.1;bif(!(!r1))then bif(!((a0.2.2.1.length:Int) !=a0.2.1.1))then let r2:=yj a0.1 1 60000;bif(!(!r2))then let r3:=yfq a0.2.1 a0.2.2.2.1 a0.2.2.2.2.1;bif(!(!r3))then bnd (yoq a0) fun r4 =>bif(!r4.1.1)then some ((false,()),()) else zkr (ysq ((((),()),(a0.2.2.1,()),((a0.2.2.1.length:Int),()),((),()),()),((a0.1,a0.2.1.1,a0.2.1.2,a0.2.2.1,a0.2.2.2.1,a0.2.2.2.2.1,a0.2.2.2.2.2.1,a0.2.2.2.2.2.2.1,a0.2.2.2.2.2.2.2.1,a0.2.2.2.2.2.2.2.2.1,a0.2.2.2.2.2.2.2.2.2.1,a0.2.2.2.2.2.2.2.2.2.2.1,a0.2.2.2.2.2.2.2.2.2.2.2,()),()),())) (fun y8 =>let r10:=yj y8.2.1.1.2.2.2.2.2.2.1 0 60000;bif r10 then let r11:=yj y8.2.1.1.2.2.2.2.2.2.2.1 0 60000;bif r11 then let r12:=yj y8.2.1.1.2.2.2.2.2.2.2.2.1 0 60000;bif r12 then let r13:=yj (i64.wrap (y8.2.1.1.2.2.2.2.2.2.1-y8.2.1.1.2.2.2.2.2.2.2.1)) 0 4;bif r13 then let r14:=yj y8.2.1.1.2.2.2.2.2.2.2.2.2.2.1 (-1) 1000;some ((r14,()),()) else some ((false,()),()) else some ((false,()),()) else some ((false,()),()) else some ((false,()),())) (fun y8 =>some ((y8.1.1.1,()),())) else some ((false,()),()) else some ((false,()),()) else some ((false,()),()) else some ((false,()),())
theorem yVT:ConOk prog 55 ⟨ysF,yBE,fun x=>ywu x.1⟩:=zkG (yRF) func55 ntmps55.symm fun x=>by kernel_rfl
theorem y3p {S T G F z TS le:Bool} (h1:T=true→TS=true→S=true) (h2:S=true→T=true→z=(TS&&le)) :
  (bif S then bif T then bif G then bif z then some ((F,()),())else some ((false,()),())else some ((false,()),())else some ((false,()),())else some ((false,()),()))=some (((T&&(TS&&(le&&(G&&F)))),()),()):=by
 cases S
 ·cases T
  ·rfl
  ·cases TS
   ·rfl
   ·exact absurd (h1 rfl rfl) Bool.false_ne_true
 ·cases T
  ·cases G<;>rfl
  ·rw[h2 rfl rfl]
   cases TS<;>cases le<;>cases G<;>rfl
def yaj (a0:dA):Bool:=yal a0
theorem yYq (a0:dA) (hk:zjw ysF (a0,())):ywu a0=(fun n=>some ((n,()),())) (yaj a0):=by
 have hb:a0.2.2.1.length*80≤2^47:=hk.1.2.2.1.1;unfold ywu yaj yal;simp only[yJo,yau,ycx];cases hg:ye a0.2.1
 ·rfl
 have hg2:=yn.1 hg
 have h1:ysq (yOO a0.2.2.1 a0.2.2.1.length a0)=some (bif(List.range a0.2.2.1.length).any (ygN a0)then .inr (yO2 false)else .inl (yOG a0)) :=
  zjh (step:=ydG) (fun i=>yqX a0.2.2.1 a0.2.2.1.length i a0) a0.2.2.1.length (ygN a0) _ _ (fun i hi=>by
   simp only[ydG,yqX,yrv,zkw (show(i:Int)<a0.2.2.1.length by omega),cond_true,wq ((i:Int)+1) (by omega) (by omega),Int.natCast_add,Int.natCast_one,Int.toNat_natCast,zkP hi,zkV,yat,ygN,yoi,wq (6+a0.2.1.2) (by omega) (by omega),yc];rw[show(a0.2.2.2.1 !=(i:Int))=((i:Int) !=a0.2.2.2.1)from bne_comm]
   cases yu (nth a0.2.2.1 i ([],[],false,[]))<;>cases(((nth a0.2.2.1 i ([],[],false,[])).1.length:Int) !=6+a0.2.1.2)<;>cases(nth a0.2.2.1 i ([],[],false,[])).2.2.1<;>cases((i:Int) !=a0.2.2.2.1)<;>cases a0.2.2.2.2.2.2.2.2.2.2.2<;>rfl) (by simp only[ydG,yqX,yrv,zk1 (Int.le_refl _),cond_false]) _ (by show _<18446744073709551616; omega)
 rw[yTU a0 hg,h1];simp only[zkF,yjD,yfq,yau,ycx,wq (a0.2.1.1-1) (by omega) (by omega),ykX]
 have hw:(leb 0 a0.2.2.2.2.2.1&&leb a0.2.2.2.2.2.1 60000)=true→(leb 0 a0.2.2.2.2.2.2.1&&leb a0.2.2.2.2.2.2.1 60000)=true→i64.wrap (a0.2.2.2.2.2.1-a0.2.2.2.2.2.2.1)=a0.2.2.2.2.2.1-a0.2.2.2.2.2.2.1:=fun h h'=>by
  rw[Bool.and_eq_true,zj5,zj5]at h h';exact wr (by omega) (by omega)
 simp only[bne,Bool.not_not,cond_true,Bool.true_and]
 have h2:(leb 0 a0.2.2.2.2.2.1&&leb a0.2.2.2.2.2.1 60000)=true→(leb 0 a0.2.2.2.2.2.2.1&&leb a0.2.2.2.2.2.2.1 60000)=true→(leb 0 (i64.wrap (a0.2.2.2.2.2.1-a0.2.2.2.2.2.2.1))&&leb (i64.wrap (a0.2.2.2.2.2.1-a0.2.2.2.2.2.2.1)) 4)=((leb a0.2.2.2.2.2.2.1 a0.2.2.2.2.2.1&&leb a0.2.2.2.2.2.1 60000)&&leb a0.2.2.2.2.2.1 (a0.2.2.2.2.2.2.1+4)):=fun h h'=>by
  rw[hw h h',Bool.eq_iff_iff];simp only[Bool.and_eq_true,zj5]at h h' ⊢;omega
 have h3:(leb 0 a0.2.2.2.2.2.2.1&&leb a0.2.2.2.2.2.2.1 60000)=true→(leb a0.2.2.2.2.2.2.1 a0.2.2.2.2.2.1&&leb a0.2.2.2.2.2.1 60000)=true→(leb 0 a0.2.2.2.2.2.1&&leb a0.2.2.2.2.2.1 60000)=true:=fun h h'=>by
  simp only[Bool.and_eq_true,zj5]at h h' ⊢;omega
 cases((a0.2.2.1.length:Int)==a0.2.1.1)
 ·cases(leb 1 a0.1&&leb a0.1 60000)<;>cases(List.range a0.2.2.1.length).any (ygN a0)<;>rfl
 cases(leb 1 a0.1&&leb a0.1 60000)
 ·rfl
 cases(leb (-1) a0.2.2.2.1&&leb a0.2.2.2.1 (a0.2.1.1-1))
 ·cases(List.range a0.2.2.1.length).any (ygN a0)<;>cases yaO a0.2.1 a0.2.2.2.2.2.2.2.2.1<;>rfl
 cases(leb 0 a0.2.2.2.2.1&&leb a0.2.2.2.2.1 a0.2.1.2)
 ·cases(List.range a0.2.2.1.length).any (ygN a0)<;>cases yaO a0.2.1 a0.2.2.2.2.2.2.2.2.1<;>rfl
 cases yaO a0.2.1 a0.2.2.2.2.2.2.2.2.1
 ·cases(List.range a0.2.2.1.length).any (ygN a0)<;>cases(a0.2.2.2.1== -1)<;>cases(a0.2.2.2.2.1==0)<;>rfl
 cases(List.range a0.2.2.1.length).any (ygN a0)
 ·cases(a0.2.2.2.1== -1)<;>cases(a0.2.2.2.2.1==0)
  case true.false=>rfl
  all_goals exact y3p h3 h2
 ·cases(a0.2.2.2.1== -1)<;>cases(a0.2.2.2.2.1==0)<;>rfl
def yf6:Con:=⟨ysF,yBE,fun x=>(fun n=>some ((n,()),())) (yaj x.1)⟩
theorem ylb:ConOk prog 55 yf6:=(yVT).mono (fun x r hk h=>(yYq x.1 hk).trans h)
def yhk:Code:=(f201.body).getD .skip
def ymC:Env:=zku TT [] []
theorem yGc:FrOk prog ⟨ymC,19,fun _=>none⟩ yhk:=zky yg yh trivial
def yse:Nat→Option Seg:=fun _=>none
def yaH:Shape:=⟨[(0,false,[.br tI]),(1,false,[.int .i64]),(7,false,[.int .i64]),(8,false,[.int .i64])],[],[]⟩
def ycS:Shape:=⟨[(0,false,[.br tI]),(1,false,[.int .i64]),(7,false,[.int .i64]),(8,false,[.ci .i64 0])],[],[]⟩
def ycQ:Shape:=⟨[],[],[]⟩
def ycU:Shape:=⟨[(4,false,[.int .i64])],[],[]⟩
abbrev yiC (v0:List Int) (v1 v2 v3:Int):(yaH).X:=(((v0,()),(v1,()),(v2,()),(v3,()),()),(),())
abbrev yFw (v0:List Int) (v1 v2:Int):(ycS).X:=(((v0,()),(v1,()),(v2,()),((),()),()),(),())
abbrev yFu  :(ycQ).X:=((),(),())
abbrev ypO (v0:Int):(ycU).X:=(((v0,()),()),(),())
def yiF (v0:List Int) (v1 v2 v3:Int):Option ((yaH).X ⊕ ((ycQ).X ⊕ (ycU).X)) :=bif(ltb v3 v2)then bif(inb v3 v0.length)then bif(v1==(nth v0 v3 0))then some (.inr (.inr (((v3,()),()),(),()))) else some (.inl (((v0,()),(v1,()),(v2,()),((i64.wrap (v3+1)),()),()),(),())) else none else some (.inr (.inl ((),(),())))
def yaP (x:(yaH).X):=yiF x.1.1.1 x.1.2.1.1 x.1.2.2.1.1 x.1.2.2.2.1.1
def ypI (x:(ycS).X):(yaH).X:=(((x.1.1.1,()),(x.1.2.1.1,()),(x.1.2.2.1.1,()),(0,()),()),(),())
def yrM:Code:=(zeJ yhk 64 52).getD .skip
theorem yFQ:zeJ yhk 64 13=some (.block 0 (.loop yrM)):=by kernel_rfl
theorem yGz (x:(yaH).X):zhu ⟨ymC,19,yse⟩ 0 yrM 52 yaH ycQ ycU x=yaP x:=by kernel_rfl
def ypK (x:(ycS).X):Nat:=18446744073709551616
def yi5 (x:(ycS).X):Option ((ycQ).X ⊕ (ycU).X):=zF yaP (ypK x) (ypI x)
def ypT:Seg:=⟨ycS,ycQ,ycU,yi5⟩
def yGM:Nat→Option Seg:=fun q=>bif Nat.beq q 13 then some ypT else yse q
theorem yGd:FrOk prog ⟨ymC,19,yGM⟩ yhk:=(yGc).loop (sg:=ypT) yaH ypI (by decide) yFQ yaP ypK (by decide) (fun _=>rfl) (fun x r _ h=>h) yGz
abbrev yhr:List Par:= [.rd tL,.rd tI]
abbrev ymS:List OT:= [⟨false,tI,.fz⟩]
def ykC (a0:List Int) (a1:Int):Option (zaY ymS×zak yhr) :=zkr (yi5 (((a0,()),(a1,()),((a0.length:Int),()),((),()),()),(),())) (fun y0 =>some (((-1),()),())) (fun y0 =>some ((y0.1.1.1,()),()))
theorem yHe:ConOk prog 201 ⟨yhr,ymS,fun x=>ykC x.1 x.2.1⟩:=zkG (yGd) func201 ntmps201.symm fun x=>by kernel_rfl
def yVh (l:List Int) (x:Int):Int:=bif l.any (· ==x)then((l.takeWhile (· !=x)).length:Int)else -1
def yeV (a0:List Int) (a1:Int):Int:=yVh a0 a1
theorem y1j {A B α:Type} {step:A→Option (A ⊕ B)} (l:List α) (d:α) (f:Nat→A) (p:α→Bool) (b:Nat→B) (c:B)
  (h: ∀i,i<l.length→step (f i)=some (bif p (l.getD i d)then .inr (b i)else .inl (f (i+1)))) (e:step (f l.length)=some (.inr c)) (fuel:Nat) (hf:l.length<fuel) :
  zF step fuel (f 0)=some (bif l.any p then b (l.takeWhile (fun x=> !p x)).length else c):=by
 have: ∀(t q:List α) (fuel:Nat),q++t=l→t.length<fuel→zF step fuel (f q.length)=some (bif t.any p then b (q.length+(t.takeWhile (fun x=> !p x)).length)else c):=by
  intro t
  induction t with
  | nil =>
   intro q fuel hq hf;obtain⟨fuel,rfl⟩: ∃m,fuel=m+1:=⟨fuel-1,by omega⟩;rw[List.append_nil]at hq;subst hq;simp only[zF,e,List.any_nil,cond_false]
  | cons x t ih =>
   intro q fuel hq hf;obtain⟨fuel,rfl⟩: ∃m,fuel=m+1:=⟨fuel-1,by omega⟩
   have hx:l.getD q.length d=x:=by
    subst hq;rw[zkH (by simp)]; simp
   have hs:=h q.length (by rw[← hq]; simp);rw[hx]at hs;cases hp:p x
   ·rw[hp]at hs
    have:=ih (q++ [x]) fuel (by rw[← hq]; simp) (by simp at hf; omega);simp only[List.length_append,List.length_cons,List.length_nil]at this;simp only[zF,hs,cond_false];simp only[List.any_cons,hp,Bool.false_or,List.takeWhile_cons,Bool.not_false,if_true,List.length_cons];rw[show q.length+((t.takeWhile (fun x=> !p x)).length+1)=q.length+(0+1)+(t.takeWhile (fun x=> !p x)).length by omega];exact this
   ·rw[hp]at hs
    simp only[zF,hs,cond_true,List.any_cons,hp,Bool.true_or,List.takeWhile_cons,Bool.not_true,Bool.false_eq_true,if_false,List.length_nil,Nat.add_zero]
 have:=this l [] fuel rfl hf;simpa using this
theorem yIc (a0:List Int) (a1:Int) (hk:zjw yhr (a0,a1,())):ykC a0 a1=(fun n=>some ((n,()),())) (yeV a0 a1):=by
 have hb:a0.length*8≤2^47:=hk.1.1
 have h1:yi5 (yFw a0 a1 a0.length)=some (bif a0.any (· ==a1)then .inr (ypO ((a0.takeWhile (fun x=> !(x==a1))).length:Int))else .inl yFu) :=
  y1j (step:=yaP) a0 0 (fun i=>yiC a0 a1 a0.length i) (· ==a1) (fun i=> .inr (ypO (i:Int))) _ (fun i hi=>by
   simp only[yaP,yiC,yiF,zkw (show(i:Int)<a0.length by omega),cond_true,wq ((i:Int)+1) (by omega) (by omega),Int.natCast_add,Int.natCast_one,Int.toNat_natCast,zkP hi,zkQ];rw[show(a1==a0.getD i 0)=(a0.getD i 0==a1)by rw[Bool.eq_iff_iff,beq_iff_eq,beq_iff_eq]; exact eq_comm]
   cases(a0.getD i 0==a1)<;>rfl) (by simp only[yaP,yiC,yiF,zk1 (Int.le_refl _),cond_false]) _ (by show _<18446744073709551616; omega)
 unfold ykC yeV yVh;rw[h1];cases a0.any (· ==a1)<;>rfl
def ytw:Con:=⟨yhr,ymS,fun x=>(fun n=>some ((n,()),())) (yeV x.1 x.2.1)⟩
theorem yIj:ConOk prog 201 ytw:=(yHe).mono (fun x r hk h=>(yIc x.1 x.2.1 hk).trans h)
def yFC:Code:=(f157.body).getD .skip
def yFP:Env:=zku TT [(201,ytw)] []
theorem yCM:FrOk prog ⟨yFP,9,fun _=>none⟩ yFC:=zky yg yh ⟨yIj,trivial⟩
abbrev ye3:List Par:= [.rd tL,.rd tI]
abbrev yjn:List OT:= [⟨false,tB,.fz⟩]
def yhb (a0:List Int) (a1:Int):Option (zaY yjn×zak ye3) :=let r1:=yeV a0 a1;some (((leb 0 r1),()),())
theorem yDK:ConOk prog 157 ⟨ye3,yjn,fun x=>yhb x.1 x.2.1⟩:=zkG (yCM) func157 ntmps157.symm fun x=>by kernel_rfl
def ycV (a0:List Int) (a1:Int):Bool:=a0.any (· ==a1)
theorem yFy (a0:List Int) (a1:Int) (hk:zjw ye3 (a0,a1,())):yhb a0 a1=(fun n=>some ((n,()),())) (ycV a0 a1):=by
 unfold yhb ycV yeV yVh;cases a0.any (· ==a1)
 ·rfl
 ·simp only[cond_true]
  rw[zk0 (show(0:Int)≤((a0.takeWhile (· !=a1)).length:Int)by omega)]
def yow:Con:=⟨ye3,yjn,fun x=>(fun n=>some ((n,()),())) (ycV x.1 x.2.1)⟩
theorem yFz:ConOk prog 157 yow:=(yDK).mono (fun x r hk h=>(yFy x.1 x.2.1 hk).trans h)
def yQF:Code:=(f158.body).getD .skip
def yQ6:Env:=zku TT [] []
theorem yI2:FrOk prog ⟨yQ6,6,fun _=>none⟩ yQF:=zky yg yh trivial
abbrev ylZ:List Par:= [.rd tL]
abbrev ys3:List OT:= [⟨false,tL,(.ow .fz)⟩]
def ypj (a0:List Int):Option (zaY ys3×zak ylZ) :=bif(zkj ([]:List Int).length a0.length 8)then some (((([]:List Int)++a0),()),()) else none
theorem yMo:ConOk prog 158 ⟨ylZ,ys3,fun x=>ypj x.1⟩:=zkG (yI2) func158 ntmps158.symm fun x=>by kernel_rfl
def yB (a0:List Int):List Int:=a0
theorem yPj (a0:List Int) (hk:zjw ylZ (a0,())):ypj a0=(fun n=>some ((n,()),())) (yB a0):=by
 have hb:a0.length*8≤2^47:=hk.1.1;unfold ypj yB;rw[show zkj ([]:List Int).length a0.length 8=true by rw[zkD,List.length_nil]; omega];rfl
def ya5:Con:=⟨ylZ,ys3,fun x=>(fun n=>some ((n,()),())) (yB x.1)⟩
theorem ycN:ConOk prog 158 ya5:=(yMo).mono (fun x r hk h=>(yPj x.1 hk).trans h)
def ynJ:Code:=(f87.body).getD .skip
def yvt:Env:=zku TT [(127,yek),(156,ymn),(157,yow),(158,ya5)] []
theorem yLh:FrOk prog ⟨yvt,49,fun _=>none⟩ ynJ:=zky yg yh ⟨yhj,ywk,yFz,ycN,trivial⟩
def yA9:Nat→Option Seg:=fun _=>none
def ybS:Shape:=⟨[(1,false,[.int .i64]),(6,false,[.br tI]),(34,false,[.br tW]),(35,false,[.int .i64]),(36,false,[.int .i64])],[],[]⟩
def yfI:Shape:=⟨[(1,false,[.int .i64]),(6,false,[.br tI]),(34,false,[.br tW]),(35,false,[.int .i64]),(36,false,[.ci .i64 0])],[],[]⟩
def yfw:Shape:=⟨[(6,false,[.br tI])],[],[]⟩
def yiP:Shape:=⟨[],[],[]⟩
abbrev ym5 (v0:Int) (v1:List Int) (v2:List dW) (v3 v4:Int):(ybS).X:=(((v0,()),(v1,()),(v2,()),(v3,()),(v4,()),()),(),())
abbrev yJF (v0:Int) (v1:List Int) (v2:List dW) (v3:Int):(yfI).X:=(((v0,()),(v1,()),(v2,()),(v3,()),((),()),()),(),())
abbrev yxN (v0:List Int):(yfw).X:=(((v0,()),()),(),())
def ynu (v0:Int) (v1:List Int) (v2:List dW) (v3 v4:Int):Option ((ybS).X ⊕ ((yfw).X ⊕ (yiP).X)) :=bif(ltb v4 v3)then bif(inb v4 v2.length)then bif((nth v2 v4 (0,[])).1==v0)then some (.inl (((v0,()),((nth v2 v4 (0,[])).2,()),(v2,()),(v3,()),((i64.wrap (v4+1)),()),()),(),())) else some (.inl (((v0,()),(v1,()),(v2,()),(v3,()),((i64.wrap (v4+1)),()),()),(),())) else none else some (.inr (.inl (((v1,()),()),(),())))
def ycb (x:(ybS).X):=ynu x.1.1.1 x.1.2.1.1 x.1.2.2.1.1 x.1.2.2.2.1.1 x.1.2.2.2.2.1.1
def yxk (x:(yfI).X):(ybS).X:=(((x.1.1.1,()),(x.1.2.1.1,()),(x.1.2.2.1.1,()),(x.1.2.2.2.1.1,()),(0,()),()),(),())
def yzH:Code:=(zeJ ynJ 64 244).getD .skip
theorem yK0:zeJ ynJ 64 61=some (.block 0 (.loop yzH)):=by kernel_rfl
theorem yMN (x:(ybS).X):zhu ⟨yvt,49,yA9⟩ 0 yzH 244 ybS yfw yiP x=ycb x:=by kernel_rfl
def yxz (x:(yfI).X):Nat:=18446744073709551616
def yoC (x:(yfI).X):Option ((yfw).X ⊕ (yiP).X):=zF ycb (yxz x) (yxk x)
def yxZ:Seg:=⟨yfI,yfw,yiP,yoC⟩
def yNi:Nat→Option Seg:=fun q=>bif Nat.beq q 61 then some yxZ else yA9 q
theorem yLi:FrOk prog ⟨yvt,49,yNi⟩ ynJ:=(yLh).loop (sg:=yxZ) ybS yxk (by decide) yK0 ycb yxz (by decide) (fun _=>rfl) (fun x r _ h=>h) yMN
abbrev ynU:List Par:= [.rd tM,.rd tI]
abbrev yvS:List OT:= [⟨false,tL,(.ow .fz)⟩,⟨false,tB,.fz⟩]
def yrg (a0:dM) (a1:Int):Option (zaY yvS×zak ynU) :=let r1:=yat a0;bif(!(!r1))then bif(!a0.2.2.1)then let r2:=ybC a0 a1;bif(!(!r2))then let r3:=ycV a0.2.2.2 a1;bif r3 then some (([],false,()),()) else bif(inb a1 a0.1.length)then zkr (yoC (((a1,()),((nth a0.1 a1 []),()),(a0.2.1,()),((a0.2.1.length:Int),()),((),()),()),(),())) (fun y3 =>let r5:=yB y3.1.1.1;some ((r5,true,()),())) (fun y3 =>none) else none else some (([],false,()),()) else some (([],false,()),()) else some (([],false,()),())
theorem yPA:ConOk prog 87 ⟨ynU,yvS,fun x=>yrg x.1 x.2.1⟩:=zkG (yLi) func87 ntmps87.symm fun x=>by kernel_rfl
def ybF (a0:dM) (a1:Int):List Int×Bool:=yN a0 a1
theorem ySD (a0:dM) (a1:Int) (hk:zjw ynU (a0,a1,())):yrg a0 a1=(fun n=>some ((n.1,n.2,()),())) (ybF a0 a1):=by
 have hb1:a0.1.length*24≤2^47:=hk.1.1.1;have hb2:a0.2.1.length*32≤2^47:=hk.1.2.1.1
 have h1: ∀s,yoC (yJF a1 s a0.2.1 a0.2.1.length)=some (.inl (yxN (ygU a1 a0.2.1 s))):=fun s =>
  zkv (step:=ycb) a0.2.1 (0,[]) (fun i s=>ym5 a1 s a0.2.1 a0.2.1.length i) (fun s w=>bif w.1==a1 then w.2 else s) (fun _ _=>True) (fun s=> .inl (yxN s)) (fun i s hi _=>⟨by
   simp only[ycb,ym5,ynu,zkw (show(i:Int)<a0.2.1.length by omega),cond_true,wq ((i:Int)+1) (by omega) (by omega),Int.natCast_add,Int.natCast_one,Int.toNat_natCast,zkP hi,zkQ]
   cases((a0.2.1.getD i (0,[])).1==a1)<;>rfl,trivial⟩) (fun s _=>by simp only[ycb,ym5,ynu,zk1 (Int.le_refl _),cond_false]) s trivial _ (by show _<18446744073709551616; omega)
 unfold yrg ybF yN yrO ybC;rw[yau,ymZ (show a0.1.length≤1152921504606846976 by omega)];unfold yat ycV yB;simp only[h1,zkL];cases yu a0
 ·rfl
 cases a0.2.2.1
 ·cases inb a1 a0.1.length
  ·rfl
  ·cases a0.2.2.2.any (· ==a1)<;>rfl
 ·rfl
def yko:Con:=⟨ynU,yvS,fun x=>(fun n=>some ((n.1,n.2,()),())) (ybF x.1 x.2.1)⟩
theorem yt7:ConOk prog 87 yko:=(yPA).mono (fun x r hk h=>(ySD x.1 x.2.1 hk).trans h)
def yUr:Code:=(f195.body).getD .skip
def yUR:Env:=zku TT [(82,yL),(150,yf7)] []
theorem yLB:FrOk prog ⟨yUR,60,fun _=>none⟩ yUr:=zky yg yh ⟨yS,ylc,trivial⟩
abbrev yvL:List Par:= [.rd tS]
abbrev yv4:List OT:= [⟨false,tB,.fz⟩]
def yDp (a0:dS):Option (zaY yv4×zak yvL) :=let r1:=ye (a0.2.2.2.1,a0.2.2.2.2.1);bif(!(!r1))then let r2:=yb a0.1 1 60000;bif(!(!r2))then let r3:=yb a0.2.1 0 60000;bif(!(!r3))then let r4:=yb a0.2.2.1 0 (i64.wrap (a0.2.2.2.1-1));bif(!(!r4))then let r5:=yb a0.2.2.2.2.2.1 0 60000;bif(!r5)then some ((false,()),()) else let r6:=yb a0.2.2.2.2.2.2.1 (-1) (i64.wrap (a0.2.2.2.1-1));bif r6 then let r7:=yb a0.2.2.2.2.2.2.2 0 a0.2.2.2.2.1;bif r7 then bif(!(leb 0 a0.2.2.2.2.2.2.1))then some (((a0.2.2.2.2.2.2.2==0),()),()) else some ((true,()),()) else some ((false,()),()) else some ((false,()),()) else some ((false,()),()) else some ((false,()),()) else some ((false,()),()) else some ((false,()),())
theorem yPN:ConOk prog 195 ⟨yvL,yv4,fun x=>yDp x.1⟩:=zkG (yLB) func195 ntmps195.symm fun x=>by kernel_rfl
def yD (a0:dS):Bool :=let r1:=ye (a0.2.2.2.1,a0.2.2.2.2.1);bif(!(!r1))then let r2:=yb a0.1 1 60000;bif(!(!r2))then let r3:=yb a0.2.1 0 60000;bif(!(!r3))then let r4:=yb a0.2.2.1 0 (i64.wrap (a0.2.2.2.1-1));bif(!(!r4))then let r5:=yb a0.2.2.2.2.2.1 0 60000;bif(!r5)then false else let r6:=yb a0.2.2.2.2.2.2.1 (-1) (i64.wrap (a0.2.2.2.1-1));bif r6 then let r7:=yb a0.2.2.2.2.2.2.2 0 a0.2.2.2.2.1;bif r7 then bif(!(leb 0 a0.2.2.2.2.2.2.1))then (a0.2.2.2.2.2.2.2==0) else true else false else false else false else false else false else false
def yCq:Con:=⟨yvL,yv4,fun x=>(fun n=>some ((n,()),())) (yD x.1)⟩
theorem ySP (a0:dS):yDp a0=(fun n=>some ((n,()),())) (yD a0):=zkT (p:=fun(n:Bool)=>((n,()),())) (zkE (p:=fun(n:Bool)=>((n,()),())) (zkE (p:=fun(n:Bool)=>((n,()),())) (zkE (p:=fun(n:Bool)=>((n,()),())) (zkE (p:=fun(n:Bool)=>((n,()),())) (zkE (p:=fun(n:Bool)=>((n,()),())) rfl (zkE (p:=fun(n:Bool)=>((n,()),())) (zkE (p:=fun(n:Bool)=>((n,()),())) (zkE (p:=fun(n:Bool)=>((n,()),())) rfl rfl) rfl) rfl)) rfl) rfl) rfl) rfl)
theorem yTN:ConOk prog 195 yCq:=(yPN).mono (fun x r _ h=>(ySP x.1).trans h)
abbrev yeo:dS:=(0,0,0,0,0,0,0,0)
theorem ywV {s:dS}:yD s=true↔ye (s.2.2.2.1,s.2.2.2.2.1)=true∧(1≤s.1∧s.1≤60000)∧(0≤s.2.1∧s.2.1≤60000)∧(0≤s.2.2.1∧s.2.2.1≤s.2.2.2.1-1)∧(0≤s.2.2.2.2.2.1∧s.2.2.2.2.2.1≤60000)∧(-1≤s.2.2.2.2.2.2.1∧s.2.2.2.2.2.2.1≤s.2.2.2.1-1)∧(0≤s.2.2.2.2.2.2.2∧s.2.2.2.2.2.2.2≤s.2.2.2.2.1)∧(0≤s.2.2.2.2.2.2.1∨s.2.2.2.2.2.2.2=0):=by
 unfold yD;cases hg:ye (s.2.2.2.1,s.2.2.2.2.1)
 ·simp
 have hg2:=yn.1 hg;simp only at hg2;rw[wq (s.2.2.2.1-1) (by omega) (by omega)];simp only[Bool.not_not,cond_true,true_and];simp only[← ytR];cases yb s.1 1 60000
 ·simp
 cases yb s.2.1 0 60000
 ·simp
 cases yb s.2.2.1 0 (s.2.2.2.1-1)
 ·simp
 cases yb s.2.2.2.2.2.1 0 60000
 ·simp
 cases yb s.2.2.2.2.2.2.1 (-1) (s.2.2.2.1-1)
 ·simp
 cases yb s.2.2.2.2.2.2.2 0 s.2.2.2.2.1
 ·simp
 cases hl:leb 0 s.2.2.2.2.2.2.1
 ·have:=mt zk0 (by rw[hl]; simp: ¬leb 0 s.2.2.2.2.2.2.1=true)
  simp[this]
 ·simp[zj5.1 hl]
def yGK (l:List Int):dS:=(nth l 1 0,nth l 2 0,nth l 3 0,nth l 4 0,nth l 5 0,nth l 6 0,i64.wrap (nth l 7 0-1),nth l 8 0)
def yel (l:List Int):dS×Bool:=bif(l.length:Int)==9&&(nth l 0 0==21317&&yD (yGK l))then(yGK l,true)else(yeo,false)
def yFq (m:dM) (i:Int):dS:=(yel (yN m i).1).1
def ypG (m:dM) (id i:Int):Bool:=(yN m i).2&&((yel (yN m i).1).2&&((yFq m i).1==id&&(yFq m i).2.1.tmod 2==i))
def ykT (b:dS×Bool) (ok:Bool) (s:dS):dS×Bool:=bif ok&&(!b.2||ltb b.1.2.1 s.2.1)then(s,true)else b
def yan (m:dM) (id:Int):dS×Bool:=(List.range 2).foldl (fun s (i:Nat)=>ykT s (ypG m id i) (yFq m i)) (yeo,false)
def yg8 (m:dM) (i id:Int):Bool:= !m.2.2.1&&((yan m id).2&&(yan m id).1.2.2.1==i)
def ydu (l:List dM) (id:Int):dS×Bool:=(List.range l.length).foldl (fun s (i:Nat)=>ykT s (yg8 (nth l i yc) i id) (yan (nth l i yc) id).1) (yeo,false)
def yjr (l:List dM) (id:Int) (s:Int×Int×Bool) (i:Nat):Int×Int×Bool:=bif yg8 (nth l i yc) i id then s else bif s.1== -1||s.1==i then((i:Int),0,s.2.2)else(s.1,s.2.1,true)
def ytl (b:dS) (l:List dM) (id:Int) (s:Int×Int×Bool):dA:=(id,(b.2.2.2.1,b.2.2.2.2.1),l,s.1,s.2.1,b.2.2.2.2.2.1,b.2.2.2.2.2.1,b.2.1,[],-1,false,s.2.2)
def yFU (l:List dM) (id:Int):dA:=ytl (ydu l id).1 l id ((List.range l.length).foldl (yjr l id) ((ydu l id).1.2.2.2.2.2.2.1,(ydu l id).1.2.2.2.2.2.2.2,false))
def yfl (l:List dM) (id:Int):dA×Bool:=bif(ydu l id).2&&((l.length:Int)==(ydu l id).1.2.2.2.1&&yal (yFU l id))then(yFU l id,true)else(yaB,false)
theorem y2q (b:dS×Bool) (s:dS):ykT b false s=b:=rfl
theorem y0y {m:dM} {i:Int} (h:(yN m i).2=true):yu m=true:=by
 unfold yN at h;cases hc:yrO m i
 ·rw[hc]at h; cases h
 ·exact(Bool.and_eq_true_iff.1 hc).1
theorem y2r {m:dM} {id i:Int} (h:yu m=false):ypG m id i=false:=by
 unfold ypG;cases hr:(yN m i).2
 ·rfl
 ·rw[y0y hr]at h; cases h
theorem y2p {m:dM} {id:Int} (h:(yan m id).2=true):yu m=true:=by
 cases hm:yu m
 ·unfold yan at h
  simp only[y2r hm,y2q]at h;exact h
 ·rfl
def yUl:Code:=(f212.body).getD .skip
def yUL:Env:=zku TT [(81,yO),(123,yjs),(125,ytu)] []
theorem yLk:FrOk prog ⟨yUL,44,fun _=>none⟩ yUl:=zky yg yh ⟨yaa,yqt,yGq,trivial⟩
abbrev yvG:List Par:= [.rd tS]
abbrev yvU:List OT:= [⟨false,tB,.fz⟩]
def yDl (a0:dS):Option (zaY yvU×zak yvG) :=let r1:=yj a0.1 1 60000;bif r1 then let r2:=yj a0.2.1 0 60000;bif r2 then let r3:=yj a0.2.2.2.2.2.1 0 60000;bif r3 then let r4:=ydw (a0.2.2.2.1,a0.2.2.2.2.1);bif r4 then let r5:=yj a0.2.2.1 0 (i64.wrap (a0.2.2.2.1-1));bif r5 then let r6:=yfq (a0.2.2.2.1,a0.2.2.2.2.1) a0.2.2.2.2.2.2.1 a0.2.2.2.2.2.2.2;some ((r6,()),()) else some ((false,()),()) else some ((false,()),()) else some ((false,()),()) else some ((false,()),()) else some ((false,()),())
theorem yPC:ConOk prog 212 ⟨yvG,yvU,fun x=>yDl x.1⟩:=zkG (yLk) func212 ntmps212.symm fun x=>by kernel_rfl
def yem (a0:dS):Bool :=let r1:=yj a0.1 1 60000;bif r1 then let r2:=yj a0.2.1 0 60000;bif r2 then let r3:=yj a0.2.2.2.2.2.1 0 60000;bif r3 then let r4:=ydw (a0.2.2.2.1,a0.2.2.2.2.1);bif r4 then let r5:=yj a0.2.2.1 0 (i64.wrap (a0.2.2.2.1-1));bif r5 then let r6:=yfq (a0.2.2.2.1,a0.2.2.2.2.1) a0.2.2.2.2.2.2.1 a0.2.2.2.2.2.2.2;r6 else false else false else false else false else false
def yqP:Con:=⟨yvG,yvU,fun x=>(fun n=>some ((n,()),())) (yem x.1)⟩
theorem ySF (a0:dS):yDl a0=(fun n=>some ((n,()),())) (yem a0):=zkT (p:=fun(n:Bool)=>((n,()),())) (zkE (p:=fun(n:Bool)=>((n,()),())) (zkE (p:=fun(n:Bool)=>((n,()),())) (zkE (p:=fun(n:Bool)=>((n,()),())) (zkE (p:=fun(n:Bool)=>((n,()),())) (zkE (p:=fun(n:Bool)=>((n,()),())) rfl rfl) rfl) rfl) rfl) rfl)
theorem yEP:ConOk prog 212 yqP:=(yPC).mono (fun x r _ h=>(ySF x.1).trans h)
theorem yHA (s:dS):yem s=yD s:=by
 rw[Bool.eq_iff_iff,ywV];unfold yem yfq;simp only[yJo,yau];cases hg:ye (s.2.2.2.1,s.2.2.2.2.1)
 ·cases yb s.1 1 60000<;>cases yb s.2.1 0 60000<;>cases yb s.2.2.2.2.2.1 0 60000<;>simp
 have hg2:=yn.1 hg;simp only at hg2;rw[wq (s.2.2.2.1-1) (by omega) (by omega)];simp only[← ytR];cases yb s.1 1 60000
 ·simp
 cases yb s.2.1 0 60000
 ·simp
 cases yb s.2.2.2.2.2.1 0 60000
 ·simp
 cases yb s.2.2.1 0 (s.2.2.2.1-1)
 ·simp
 cases hl:yb s.2.2.2.2.2.2.1 (-1) (s.2.2.2.1-1)
 ·simp
 cases yb s.2.2.2.2.2.2.2 0 s.2.2.2.2.1
 ·simp
 have:=ytR.1 hl;by_cases h0:s.2.2.2.2.2.2.2=0
 ·simp[h0]
 ·simp[h0]; omega
def yQA:Code:=(f198.body).getD .skip
def yQ1:Env:=zku TT [(212,yqP)] []
theorem yIX:FrOk prog ⟨yQ1,46,fun _=>none⟩ yQA:=zky yg yh ⟨yEP,trivial⟩
abbrev ylV:List Par:= [.rd tL]
abbrev ysY:List OT:= [⟨false,tS,(.pr .fz (.pr .fz (.pr .fz (.pr .fz (.pr .fz (.pr .fz (.pr .fz .fz)))))))⟩,⟨false,tB,.fz⟩]
def ypf (a0:List Int):Option (zaY ysY×zak ylV) :=bif(!((a0.length:Int) !=9))then bif(inb 0 a0.length)then bif((nth a0 0 0) !=21317)then some (((0,0,0,0,0,0,0,0),false,()),()) else bif(inb 1 a0.length)then bif(inb 2 a0.length)then bif(inb 3 a0.length)then bif(inb 4 a0.length)then bif(inb 5 a0.length)then bif(inb 6 a0.length)then bif(inb 7 a0.length)then bif(inb 8 a0.length)then let r1:=yem ((nth a0 1 0),(nth a0 2 0),(nth a0 3 0),(nth a0 4 0),(nth a0 5 0),(nth a0 6 0),(i64.wrap ((nth a0 7 0)-1)),(nth a0 8 0));bif(!r1)then some (((0,0,0,0,0,0,0,0),false,()),()) else some ((((nth a0 1 0),(nth a0 2 0),(nth a0 3 0),(nth a0 4 0),(nth a0 5 0),(nth a0 6 0),(i64.wrap ((nth a0 7 0)-1)),(nth a0 8 0)),true,()),()) else none else none else none else none else none else none else none else none else none else some (((0,0,0,0,0,0,0,0),false,()),())
theorem yMj:ConOk prog 198 ⟨ylV,ysY,fun x=>ypf x.1⟩:=zkG (yIX) func198 ntmps198.symm fun x=>by kernel_rfl
def yin (a0:List Int):dS×Bool:=yel a0
theorem yPe (a0:List Int) (hk:zjw ylV (a0,())):ypf a0=(fun n=>some ((n.1,n.2,()),())) (yin a0):=by
 unfold ypf yin yel;by_cases h:(a0.length:Int)=9
 ·simp only[bne,h,yHA,beq_self_eq_true,zj4.2 (show(0:Int)≤0∧(0:Int)<a0.length by omega),zj4.2 (show(0:Int)≤1∧(1:Int)<a0.length by omega),zj4.2 (show(0:Int)≤2∧(2:Int)<a0.length by omega),zj4.2 (show(0:Int)≤3∧(3:Int)<a0.length by omega),zj4.2 (show(0:Int)≤4∧(4:Int)<a0.length by omega),zj4.2 (show(0:Int)≤5∧(5:Int)<a0.length by omega),zj4.2 (show(0:Int)≤6∧(6:Int)<a0.length by omega),zj4.2 (show(0:Int)≤7∧(7:Int)<a0.length by omega),zj4.2 (show(0:Int)≤8∧(8:Int)<a0.length by omega)]
  rw[show yD (nth a0 1 0,nth a0 2 0,nth a0 3 0,nth a0 4 0,nth a0 5 0,nth a0 6 0,i64.wrap (nth a0 7 0-1),nth a0 8 0)=yD (yGK a0)from rfl];cases(nth a0 0 0==21317)<;>cases yD (yGK a0)<;>rfl
 ·rw[show((a0.length:Int) !=9)=true from bne_iff_ne.2 h,show((a0.length:Int)==9)=false from beq_eq_false_iff_ne.2 h]; rfl
def yzV:Con:=⟨ylV,ysY,fun x=>(fun n=>some ((n.1,n.2,()),())) (yin x.1)⟩
theorem yP1:ConOk prog 198 yzV:=(yMj).mono (fun x r hk h=>(yPe x.1 hk).trans h)
def yj6:Code:=(f148.body).getD .skip
def yqz:Env:=zku TT [(87,yko),(198,yzV)] []
theorem yHW:FrOk prog ⟨yqz,60,fun _=>none⟩ yj6:=zky yg yh ⟨yt7,yP1,trivial⟩
def ywX:Nat→Option Seg:=fun _=>none
def ya8:Shape:=⟨[(1,false,[.int .i64]),(2,false,[.ptr 0 0]),(4,false,[.ptr 64 0]),(6,false,[.ptr 4160 0]),(7,false,[.bool]),(14,false,[.int .i64])],[(0,[.br tL,.br tW,.bool,.br tI]),(64,[.int .i64,.int .i64,.int .i64,.int .i64,.int .i64,.int .i64,.int .i64,.int .i64]),(4160,[.int .i64,.int .i64,.int .i64,.int .i64,.int .i64,.int .i64,.int .i64,.int .i64])],[]⟩
def yd9:Shape:=⟨[(1,false,[.int .i64]),(2,false,[.ptr 0 0]),(4,false,[.ptr 64 0]),(6,false,[.ptr 4160 0]),(7,false,[.cb false]),(14,false,[.ci .i64 0])],[(0,[.br tL,.br tW,.bool,.br tI]),(64,[.int .i64,.int .i64,.int .i64,.int .i64,.int .i64,.int .i64,.int .i64,.int .i64]),(4160,[.int .i64,.int .i64,.int .i64,.int .i64,.int .i64,.int .i64,.int .i64,.int .i64])],[]⟩
def yd3:Shape:=⟨[(4,false,[.ptr 64 0]),(6,false,[.ptr 4160 0]),(7,false,[.bool])],[(64,[.int .i64,.int .i64,.int .i64,.int .i64,.int .i64,.int .i64,.int .i64,.int .i64]),(4160,[.int .i64,.int .i64,.int .i64,.int .i64,.int .i64,.int .i64,.int .i64,.int .i64])],[]⟩
def yg3:Shape:=⟨[],[],[]⟩
abbrev ykt (v0:Int) (v1:Bool) (v2:Int) (v3:dM) (v4 v5:dS):(ya8).X:=(((v0,()),((),()),((),()),((),()),(v1,()),(v2,()),()),((v3.1,v3.2.1,v3.2.2.1,v3.2.2.2,()),(v4.1,v4.2.1,v4.2.2.1,v4.2.2.2.1,v4.2.2.2.2.1,v4.2.2.2.2.2.1,v4.2.2.2.2.2.2.1,v4.2.2.2.2.2.2.2,()),(v5.1,v5.2.1,v5.2.2.1,v5.2.2.2.1,v5.2.2.2.2.1,v5.2.2.2.2.2.1,v5.2.2.2.2.2.2.1,v5.2.2.2.2.2.2.2,()),()),())
abbrev yG8 (v0:Int) (v1:dM) (v2 v3:dS):(yd9).X:=(((v0,()),((),()),((),()),((),()),((),()),((),()),()),((v1.1,v1.2.1,v1.2.2.1,v1.2.2.2,()),(v2.1,v2.2.1,v2.2.2.1,v2.2.2.2.1,v2.2.2.2.2.1,v2.2.2.2.2.2.1,v2.2.2.2.2.2.2.1,v2.2.2.2.2.2.2.2,()),(v3.1,v3.2.1,v3.2.2.1,v3.2.2.2.1,v3.2.2.2.2.1,v3.2.2.2.2.2.1,v3.2.2.2.2.2.2.1,v3.2.2.2.2.2.2.2,()),()),())
abbrev yG3 (v0:Bool) (v1 v2:dS):(yd3).X:=((((),()),((),()),(v0,()),()),((v1.1,v1.2.1,v1.2.2.1,v1.2.2.2.1,v1.2.2.2.2.1,v1.2.2.2.2.2.1,v1.2.2.2.2.2.2.1,v1.2.2.2.2.2.2.2,()),(v2.1,v2.2.1,v2.2.2.1,v2.2.2.2.1,v2.2.2.2.2.1,v2.2.2.2.2.2.1,v2.2.2.2.2.2.2.1,v2.2.2.2.2.2.2.2,()),()),())
def ykI (v0:Int) (v1:Bool) (v2:Int) (v3:List (List Int)) (v4:List dW) (v5:Bool) (v6:List Int) (v7 v8 v9 v10 v11 v12 v13 v14 v15 v16 v17 v18 v19 v20 v21 v22:Int):Option ((ya8).X ⊕ ((yd3).X ⊕ (yg3).X)) :=bif(ltb v2 2)then let r3:=ybF (v3,v4,v5,v6) v2;let r4:=yin r3.1;bif r3.2 then bif r4.2 then bif(r4.1.1==v0)then bif((r4.1.2.1.tmod 2)==v2)then bif(!(!v1))then bif(ltb v16 r4.1.2.1)then some (.inl (((v0,()),((),()),((),()),((),()),(true,()),((i64.wrap (v2+1)),()),()),((v3,v4,v5,v6,()),(v7,v8,v9,v10,v11,v12,v13,v14,()),(r4.1.1,r4.1.2.1,r4.1.2.2.1,r4.1.2.2.2.1,r4.1.2.2.2.2.1,r4.1.2.2.2.2.2.1,r4.1.2.2.2.2.2.2.1,r4.1.2.2.2.2.2.2.2,()),()),())) else some (.inl (((v0,()),((),()),((),()),((),()),(v1,()),((i64.wrap (v2+1)),()),()),((v3,v4,v5,v6,()),(v7,v8,v9,v10,v11,v12,v13,v14,()),(v15,v16,v17,v18,v19,v20,v21,v22,()),()),())) else some (.inl (((v0,()),((),()),((),()),((),()),(true,()),((i64.wrap (v2+1)),()),()),((v3,v4,v5,v6,()),(v7,v8,v9,v10,v11,v12,v13,v14,()),(r4.1.1,r4.1.2.1,r4.1.2.2.1,r4.1.2.2.2.1,r4.1.2.2.2.2.1,r4.1.2.2.2.2.2.1,r4.1.2.2.2.2.2.2.1,r4.1.2.2.2.2.2.2.2,()),()),())) else some (.inl (((v0,()),((),()),((),()),((),()),(v1,()),((i64.wrap (v2+1)),()),()),((v3,v4,v5,v6,()),(v7,v8,v9,v10,v11,v12,v13,v14,()),(v15,v16,v17,v18,v19,v20,v21,v22,()),()),())) else some (.inl (((v0,()),((),()),((),()),((),()),(v1,()),((i64.wrap (v2+1)),()),()),((v3,v4,v5,v6,()),(v7,v8,v9,v10,v11,v12,v13,v14,()),(v15,v16,v17,v18,v19,v20,v21,v22,()),()),())) else some (.inl (((v0,()),((),()),((),()),((),()),(v1,()),((i64.wrap (v2+1)),()),()),((v3,v4,v5,v6,()),(v7,v8,v9,v10,v11,v12,v13,v14,()),(v15,v16,v17,v18,v19,v20,v21,v22,()),()),())) else some (.inl (((v0,()),((),()),((),()),((),()),(v1,()),((i64.wrap (v2+1)),()),()),((v3,v4,v5,v6,()),(v7,v8,v9,v10,v11,v12,v13,v14,()),(v15,v16,v17,v18,v19,v20,v21,v22,()),()),())) else some (.inr (.inl ((((),()),((),()),(v1,()),()),((v7,v8,v9,v10,v11,v12,v13,v14,()),(v15,v16,v17,v18,v19,v20,v21,v22,()),()),())))
def ybn (x:(ya8).X):=ykI x.1.1.1 x.1.2.2.2.2.1.1 x.1.2.2.2.2.2.1.1 x.2.1.1.1 x.2.1.1.2.1 x.2.1.1.2.2.1 x.2.1.1.2.2.2.1 x.2.1.2.1.1 x.2.1.2.1.2.1 x.2.1.2.1.2.2.1 x.2.1.2.1.2.2.2.1 x.2.1.2.1.2.2.2.2.1 x.2.1.2.1.2.2.2.2.2.1 x.2.1.2.1.2.2.2.2.2.2.1 x.2.1.2.1.2.2.2.2.2.2.2.1 x.2.1.2.2.1.1 x.2.1.2.2.1.2.1 x.2.1.2.2.1.2.2.1 x.2.1.2.2.1.2.2.2.1 x.2.1.2.2.1.2.2.2.2.1 x.2.1.2.2.1.2.2.2.2.2.1 x.2.1.2.2.1.2.2.2.2.2.2.1 x.2.1.2.2.1.2.2.2.2.2.2.2.1
def ytF (x:(yd9).X):(ya8).X:=(((x.1.1.1,()),((),()),((),()),((),()),(false,()),(0,()),()),((x.2.1.1.1,x.2.1.1.2.1,x.2.1.1.2.2.1,x.2.1.1.2.2.2.1,()),(x.2.1.2.1.1,x.2.1.2.1.2.1,x.2.1.2.1.2.2.1,x.2.1.2.1.2.2.2.1,x.2.1.2.1.2.2.2.2.1,x.2.1.2.1.2.2.2.2.2.1,x.2.1.2.1.2.2.2.2.2.2.1,x.2.1.2.1.2.2.2.2.2.2.2.1,()),(x.2.1.2.2.1.1,x.2.1.2.2.1.2.1,x.2.1.2.2.1.2.2.1,x.2.1.2.2.1.2.2.2.1,x.2.1.2.2.1.2.2.2.2.1,x.2.1.2.2.1.2.2.2.2.2.1,x.2.1.2.2.1.2.2.2.2.2.2.1,x.2.1.2.2.1.2.2.2.2.2.2.2.1,()),()),())
def yuH:Code:=(zeJ yj6 64 116).getD .skip
theorem yHN:zeJ yj6 64 29=some (.block 0 (.loop yuH)):=by kernel_rfl
theorem yIn (x:(ya8).X):zhu ⟨yqz,60,ywX⟩ 0 yuH 116 ya8 yd3 yg3 x=ybn x:=by kernel_rfl
def ytN (x:(yd9).X):Nat:=18446744073709551616
def yll (x:(yd9).X):Option ((yd3).X ⊕ (yg3).X):=zF ybn (ytN x) (ytF x)
def yuw:Seg:=⟨yd9,yd3,yg3,yll⟩
def yIt:Nat→Option Seg:=fun q=>bif Nat.beq q 29 then some yuw else ywX q
theorem yHX:FrOk prog ⟨yqz,60,yIt⟩ yj6:=(yHW).loop (sg:=yuw) ya8 ytF (by decide) yHN ybn ytN (by decide) (fun _=>rfl) (fun x r _ h=>h) yIn
abbrev ykb:List Par:= [.rd tM,.rd tI]
abbrev yqM:List OT:= [⟨false,tS,(.pr .fz (.pr .fz (.pr .fz (.pr .fz (.pr .fz (.pr .fz (.pr .fz .fz)))))))⟩,⟨false,tB,.fz⟩]
def ynn (a0:dM) (a1:Int):Option (zaY yqM×zak ykb) :=zkr (yll (((a1,()),((),()),((),()),((),()),((),()),((),()),()),((a0.1,a0.2.1,a0.2.2.1,a0.2.2.2,()),(0,0,0,0,0,0,0,0,()),(0,0,0,0,0,0,0,0,()),()),())) (fun y4 =>some (((y4.2.1.2.1.1,y4.2.1.2.1.2.1,y4.2.1.2.1.2.2.1,y4.2.1.2.1.2.2.2.1,y4.2.1.2.1.2.2.2.2.1,y4.2.1.2.1.2.2.2.2.2.1,y4.2.1.2.1.2.2.2.2.2.2.1,y4.2.1.2.1.2.2.2.2.2.2.2.1),y4.1.2.2.1.1,()),())) (fun y4 =>none)
theorem yJ0:ConOk prog 148 ⟨ykb,yqM,fun x=>ynn x.1 x.2.1⟩:=zkG (yHX) func148 ntmps148.symm fun x=>by kernel_rfl
def ygO (a0:dM) (a1:Int):dS×Bool:=yan a0 a1
theorem yMc (a0:dM) (a1:Int) (hk:zjw ykb (a0,a1,())):ynn a0 a1=(fun n=>some ((n.1,n.2,()),())) (ygO a0 a1):=by
 have h1:=zkB (step:=ybn) 2 (fun i s=>ykt a1 s.2 i a0 yeo s.1) (fun(s:dS×Bool) (i:Nat)=>ykT s (ypG a0 a1 i) (yFq a0 i)) (fun _ _=>True) (fun s=> .inl (yG3 s.2 yeo s.1)) (fun i s hi _=>⟨by
  simp only[ybn,ykt,ykI,zkw (show(i:Int)<2 by omega),cond_true,wq ((i:Int)+1) (by omega) (by omega),Int.natCast_add,Int.natCast_one,Int.toNat_natCast,zkV,ybF,yin];unfold ypG ykT yFq
  cases(yN a0 i).2<;>cases(yel (yN a0 i).1).2<;>cases((yel (yN a0 i).1).1.1==a1)<;>cases((yel (yN a0 i).1).1.2.1.tmod 2==(i:Int))<;>cases hf:s.2<;>cases ltb s.1.2.1 (yel (yN a0 i).1).1.2.1<;>simp only[Bool.not_true,Bool.not_false,cond_true,cond_false,Bool.and_true,Bool.true_and,Bool.false_and,Bool.and_false,Bool.or_true,Bool.true_or,Bool.false_or,Bool.or_false,hf],trivial⟩) (fun s _=>by simp only[ybn,ykt,ykI]; rfl) (yeo,false) trivial 18446744073709551616 (by omega)
 unfold ynn ygO;rw[show yll (yG8 a1 a0 yeo yeo)=_ from h1]; rfl
def yxd:Con:=⟨ykb,yqM,fun x=>(fun n=>some ((n.1,n.2,()),())) (ygO x.1 x.2.1)⟩
theorem yMG:ConOk prog 148 yxd:=(yJ0).mono (fun x r hk h=>(yMc x.1 x.2.1 hk).trans h)
def yQH:Code:=(f73.body).getD .skip
def yQ8:Env:=zku TT [(127,yek),(148,yxd)] []
theorem yI6:FrOk prog ⟨yQ8,35,fun _=>none⟩ yQH:=zky yg yh ⟨yhj,yMG,trivial⟩
abbrev yl1:List Par:= [.rd tM,.rd tI,.rd tI]
abbrev ys6:List OT:= [⟨false,tS,(.pr .fz (.pr .fz (.pr .fz (.pr .fz (.pr .fz (.pr .fz (.pr .fz .fz)))))))⟩,⟨false,tB,.fz⟩]
def ypl (a0:dM) (a1 a2:Int):Option (zaY ys6×zak yl1) :=let r1:=ygO a0 a2;let r2:=yat a0;bif(!(!r2))then bif(!a0.2.2.1)then bif(!(!r1.2))then bif(r1.1.2.2.1 !=a1)then some (((0,0,0,0,0,0,0,0),false,()),()) else some ((r1.1,true,()),()) else some (((0,0,0,0,0,0,0,0),false,()),()) else some (((0,0,0,0,0,0,0,0),false,()),()) else some (((0,0,0,0,0,0,0,0),false,()),())
theorem yMr:ConOk prog 73 ⟨yl1,ys6,fun x=>ypl x.1 x.2.1 x.2.2.1⟩:=zkG (yI6) func73 ntmps73.symm fun x=>by kernel_rfl
def ydz (a0:dM) (a1 a2:Int):dS×Bool:=bif yg8 a0 a1 a2 then((yan a0 a2).1,true)else(yeo,false)
theorem yPm (a0:dM) (a1 a2:Int) (hk:zjw yl1 (a0,a1,a2,())):ypl a0 a1 a2=(fun n=>some ((n.1,n.2,()),())) (ydz a0 a1 a2):=by
 unfold ypl ydz yg8;simp only[ygO,yat,bne];cases hb:(yan a0 a2).2
 ·cases yu a0<;>cases a0.2.2.1<;>rfl
 ·rw[y2p hb]
  cases a0.2.2.1<;>cases((yan a0 a2).1.2.2.1==a1)<;>rfl
def yz0:Con:=⟨yl1,ys6,fun x=>(fun n=>some ((n.1,n.2,()),())) (ydz x.1 x.2.1 x.2.2.1)⟩
theorem yP6:ConOk prog 73 yz0:=(yMr).mono (fun x r hk h=>(yPm x.1 x.2.1 x.2.2.1 hk).trans h)
def yef:Code:=(f133.body).getD .skip
def yi4:Env:=zku TT [(158,ya5)] []
theorem yLn:FrOk prog ⟨yi4,49,fun _=>none⟩ yef:=zky yg yh ⟨ycN,trivial⟩
def yBb:Nat→Option Seg:=fun _=>none
def ybU:Shape:=⟨[(1,false,[.ptr 0 0]),(2,false,[.ptr 64 0]),(3,false,[.ptr 4480 0]),(15,false,[.br tL]),(16,false,[.int .i64]),(17,false,[.int .i64])],[(0,[.br tL,.br tW,.bool,.br tI]),(64,[.nil,.nil,.bool,.nil]),(4480,[.at 800000001,.nil,.bool,.at 800000000])],[(800000001,tL,(.ow .fz)),(800000000,tI,.fz)]⟩
def yfK:Shape:=⟨[(1,false,[.ptr 0 0]),(2,false,[.ptr 64 0]),(3,false,[.ptr 4480 0]),(15,false,[.br tL]),(16,false,[.int .i64]),(17,false,[.ci .i64 0])],[(0,[.br tL,.br tW,.bool,.br tI]),(64,[.nil,.nil,.bool,.nil]),(4480,[.at 800000001,.nil,.bool,.at 800000000])],[(800000001,tL,(.ow .fz)),(800000000,tI,.fz)]⟩
def yfy:Shape:=⟨[(1,false,[.ptr 0 0]),(2,false,[.ptr 64 0]),(3,false,[.ptr 4480 0])],[(0,[.br tL,.br tW,.bool,.br tI]),(64,[.nil,.nil,.bool,.nil]),(4480,[.at 800000000,.nil,.bool,.at 800000001])],[(800000000,tL,(.ow .fz)),(800000001,tI,.fz)]⟩
def yiR:Shape:=⟨[],[],[]⟩
abbrev ym7 (v0:List (List Int)) (v1 v2:Int) (v3 v4 v5:dM):(ybU).X:=((((),()),((),()),((),()),(v0,()),(v1,()),(v2,()),()),((v3.1,v3.2.1,v3.2.2.1,v3.2.2.2,()),((),(),v4.2.2.1,(),()),((),(),v5.2.2.1,(),()),()),(v5.1,v5.2.2.2,()))
abbrev yJH (v0:List (List Int)) (v1:Int) (v2 v3 v4:dM):(yfK).X:=((((),()),((),()),((),()),(v0,()),(v1,()),((),()),()),((v2.1,v2.2.1,v2.2.2.1,v2.2.2.2,()),((),(),v3.2.2.1,(),()),((),(),v4.2.2.1,(),()),()),(v4.1,v4.2.2.2,()))
abbrev yxO (v0 v1 v2:dM):(yfy).X:=((((),()),((),()),((),()),()),((v0.1,v0.2.1,v0.2.2.1,v0.2.2.2,()),((),(),v1.2.2.1,(),()),((),(),v2.2.2.1,(),()),()),(v2.1,v2.2.2.2,()))
def ynw (v0:List (List Int)) (v1 v2:Int) (v3:List (List Int)) (v4:List dW) (v5:Bool) (v6:List Int) (v7 v8:Bool) (v9:List (List Int)) (v10:List Int):Option ((ybU).X ⊕ ((yfy).X ⊕ (yiR).X)) :=bif(ltb v2 v1)then bif(inb v2 v0.length)then let r4:=yB (nth v0 v2 []);bif(zkj v9.length ([r4]:List (List Int)).length 24)then some (.inl ((((),()),((),()),((),()),(v0,()),(v1,()),((i64.wrap (v2+1)),()),()),((v3,v4,v5,v6,()),((),(),v7,(),()),((),(),v8,(),()),()),((v9++([r4]:List (List Int))),v10,()))) else none else none else some (.inr (.inl ((((),()),((),()),((),()),()),((v3,v4,v5,v6,()),((),(),v7,(),()),((),(),v8,(),()),()),(v9,v10,()))))
def ycd (x:(ybU).X):=ynw x.1.2.2.2.1.1 x.1.2.2.2.2.1.1 x.1.2.2.2.2.2.1.1 x.2.1.1.1 x.2.1.1.2.1 x.2.1.1.2.2.1 x.2.1.1.2.2.2.1 x.2.1.2.1.2.2.1 x.2.1.2.2.1.2.2.1 x.2.2.1 x.2.2.2.1
def yxm (x:(yfK).X):(ybU).X:=((((),()),((),()),((),()),(x.1.2.2.2.1.1,()),(x.1.2.2.2.2.1.1,()),(0,()),()),((x.2.1.1.1,x.2.1.1.2.1,x.2.1.1.2.2.1,x.2.1.1.2.2.2.1,()),((),(),x.2.1.2.1.2.2.1,(),()),((),(),x.2.1.2.2.1.2.2.1,(),()),()),(x.2.2.1,x.2.2.2.1,()))
def yzJ:Code:=(zeJ yef 64 116).getD .skip
theorem yK2:zeJ yef 64 29=some (.block 0 (.loop yzJ)):=by kernel_rfl
theorem yMP (x:(ybU).X):zhu ⟨yi4,49,yBb⟩ 0 yzJ 116 ybU yfy yiR x=ycd x:=by kernel_rfl
def yxB (x:(yfK).X):Nat:=18446744073709551616
def yoE (x:(yfK).X):Option ((yfy).X ⊕ (yiR).X):=zF ycd (yxB x) (yxm x)
def yx1:Seg:=⟨yfK,yfy,yiR,yoE⟩
def yqy:Nat→Option Seg:=fun q=>bif Nat.beq q 29 then some yx1 else yBb q
theorem yLo:FrOk prog ⟨yi4,49,yqy⟩ yef:=(yLn).loop (sg:=yx1) ybU yxm (by decide) yK2 ycd yxB (by decide) (fun _=>rfl) (fun x r _ h=>h) yMP
def ybV:Shape:=⟨[(2,false,[.ptr 64 0]),(3,false,[.ptr 4480 0]),(30,false,[.br tW]),(31,false,[.int .i64]),(32,false,[.int .i64])],[(64,[.nil,.nil,.bool,.nil]),(4480,[.at 800000000,.at 800000002,.bool,.at 800000001])],[(800000000,tL,(.ow .fz)),(800000002,tW,(.pr .fz (.ow .fz))),(800000001,tI,.fz)]⟩
def yfL:Shape:=⟨[(2,false,[.ptr 64 0]),(3,false,[.ptr 4480 0]),(30,false,[.br tW]),(31,false,[.int .i64]),(32,false,[.ci .i64 0])],[(64,[.nil,.nil,.bool,.nil]),(4480,[.at 800000000,.at 800000002,.bool,.at 800000001])],[(800000000,tL,(.ow .fz)),(800000002,tW,(.pr .fz (.ow .fz))),(800000001,tI,.fz)]⟩
def yfz:Shape:=⟨[(2,false,[.ptr 64 0]),(3,false,[.ptr 4480 0])],[(64,[.nil,.nil,.bool,.nil]),(4480,[.at 800000000,.at 800000001,.bool,.at 800000002])],[(800000000,tL,(.ow .fz)),(800000001,tW,(.pr .fz (.ow .fz))),(800000002,tI,.fz)]⟩
def yiS:Shape:=⟨[],[],[]⟩
abbrev ym8 (v0:List dW) (v1 v2:Int) (v3 v4:dM):(ybV).X:=((((),()),((),()),(v0,()),(v1,()),(v2,()),()),(((),(),v3.2.2.1,(),()),((),(),v4.2.2.1,(),()),()),(v4.1,v4.2.1,v4.2.2.2,()))
abbrev yJI (v0:List dW) (v1:Int) (v2 v3:dM):(yfL).X:=((((),()),((),()),(v0,()),(v1,()),((),()),()),(((),(),v2.2.2.1,(),()),((),(),v3.2.2.1,(),()),()),(v3.1,v3.2.1,v3.2.2.2,()))
abbrev yxP (v0 v1:dM):(yfz).X:=((((),()),((),()),()),(((),(),v0.2.2.1,(),()),((),(),v1.2.2.1,(),()),()),(v1.1,v1.2.1,v1.2.2.2,()))
def ynx (v0:List dW) (v1 v2:Int) (v3 v4:Bool) (v5:List (List Int)) (v6:List dW) (v7:List Int):Option ((ybV).X ⊕ ((yfz).X ⊕ (yiS).X)) :=bif(ltb v2 v1)then bif(inb v2 v0.length)then let r8:=yB ((nth v0 v2 (0,[])).2);bif(zkj v6.length ([((nth v0 v2 (0,[])).1,r8)]:List dW).length 32)then some (.inl ((((),()),((),()),(v0,()),(v1,()),((i64.wrap (v2+1)),()),()),(((),(),v3,(),()),((),(),v4,(),()),()),(v5,(v6++([((nth v0 v2 (0,[])).1,r8)]:List dW)),v7,()))) else none else none else some (.inr (.inl ((((),()),((),()),()),(((),(),v3,(),()),((),(),v4,(),()),()),(v5,v6,v7,()))))
def yce (x:(ybV).X):=ynx x.1.2.2.1.1 x.1.2.2.2.1.1 x.1.2.2.2.2.1.1 x.2.1.1.2.2.1 x.2.1.2.1.2.2.1 x.2.2.1 x.2.2.2.1 x.2.2.2.2.1
def yxn (x:(yfL).X):(ybV).X:=((((),()),((),()),(x.1.2.2.1.1,()),(x.1.2.2.2.1.1,()),(0,()),()),(((),(),x.2.1.1.2.2.1,(),()),((),(),x.2.1.2.1.2.2.1,(),()),()),(x.2.2.1,x.2.2.2.1,x.2.2.2.2.1,()))
def yzK:Code:=(zeJ yef 64 244).getD .skip
theorem yK3:zeJ yef 64 61=some (.block 2 (.loop yzK)):=by kernel_rfl
theorem yMQ (x:(ybV).X):zhu ⟨yi4,49,yqy⟩ 2 yzK 244 ybV yfz yiS x=yce x:=by kernel_rfl
def yxC (x:(yfL).X):Nat:=18446744073709551616
def yoF (x:(yfL).X):Option ((yfz).X ⊕ (yiS).X):=zF yce (yxC x) (yxn x)
def yx2:Seg:=⟨yfL,yfz,yiS,yoF⟩
def yNk:Nat→Option Seg:=fun q=>bif Nat.beq q 61 then some yx2 else yqy q
theorem yLp:FrOk prog ⟨yi4,49,yNk⟩ yef:=(yLo).loop (sg:=yx2) ybV yxn (by decide) yK3 yce yxC (by decide) (fun _=>rfl) (fun x r _ h=>h) yMQ
abbrev ynX:List Par:= [.rd tM]
abbrev yvW:List OT:= [⟨false,tM,(.pr (.ow (.ow .fz)) (.pr (.ow (.pr .fz (.ow .fz))) (.pr .fz (.ow .fz))))⟩]
def yrj (a0:dM):Option (zaY yvW×zak ynX) :=let r1:=yB a0.2.2.2;zkr (yoE ((((),()),((),()),((),()),(a0.1,()),((a0.1.length:Int),()),((),()),()),((a0.1,a0.2.1,a0.2.2.1,a0.2.2.2,()),((),(),false,(),()),((),(),a0.2.2.1,(),()),()),([],r1,()))) (fun y4 =>zkr (yoF ((((),()),((),()),(y4.2.1.1.2.1,()),((y4.2.1.1.2.1.length:Int),()),((),()),()),(((),(),y4.2.1.2.1.2.2.1,(),()),((),(),y4.2.1.2.2.1.2.2.1,(),()),()),(y4.2.2.1,[],y4.2.2.2.1,()))) (fun y8 =>some (((y8.2.2.1,y8.2.2.2.1,y8.2.1.2.1.2.2.1,y8.2.2.2.2.1),()),())) (fun y8 =>none)) (fun y4 =>none)
theorem yPE:ConOk prog 133 ⟨ynX,yvW,fun x=>yrj x.1⟩:=zkG (yLp) func133 ntmps133.symm fun x=>by kernel_rfl
def yaJ (a0:dM):dM:=a0
theorem ySH (a0:dM) (hk:zjw ynX (a0,())):yrj a0=(fun n=>some ((n,()),())) (yaJ a0):=by
 have hb1:a0.1.length*24≤2^47:=hk.1.1.1;have hb2:a0.2.1.length*32≤2^47:=hk.1.2.1.1
 have h1:yoE (yJH a0.1 a0.1.length a0 yc ([],[],a0.2.2.1,a0.2.2.2))=some (.inl (yxO a0 yc (a0.1,[],a0.2.2.1,a0.2.2.2))):=by
  have:=zkv (step:=ycd) a0.1 [] (fun i s=>ym7 a0.1 a0.1.length i a0 yc (s,[],a0.2.2.1,a0.2.2.2)) (fun s x=>s++ [x]) (fun i s=>s.length=i) (fun s=> .inl (yxO a0 yc (s,[],a0.2.2.1,a0.2.2.2))) (fun i s hi hs2=>⟨by
   simp only[ycd,ym7,ynw,zkw (show(i:Int)<a0.1.length by omega),cond_true,wq ((i:Int)+1) (by omega) (by omega),Int.natCast_add,Int.natCast_one,Int.toNat_natCast,zkP hi,zkQ,yB]
   rw[zkD.2 (show(s.length+ [a0.1.getD i []].length)*24≤140737488355328 by simp only[List.length_cons,List.length_nil]; omega)]; rfl,by simp[hs2]⟩) (fun s _=>by simp only[ycd,ym7,ynw,zk1 (Int.le_refl _),cond_false]) [] rfl 18446744073709551616 (by omega)
  rw[ywg]at this;exact this
 have h2:yoF (yJI a0.2.1 a0.2.1.length yc (a0.1,[],a0.2.2.1,a0.2.2.2))=some (.inl (yxP yc a0)):=by
  have:=zkv (step:=yce) a0.2.1 (0,[]) (fun i s=>ym8 a0.2.1 a0.2.1.length i yc (a0.1,s,a0.2.2.1,a0.2.2.2)) (fun s x=>s++ [x]) (fun i s=>s.length=i) (fun s=> .inl (yxP yc (a0.1,s,a0.2.2.1,a0.2.2.2))) (fun i s hi hs2=>⟨by
   simp only[yce,ym8,ynx,zkw (show(i:Int)<a0.2.1.length by omega),cond_true,wq ((i:Int)+1) (by omega) (by omega),Int.natCast_add,Int.natCast_one,Int.toNat_natCast,zkP hi,zkQ,yB,zkV]
   rw[zkD.2 (show(s.length+ [a0.2.1.getD i (0,[])].length)*32≤140737488355328 by simp only[List.length_cons,List.length_nil]; omega)]; rfl,by simp[hs2]⟩) (fun s _=>by simp only[yce,ym8,ynx,zk1 (Int.le_refl _),cond_false]) [] rfl 18446744073709551616 (by omega)
  rw[ywg]at this;exact this
 unfold yrj yaJ;simp only[yB,h1,zkL,h2]
def ygL:Con:=⟨ynX,yvW,fun x=>(fun n=>some ((n,()),())) (yaJ x.1)⟩
theorem ymy:ConOk prog 133 ygL:=(yPE).mono (fun x r hk h=>(ySH x.1 hk).trans h)
def ylN:Code:=(f74.body).getD .skip
def ysl:Env:=zku TT [(133,ygL)] []
theorem yI3:FrOk prog ⟨ysl,20,fun _=>none⟩ ylN:=zky yg yh ⟨ymy,trivial⟩
def yzz:Nat→Option Seg:=fun _=>none
def ybx:Shape:=⟨[(3,false,[.at 800000000]),(7,false,[.br tM]),(8,false,[.int .i64]),(9,false,[.int .i64])],[],[(800000000,tM,(.pr (.ow (.ow .fz)) (.pr (.ow (.pr .fz (.ow .fz))) (.pr .fz (.ow .fz)))))]⟩
def yeN:Shape:=⟨[(3,false,[.at 800000000]),(7,false,[.br tM]),(8,false,[.int .i64]),(9,false,[.ci .i64 0])],[],[(800000000,tM,(.pr (.ow (.ow .fz)) (.pr (.ow (.pr .fz (.ow .fz))) (.pr .fz (.ow .fz)))))]⟩
def yeF:Shape:=⟨[(3,false,[.at 800000000])],[],[(800000000,tM,(.pr (.ow (.ow .fz)) (.pr (.ow (.pr .fz (.ow .fz))) (.pr .fz (.ow .fz)))))]⟩
def yh7:Shape:=⟨[],[],[]⟩
abbrev ylv (v0:List dM) (v1 v2:Int) (v3:List dM):(ybx).X:=((((),()),(v0,()),(v1,()),(v2,()),()),(),(v3,()))
abbrev yH8 (v0:List dM) (v1:Int) (v2:List dM):(yeN).X:=((((),()),(v0,()),(v1,()),((),()),()),(),(v2,()))
abbrev yH1 (v0:List dM):(yeF).X:=((((),()),()),(),(v0,()))
def ylH (v0:List dM) (v1 v2:Int) (v3:List dM):Option ((ybx).X ⊕ ((yeF).X ⊕ (yh7).X)) :=bif(ltb v2 v1)then bif(inb v2 v0.length)then let r2:=yaJ ((nth v0 v2 ([],[],false,[])).1,((nth v0 v2 ([],[],false,[])).2).1,(((nth v0 v2 ([],[],false,[])).2).2));bif(zkj v3.length ([r2]:List dM).length 80)then some (.inl ((((),()),(v0,()),(v1,()),((i64.wrap (v2+1)),()),()),(),((v3++([r2]:List dM)),()))) else none else none else some (.inr (.inl ((((),()),()),(),(v3,()))))
def ybL (x:(ybx).X):=ylH x.1.2.1.1 x.1.2.2.1.1 x.1.2.2.2.1.1 x.2.2.1
def yuT (x:(yeN).X):(ybx).X:=((((),()),(x.1.2.1.1,()),(x.1.2.2.1.1,()),(0,()),()),(),(x.2.2.1,()))
def yw6:Code:=(zeJ ylN 64 116).getD .skip
theorem yIB:zeJ ylN 64 29=some (.block 0 (.loop yw6)):=by kernel_rfl
theorem yKg (x:(ybx).X):zhu ⟨ysl,20,yzz⟩ 0 yw6 116 ybx yeF yh7 x=ybL x:=by kernel_rfl
def yu2 (x:(yeN).X):Nat:=18446744073709551616
def ymI (x:(yeN).X):Option ((yeF).X ⊕ (yh7).X):=zF ybL (yu2 x) (yuT x)
def yvi:Seg:=⟨yeN,yeF,yh7,ymI⟩
def yKP:Nat→Option Seg:=fun q=>bif Nat.beq q 29 then some yvi else yzz q
theorem yI4:FrOk prog ⟨ysl,20,yKP⟩ ylN:=(yI3).loop (sg:=yvi) ybx yuT (by decide) yIB ybL yu2 (by decide) (fun _=>rfl) (fun x r _ h=>h) yKg
abbrev yl0:List Par:= [.rd tMs]
abbrev ys4:List OT:= [⟨false,tMs,(.ow (.pr (.ow (.ow .fz)) (.pr (.ow (.pr .fz (.ow .fz))) (.pr .fz (.ow .fz)))))⟩]
def ypk (a0:List dM):Option (zaY ys4×zak yl0) :=zkr (ymI ((((),()),(a0,()),((a0.length:Int),()),((),()),()),(),(([]:List dM),()))) (fun y2 =>some ((y2.2.2.1,()),())) (fun y2 =>none)
theorem yMp:ConOk prog 74 ⟨yl0,ys4,fun x=>ypk x.1⟩:=zkG (yI4) func74 ntmps74.symm fun x=>by kernel_rfl
def ye9 (a0:List dM):List dM:=a0
theorem yPk (a0:List dM) (hk:zjw yl0 (a0,())):ypk a0=(fun n=>some ((n,()),())) (ye9 a0):=by
 have hb:a0.length*80≤2^47:=hk.1.1
 have h1:=zkv (step:=ybL) a0 yc (fun i s=>ylv a0 a0.length i s) (fun s x=>s++ [x]) (fun i s=>s.length=i) (fun s=> .inl (yH1 s)) (fun i s hi hs=>⟨by
   simp only[ybL,ylv,ylH,zkw (show(i:Int)<a0.length by omega),cond_true,wq ((i:Int)+1) (by omega) (by omega),Int.natCast_add,Int.natCast_one,Int.toNat_natCast,zkP hi,zkQ,yaJ,zkV]
   rw[zkD.2 (show(s.length+ [a0.getD i ([],[],false,[])].length)*80≤140737488355328 by simp only[List.length_cons,List.length_nil]; omega)]; rfl,by simp[hs]⟩) (fun s hs=>by simp only[ybL,ylv,ylH,zk1 (Int.le_refl _),cond_false]) [] rfl 18446744073709551616 (by omega)
 rw[ywg]at h1;unfold ypk ye9;rw[show ymI (yH8 a0 a0.length [])=_ from h1]; rfl
def yoU:Con:=⟨yl0,ys4,fun x=>(fun n=>some ((n,()),())) (ye9 x.1)⟩
theorem yDd:ConOk prog 74 yoU:=(yMp).mono (fun x r hk h=>(yPk x.1 hk).trans h)
end
end Go.Tf
