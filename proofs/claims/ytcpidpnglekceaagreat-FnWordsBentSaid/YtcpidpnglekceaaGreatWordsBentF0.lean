/- Functions of the program, and what they come to. -/
import Derived.Test.YtcpidpnglekceaaGreatWordsBentTt
namespace Go.Tf
noncomputable section
open Go.Proofs
set_option synthInstance.maxHeartbeats 400000
set_option synthInstance.maxSize 10000
set_option linter.unusedVariables false
set_option linter.unusedSimpArgs false
set_option maxRecDepth 100000
section
def yGP:Code:=(Tryz.f15.body).getD .skip
def yHf:Env:=zki TT [] []
theorem yNu:FrOk Tryz.prog ⟨yHf,6,fun _=>none⟩ yGP:=zkp ye yf trivial
def yOh:Nat→Option Seg:=fun _=>none
abbrev yps:List Par:= [.rd tYs]
abbrev ytw:List OT:= [⟨false,tB,.fz⟩]
def yvi (a0:List Int):Option (ResD ytw×MutD yps) :=
  some (((ltb 1048576 (a0.length:Int)),()),())
theorem yPD (x:InD yps):zjH ⟨yHf,6,yOh⟩ Tryz.f15.results.toList yGP yps ytw x=yvi x.1:=by kernel_rfl
theorem yOZ:ConOk Tryz.prog 15 ⟨yps,ytw,fun x=>yvi x.1⟩:=zkh (yNu) Tryz.func15 (by kernel_rfl) (by kernel_rfl) Tryz.ntmps15.symm (by decide) (fun x r h=>(yPD x).trans h)
def ytz (a0:List Int):Bool :=
  (ltb 1048576 (a0.length:Int))
def yBs:Con:=⟨yps,ytw,fun x=>(fun n=>some ((n,()),())) (ytz x.1)⟩
theorem yPk (a0:List Int):yvi a0=(fun n=>some ((n,()),())) (ytz a0):=zkS (p:=fun (n:Bool)=>((n,()),())) rfl
theorem yPl:ConOk Tryz.prog 15 yBs:=(yOZ).mono (fun x r _ h=>(yPk x.1).trans h)
def yas {α:Type} (p:α→Bool) (l:List α):Int:=bif l.any p then ((l.takeWhile (fun x=> !p x)).length:Int) else -1
theorem yMD {α:Type} (p:α→Bool):yas p []= -1:=rfl
theorem yty {α:Type} (p:α→Bool) (x:α) (l:List α):yas p (x::l)=bif p x then 0 else bif leb 0 (yas p l) then yas p l+1 else -1:=by
  unfold yas
  rw [List.any_cons,List.takeWhile_cons]
  cases p x
  · cases l.any p
    · rfl
    · simp only [Bool.false_or,Bool.not_false,if_true,cond_true,cond_false,List.length_cons]
      rw [zk0 (show (0:Int)≤((l.takeWhile (fun x=> !p x)).length:Int) by omega),cond_true]; omega
  · simp
theorem yuZ {α:Type} {p:α→Bool} {d:α}: ∀ {l:List α},leb 0 (yas p l)=true→inb (yas p l) l.length=true∧p (nth l (yas p l) d)=true
  | [],h=>by rw [yMD]at h; cases h
  | x::l,h=>by
    rw [yty]at h ⊢
    cases hx:p x
    · rw [hx]at h
      cases hl:leb 0 (yas p l)
      · rw [hl]at h; cases h
      · obtain ⟨h1,h2⟩:=yuZ (d:=d) hl
        have h3:=zjP.1 h1
        have h4:=zjQ.1 hl
        simp only [cond_false,cond_true,List.length_cons]
        refine ⟨zjP.2 (by omega),?_⟩
        unfold nth at h2 ⊢
        rw [show (yas p l+1).toNat=(yas p l).toNat+1 by omega,List.getD_cons_succ]
        exact h2
    · simp only [cond_true,List.length_cons]
      refine ⟨zjP.2 (by omega),?_⟩
      exact hx
theorem yP7 {A B α:Type} {step:A→Option (A ⊕ B)} (l:List α) (d:α) (f:Nat→A) (p:α→Bool) (b:Int→B) (c:B)
    (h: ∀ i,i < l.length→step (f i)=some (bif p (l.getD i d) then .inr (b i) else .inl (f (i+1)))) (e:step (f l.length)=some (.inr c)) (fuel:Nat) (hf:l.length < fuel) :
    zr step fuel (f 0)=some (bif leb 0 (yas p l) then b (yas p l) else c):=by
  have: ∀ (t q:List α) (fuel:Nat),q++t=l→t.length < fuel→zr step fuel (f q.length)=some (bif leb 0 (yas p t) then b (q.length+yas p t) else c):=by
    intro t
    induction t with
    | nil =>
      intro q fuel hq hf
      obtain ⟨fuel,rfl⟩: ∃ m,fuel=m+1:=⟨fuel - 1,by omega⟩
      rw [List.append_nil]at hq
      subst hq
      simp only [zr,e]; rfl
    | cons x t ih =>
      intro q fuel hq hf
      obtain ⟨fuel,rfl⟩: ∃ m,fuel=m+1:=⟨fuel - 1,by omega⟩
      have hx:l.getD q.length d=x:=by
        subst hq
        rw [zcq (by simp)]; simp
      have hs:=h q.length (by rw [← hq]; simp)
      rw [hx]at hs
      rw [yty]
      cases hp:p x
      · rw [hp]at hs
        have:=ih (q++ [x]) fuel (by rw [← hq]; simp) (by simp at hf; omega)
        simp only [List.length_append,List.length_cons,List.length_nil]at this
        simp only [zr,hs,cond_false]
        rw [show q.length+1=q.length+(0+1) by omega,this]
        cases hl:leb 0 (yas p t)
        · rfl
        · have:=zjQ.1 hl
          rw [cond_true,cond_true,zk0 (show 0≤yas p t+1 by omega),cond_true]
          congr 2; omega
      · rw [hp]at hs
        simp only [zr,hs,cond_true]
        rw [zk0 (Int.le_refl 0),cond_true,Int.add_zero]
  have:=this l [] fuel rfl hf
  simpa using this
theorem yp3 {α β:Type} (f:α→β): ∀ (l:List α) (s:List β),l.foldl (fun s i=>s++ [f i]) s=s++l.map f
  | [],s=>by simp
  | x::l,s=>by rw [List.foldl_cons,yp3 f l]; simp
theorem yOQ {α:Type} (l:List α):l.foldl (fun s i=>s++ [i]) []=l:=by
  have:=yp3 id l []
  simpa using this
theorem yQf {α:Type} (l:List α) (d:α) {i:Nat} (h:i < l.length):l.take i++ [nth l i d]=l.take (i+1):=by rw [zjW,zcq h,List.take_append_getElem h]
def ya3 (e:dW) (s:Bool×List dW) (x:dW):Bool×List dW:=(s.1||leb e.1 x.1,(bif !s.1&&leb e.1 x.1 then s.2++ [e] else s.2)++(bif x.1 !=e.1 then [x] else []))
def yCf (l:List dW) (e:dW):List dW:=bif (l.foldl (ya3 e) (false,[])).1 then (l.foldl (ya3 e) (false,[])).2 else (l.foldl (ya3 e) (false,[])).2++ [e]
def yzq (a:dA) (l:List dW):dA:=(a.1,a.2.1,a.2.2.1,a.2.2.2.1,a.2.2.2.2.1,a.2.2.2.2.2.1,a.2.2.2.2.2.2.1,a.2.2.2.2.2.2.2.1,l,a.2.2.2.2.2.2.2.2.2)
def yza (m:dM):Nat:=(m.1.map (fun x:List Int=>x.length)).sum+(m.2.1.map (fun x:dW=>1+x.2.length)).sum+1+m.2.2.2.length
def yOg (l:List dM):Nat:=(l.map yza).sum
def yQJ (l:List dW):Nat:=(l.map (fun x:dW=>1+x.2.length)).sum
def ysk (a:dA):Nat:=yOg a.2.2.1+yQJ a.2.2.2.2.2.2.2.2.1
abbrev yg:dM:=([],[],false,[])
def isW (x:Int):Bool:=leb 0 x&&leb x 65535
def yR (s:List Int):Bool:=leb (s.length:Int) 12&&s.all isW
theorem yKW {x:Int}:isW x=true↔0≤x∧x≤65535:=by simp [isW,zjQ]
theorem yr9 {s:List Int}:yR s=true↔s.length≤12∧ ∀ x∈s,0≤x∧x≤65535:=by
  simp only [yR,Bool.and_eq_true,zjQ,List.all_eq_true,yKW]
  constructor
  · rintro ⟨h1,h2⟩; exact ⟨by omega,h2⟩
  · rintro ⟨h1,h2⟩; exact ⟨by omega,h2⟩
theorem yPq: ∀ {l:List Int},l.Pairwise (· < ·)↔ ∀ i,i+1 < l.length→l.getD i 0 < l.getD (i+1) 0
  | []=>by simp
  | [x]=>by simp
  | x::y::l=>by
    have ih:=yPq (l:=y::l)
    constructor
    · intro h i hi
      cases h with
      | cons h1 h2 =>
        cases i with
        | zero=>exact h1 y List.mem_cons_self
        | succ i=>exact ih.1 h2 i (by simpa using hi)
    · intro h
      have h2:(y::l).Pairwise (· < ·):=ih.2 fun i hi=>h (i+1) (by simpa using hi)
      refine .cons (fun z hz=> ?_) h2
      have h3:x < y:=h 0 (by simp)
      rcases List.mem_cons.1 hz with rfl | hz
      · exact h3
      · cases h2 with
        | cons h4 _=>exact Int.lt_trans h3 (h4 z hz)
def ylI (n:Nat) (l:List Int):Bool:=l.all (fun x=>inb x n)&&decide (l.Pairwise (· < ·))
def yqB (n:Nat) (w:dW):Bool:=inb w.1 n&&yR w.2
def yz (m:dM):Bool:=m.1.all yR&&m.2.1.all (yqB m.1.length)&&ylI m.1.length m.2.2.2&&leb 1 (m.1.length:Int)&&leb (m.1.length:Int) 20&&leb (m.2.1.length:Int) 60
def ywn (n:Nat) (l:List Int) (i:Nat):Bool:= !(inb (l.getD i 0) n)||(decide (0 < i)&&leb (l.getD i 0) (l.getD (i - 1) 0))
theorem yMs (n:Nat) (l:List Int):(List.range l.length).any (ywn n l)= !(ylI n l):=by
  rw [Bool.eq_iff_iff,List.any_eq_true,Bool.not_eq_true',ylI,Bool.and_eq_false_iff,decide_eq_false_iff_not,yPq,List.all_eq_false]
  simp only [List.mem_range,ywn,Bool.or_eq_true,Bool.not_eq_true',Bool.and_eq_true,decide_eq_true_eq,zjQ]
  constructor
  · rintro ⟨i,hi,h | ⟨h1,h2⟩⟩
    · exact .inl ⟨l[i],List.getElem_mem hi,by rw [zcq hi]at h; simp [h]⟩
    · refine .inr fun h3=> ?_
      have:=h3 (i - 1) (by omega)
      rw [show i - 1+1=i by omega]at this
      omega
  · rintro (⟨x,hx,h⟩ | h)
    · obtain ⟨i,hi,rfl⟩:=List.getElem_of_mem hx
      exact ⟨i,hi,.inl (by rw [zcq hi]; simpa using h)⟩
    · refine Classical.byContradiction fun hc=>h fun i hi=> ?_
      refine Classical.byContradiction fun h4=>hc ⟨i+1,hi,.inr ⟨by omega,?_⟩⟩
      rw [Nat.add_sub_cancel]; omega
def yyO (n:Int) (c:List dW) (s:List Int):List Int:=c.foldl (fun s w=>bif w.1==n then w.2 else s) s
def yym (m:dM) (n:Int):Bool:=yz m&&(!m.2.2.1&&(inb n m.1.length&& !(m.2.2.2.any (· ==n))))
def yjx (m:dM) (n:Int):List Int×Bool:=bif yym m n then (yyO n m.2.1 (nth m.1 n []),true) else ([],false)
theorem yzj {P:List Int→Prop} {n:Int}: ∀ {c:List dW} {s:List Int},P s→(∀ w∈c,P w.2)→P (yyO n c s)
  | [],_,h,_=>h
  | w::c,s,h,hc=>yzj (c:=c) (zkM (hc w List.mem_cons_self) h) (fun x hx=>hc x (List.mem_cons_of_mem _ hx))
theorem yyP {α:Type} {P:α→Prop} {l:List α} {i:Int} {d:α} (h:inb i l.length=true) (hl: ∀ x∈l,P x):P (nth l i d):=by
  obtain ⟨h1,h2⟩:=zjP.1 h
  unfold nth
  rw [zcq (show i.toNat < l.length by omega)]
  exact hl _ (List.getElem_mem _)
theorem yQS {α:Type} {p:α→Bool} {l:List α} (h:leb 0 (yas p l)=false):yas p l= -1:=by
  unfold yas at h ⊢
  cases ha:l.any p
  · rfl
  · rw [ha,cond_true,zk0 (show (0:Int)≤((l.takeWhile (fun x=> !p x)).length:Int) by omega)] at h; cases h
theorem yP4 {α:Type} {p:α→Bool}: ∀ {l:List α},leb 0 (yas p l)=true→(l.take ((yas p l).toNat+1)).filter (fun x=> !p x)=l.take (yas p l).toNat
  | [],h=>by rw [yMD]at h; cases h
  | x::l,h=>by
    rw [yty]at h ⊢
    cases hx:p x
    · rw [hx]at h
      cases hl:leb 0 (yas p l)
      · rw [hl]at h; cases h
      · have h4:=zjQ.1 hl
        simp only [cond_false,cond_true]
        rw [show (yas p l+1).toNat=(yas p l).toNat+1 by omega,List.take_succ_cons,List.take_succ_cons,List.filter_cons,hx,yP4 hl]; rfl
    · simp only [cond_true]
      show List.filter (fun x=> !p x) [x]= []
      rw [List.filter_cons,hx]; rfl
theorem yRP {α:Type} {p:α→Bool} {l:List α} (h:leb 0 (yas p l)=false):l.filter (fun x=> !p x)=l:=by
  rw [List.filter_eq_self]
  intro x hx
  unfold yas at h
  cases ha:l.any p
  · have:=List.any_eq_false.1 ha x hx
    simpa using this
  · rw [ha,cond_true,zk0 (show (0:Int)≤((l.takeWhile (fun x=> !p x)).length:Int) by omega)] at h; cases h
def ye5 (a:dA):dA:=(a.1,a.2.1,a.2.2.1,a.2.2.2.1,a.2.2.2.2.1,IntKind.i64.wrap (a.2.2.2.2.2.1+1),a.2.2.2.2.2.2)
def ycH (s:Int):Int:=bif leb 0 s&&leb s 1099511627776 then s+6 else -1
def yb4 (a:dA) (m s:Int):Bool:=inb m a.2.2.1.length&&(!(nth a.2.2.1 m yg).2.2.1&&(m !=a.2.2.2.1||ltb s a.2.2.2.2.1))
def ycY (a:dA) (m s:Int):List Int×Bool:=yjx (nth a.2.2.1 m yg) (ycH s)
def ym (a:dA) (m s:Int):Bool:=yb4 a m s&&((ycY a m s).2&&((ycY a m s).1.length:Int)==1)
def yjF (a:dA) (m s:Int):Int:=bif ym a m s then nth (ycY a m s).1 0 0 else 0
def xw (a b:Int):Int:=IntKind.i64.wrap ((BitVec.ofInt IntKind.i64.bits a ^^^ BitVec.ofInt IntKind.i64.bits b).toNat:Int)
def yiD (l:List Int):Int:=l.foldl xw 0
def ytX (a:dA) (s:Int):Bool:=(List.range a.2.2.1.length).all (fun (i:Nat)=>ym a i s)
def yzt (a:dA) (s:Int):Int×Bool:=bif ytX a s then (yiD ((List.range a.2.2.1.length).map (fun (i:Nat)=>yjF a i s)),true) else (0,false)
def yR3 (a:dA):Bool:=(List.range (min a.2.1.2.toNat 20)).all (fun (s:Nat)=> !((yzt a s).2&&(yzt a s).1 !=0))
def bv (x:Int):BitVec 64:=BitVec.ofInt 64 x
theorem yKh (a b:Int):xw a b=(bv a ^^^ bv b).toInt:=by
  show IntKind.i64.wrap ((bv a ^^^ bv b).toNat:Int)=_
  rw [IntKind.wrap_i64,BitVec.toInt_eq_toNat_cond]
  have:=(bv a ^^^ bv b).isLt
  split<;>omega
theorem yt0 (v:BitVec 64):bv v.toInt=v:=by unfold bv; simp
theorem yR2 (a b:Int):bv (xw a b)=bv a ^^^ bv b:=by rw [yKh,yt0]
theorem yRX {x:Int} (h: -9223372036854775808≤x) (h2:x≤9223372036854775807):(bv x).toInt=x:=by
  unfold bv
  rw [BitVec.toInt_ofInt,Int.bmod_def]
  simp only [Nat.reducePow]at *
  omega
def yGO (l:List Int):BitVec 64:=l.foldl (fun v x=>v ^^^ bv x) 0#64
theorem yGN (l:List Int):yiD l=(yGO l).toInt:=by
  have: ∀ (l:List Int) (v:BitVec 64),l.foldl xw v.toInt=(l.foldl (fun v x=>v ^^^ bv x) v).toInt:=by
    intro l
    induction l with
    | nil=>intro _; rfl
    | cons x l ih =>
      intro v
      rw [List.foldl_cons,List.foldl_cons,yKh,yt0,ih]
  have h:=this l 0#64
  rwa [show (0#64:BitVec 64).toInt=0 from by decide]at h
theorem yQn (l:List Int) (x:Int):yGO (l++ [x])=yGO l ^^^ bv x:=by unfold yGO; rw [List.foldl_append]; rfl
theorem yQI {i:Int} {n:Nat} (h: ¬ (0≤i∧i < (n:Int))):inb i n=false:=by
  cases e:inb i n
  · rfl
  · exact absurd (zjP.1 e) h
def yk4 (l:List Int) (k:Int):Int:=bif inb k l.length then xw (yiD l) (nth l k 0) else yiD l
theorem yQo (u v:BitVec 64):u ^^^ v ^^^ v=u:=by rw [BitVec.xor_assoc,BitVec.xor_self,BitVec.xor_zero]
theorem yP9 (l:List Int) (k:Int):(List.range l.length).foldl (fun n (i:Nat)=>bif (i:Int) !=k then xw n (nth l i 0) else n) 0=yk4 l k:=by
  have: ∀ n,n≤l.length→(List.range n).foldl (fun n (i:Nat)=>bif (i:Int) !=k then xw n (nth l i 0) else n) 0=(bif inb k n then yGO (l.take n) ^^^ bv (nth l k 0) else yGO (l.take n)).toInt:=by
    intro n
    induction n with
    | zero =>
      intro _
      rw [yQI (show ¬ (0≤k∧k < ((0:Nat):Int)) by omega)]
      rfl
    | succ n ih =>
      intro hn
      rw [List.range_succ,List.foldl_append,List.foldl_cons,List.foldl_nil,ih (by omega),← yQf l 0 (show n < l.length by omega),yQn]
      by_cases hk:(n:Int)=k
      · subst hk
        rw [show ((n:Int) !=n)=false by simp,cond_false,yQI (show ¬ (0≤(n:Int)∧(n:Int) < (n:Int)) by omega),show inb (n:Int) (n+1)=true from zkO (Nat.lt_succ_self n),cond_false,cond_true,yQo]
      · rw [show ((n:Int) !=k)=true from bne_iff_ne.2 hk,cond_true,show inb k (n+1)=inb k n by rw [Bool.eq_iff_iff,zjP,zjP]; omega,yKh,yt0]
        cases inb k n
        · rfl
        · rw [cond_true,cond_true,BitVec.xor_assoc,BitVec.xor_comm (bv (nth l k 0)),← BitVec.xor_assoc]
  rw [this l.length (Nat.le_refl _),List.take_length]
  unfold yk4
  rw [yKh,yGN,yt0]
  cases inb k l.length<;>rfl
theorem yP8 {l:List Int} {k:Int} (h:inb k l.length=true) (h0:nth l k 0=0):yk4 l k=yiD l:=by
  unfold yk4
  rw [h,h0,cond_true,yKh,yGN,yt0,show bv 0=0#64 by decide,BitVec.xor_zero]
abbrev ylO:dA:=(0,(0,0),[],0,0,0,0,0,[],0,false,false)
def yQH (k:Int) (i:Nat):Bool:=IntKind.i64.wrap ((BitVec.ofInt IntKind.i64.bits (k.fdiv (2 ^ (min (i:Int).toNat IntKind.i64.bits))) &&& BitVec.ofInt IntKind.i64.bits 1).toNat:Int)==1
def yP5 (k:Int):Int:=bif leb 0 k&&leb k 1048575 then k else 0
def ygr (b:Nat→Bool) (c:List dW) (l:List (List Int)) (i:Nat):List (List Int):=bif b i then l.set (nth c i (0,[])).1.toNat (nth c i (0,[])).2 else l
def yd6 (b:Nat→Bool) (c:List dW) (l:List (List Int)):List (List Int):=(List.range c.length).foldl (ygr b c) l
def yCp (m:dM) (k:Int):dM:=bif yz m then (yd6 (fun i=>decide (i < 20)&&yQH (yP5 k) i) m.2.1 m.1,[],m.2.2.1,m.2.2.2) else m
def yOS (ks:List Int) (i:Nat):Int:=bif decide (i < ks.length) then nth ks i 0 else 0
def yQR (l:List dM) (ks:List Int):List dM:=(List.range l.length).map (fun (i:Nat)=>yCp (nth l i yg) (yOS ks i))
theorem yaI {m:dM} (h:yz m=true):m.1.all yR=true∧m.2.1.all (yqB m.1.length)=true∧ylI m.1.length m.2.2.2=true∧1≤m.1.length∧m.1.length≤20∧m.2.1.length≤60:=by
  simp only [yz,Bool.and_eq_true,zjQ]at h
  exact ⟨h.1.1.1.1.1,h.1.1.1.1.2,h.1.1.1.2,by omega,by omega,by omega⟩
theorem yQz {m:dM} (h:yz m=true) {i:Nat} (hi:i < m.2.1.length):inb (nth m.2.1 i (0,[])).1 m.1.length=true∧yR (nth m.2.1 i (0,[])).2=true:=by
  have h1:=List.all_eq_true.1 (yaI h).2.1 m.2.1[i] (List.getElem_mem hi)
  rw [zjW,zcq hi]
  exact Bool.and_eq_true_iff.1 h1
theorem yIG {b:Nat→Bool} {c:List dW} {l:List (List Int)} {i:Nat}:(ygr b c l i).length=l.length:=by
  unfold ygr; cases b i
  · rfl
  · exact List.length_set
theorem yHO {α β:Type} (P:β→Prop) (f:β→α→β) (h: ∀ s x,P s→P (f s x)): ∀ (l:List α) (s:β),P s→P (l.foldl f s)
  | [],_,hs=>hs
  | x::l,s,hs=>yHO P f h l (f s x) (h s x hs)
theorem ymX {b:Nat→Bool} {c:List dW} {l:List (List Int)}:(yd6 b c l).length=l.length :=
  yHO (fun x=>x.length=l.length) _ (fun s x hs=>by rw [yIG]; exact hs) _ l rfl
theorem yRn (b:Nat→Bool) (c:List dW) (l:List (List Int)):yd6 (fun i=>decide (i < 20)&&b i) c l=(List.range (min c.length 20)).foldl (ygr b c) l:=by
  have h1: ∀ n,n≤20→ ∀ l,(List.range n).foldl (ygr (fun i=>decide (i < 20)&&b i) c) l=(List.range n).foldl (ygr b c) l:=by
    intro n
    induction n with
    | zero=>intro _ _; rfl
    | succ n ih =>
      intro hn l
      rw [List.range_succ,List.foldl_append,List.foldl_append,ih (by omega)]
      simp only [List.foldl_cons,List.foldl_nil,ygr,show decide (n < 20)=true from decide_eq_true (by omega),Bool.true_and]
  have h2: ∀ n,20≤n→ ∀ l,(List.range n).foldl (ygr (fun i=>decide (i < 20)&&b i) c) l=(List.range 20).foldl (ygr b c) l:=by
    intro n
    induction n with
    | zero=>intro h; omega
    | succ n ih =>
      intro hn l
      by_cases h:20≤n
      · rw [List.range_succ,List.foldl_append,ih h]
        simp only [List.foldl_cons,List.foldl_nil,ygr,show decide (n < 20)=false from decide_eq_false (by omega),Bool.false_and,cond_false]
      · rw [h1 (n+1) (by omega),show n+1=20 by omega]
  unfold yd6
  by_cases h:c.length≤20
  · rw [h1 _ h,Nat.min_eq_left h]
  · rw [h2 _ (by omega),Nat.min_eq_right (by omega)]
theorem yKd {l:List (List Int)} {b:Nat} (h:l.length≤20) (hs: ∀ x∈l,x.length≤b):(l.map (fun x:List Int=>x.length)).sum≤20 * b:=by
  have:=zi5 (f:=fun x:List Int=>x.length) hs
  exact Nat.le_trans this (Nat.mul_le_mul_right _ h)
theorem yDY {P:List Int→Prop} {b:Nat→Bool} {c:List dW} {l:List (List Int)} (hl: ∀ x∈l,P x) (hc: ∀ w∈c,P w.2): ∀ x∈yd6 b c l,P x:=by
  have: ∀ (n:Nat),n≤c.length→ ∀ x∈(List.range n).foldl (ygr b c) l,P x:=by
    intro n
    induction n with
    | zero=>intro _; exact hl
    | succ n ih =>
      intro hn x hx
      rw [List.range_succ,List.foldl_append,List.foldl_cons,List.foldl_nil,ygr]at hx
      cases hb:b n
      · rw [hb]at hx; exact ih (by omega) x hx
      · rw [hb,cond_true]at hx
        rcases List.mem_or_eq_of_mem_set hx with h | h
        · exact ih (by omega) x h
        · rw [h,zjW,zcq (show n < c.length by omega)]
          exact hc _ (List.getElem_mem _)
  exact this _ (Nat.le_refl _)
theorem yPF (m:dM) (k:Int):yza (yCp m k)≤yza m+240:=by
  unfold yCp
  cases hm:yz m
  · exact Nat.le_add_right _ _
  · obtain ⟨h1,h2,_,_,h3,_⟩:=yaI hm
    have hs: ∀ x∈yd6 (fun i=>decide (i < 20)&&yQH (yP5 k) i) m.2.1 m.1,x.length≤12 :=
      yDY (P:=fun x=>x.length≤12) (fun x hx=>(yr9.1 (List.all_eq_true.1 h1 x hx)).1) (fun w hw=>(yr9.1 (Bool.and_eq_true_iff.1 (List.all_eq_true.1 h2 w hw)).2).1)
    have:=yKd (b:=12) (by rw [ymX]; exact h3) hs
    unfold yza
    simp only [cond_true,List.map_nil,List.sum_nil]
    omega
theorem yQ2 (l:List dM) (ks:List Int):yOg (yQR l ks)≤yOg l+240 * l.length:=by
  have: ∀ n,n≤l.length→(((List.range n).map (fun (i:Nat)=>yCp (nth l i yg) (yOS ks i))).map yza).sum≤((l.take n).map yza).sum+240 * n:=by
    intro n
    induction n with
    | zero=>intro _; simp
    | succ n ih =>
      intro hn
      rw [List.range_succ,List.map_append,List.map_append,List.sum_append,← List.take_append_getElem (show n < l.length by omega),List.map_append,List.sum_append]
      have:=ih (by omega)
      have h2:=yPF (nth l n yg) (yOS ks n)
      rw [zjW,zcq (show n < l.length by omega)] at h2
      simp only [List.map_cons,List.map_nil,List.sum_cons,List.sum_nil]
      rw [zjW l n,zcq (show n < l.length by omega)]
      omega
  have h:=this l.length (Nat.le_refl _)
  rw [List.take_length]at h
  exact h
def yue (m:dM) (n:Int) (s:List Int):Bool:=yz m&&(!m.2.2.1&&(inb n m.1.length&&(yR s&&ltb (m.2.1.length:Int) 60)))
def yPQ (l:List Int) (n:Int):List Int:=l.filter (· !=n)
def ygG (m:dM) (n:Int) (s:List Int):dM×Bool:=bif yue m n s then ((m.1,m.2.1++ [(n,s)],m.2.2.1,yPQ m.2.2.2 n),true) else (m,false)
def ygz (m:dM):dM:=bif yz m&& !m.2.2.1 then (yd6 (fun _=>true) m.2.1 m.1,[],m.2.2.1,m.2.2.2) else m
def ytB (m:dM):dM:=(m.1,[],true,m.2.2.2)
end
section
def ykC:Code:=(Tryz.f104.body).getD .skip
def yo4:Env:=zki TT [] []
theorem yIi:FrOk Tryz.prog ⟨yo4,32,fun _=>none⟩ ykC:=zkp ye yf trivial
def yxT:Nat→Option Seg:=fun _=>none
def ydl:Shape:=⟨[(0,false,[.fz tY]),(3,false,[.int .i64]),(4,false,[.int .i64])],[],[]⟩
def yjK:Shape:=⟨[(0,false,[.fz tY]),(3,false,[.int .i64]),(4,false,[.ci .i64 0])],[],[]⟩
def yjJ:Shape:=⟨[(0,false,[.fz tY]),(3,false,[.int .i64])],[],[]⟩
def yjX:Shape:=⟨[],[],[]⟩
def yvA (v0:List Int) (v1:Int) (v2:Int):Option ((ydl).X ⊕ ((yjJ).X ⊕ (yjX).X)) :=
  bif (ltb v2 (v0.length:Int)) then
    bif (ltb v2 4000) then
      bif (inb v2 v0.length) then
        some (.inl (((v0,()),((IntKind.i64.wrap ((BitVec.ofInt IntKind.i64.bits (IntKind.i64.wrap ((IntKind.i64.wrap ((IntKind.i64.wrap (v1 * 137))+(IntKind.i64.wrap (nth v0 v2 0))))+11)) &&& BitVec.ofInt IntKind.i64.bits 1073741823).toNat:Int)),()),((IntKind.i64.wrap (v2+1)),()),()),(),()))
      else none
    else
      some (.inr (.inl (((v0,()),(v1,()),()),(),())))
  else
    some (.inr (.inl (((v0,()),(v1,()),()),(),())))
def ydR (x:(ydl).X):=yvA x.1.1.1 x.1.2.1.1 x.1.2.2.1.1
def yuA (x:(yjK).X):(ydl).X:=(((x.1.1.1,()),(x.1.2.1.1,()),(0,()),()),(),())
def ywA:Code:=(zdI ykC 64 116).getD .skip
theorem yHq:zdI ykC 64 29=some (.block 0 (.loop ywA)):=by kernel_rfl
theorem yJ6 (x:(ydl).X):zg7 ⟨yo4,32,yxT⟩ 0 ywA 116 ydl yjJ yjX x=ydR x:=by kernel_rfl
def yuS (x:(yjK).X):Nat:=(fun (u0:List Int) (u1:Int)=>18446744073709551616) x.1.1.1 x.1.2.1.1
def ypl (x:(yjK).X):Option ((yjJ).X ⊕ (yjX).X):=zr ydR (yuS x) (yuA x)
def yvt:Seg:=⟨yjK,yjJ,yjX,ypl⟩
def yxU:Nat→Option Seg:=fun q=>bif Nat.beq q 29 then some yvt else yxT q
theorem yIj:FrOk Tryz.prog ⟨yo4,32,yxU⟩ ykC:=(yIi).loop (sg:=yvt) ydl yuA (by decide) yHq ydR yuS (by decide) (fun _=>rfl) (fun x r _ h=>h) yJ6
abbrev yhr:List Par:= [.kp tYs .fz]
abbrev ypK:List OT:= [⟨true,tU,.fz⟩]
def yeb (a0:List Int):Option (ResD ypK×MutD yhr) :=
  zjw (ypl (((a0,()),((IntKind.i64.wrap (770770+(a0.length:Int))),()),((),()),()),(),())) (fun y0 =>
    some (((y0.1.1.1,0,y0.1.2.1.1),()),())) (fun y0 =>
    none)
theorem yOD (x:InD yhr):zjH ⟨yo4,32,yxU⟩ Tryz.f104.results.toList ykC yhr ypK x=yeb x.1:=by kernel_rfl
theorem yLK:ConOk Tryz.prog 104 ⟨yhr,ypK,fun x=>yeb x.1⟩:=zkh (yIj) Tryz.func104 (by kernel_rfl) (by kernel_rfl) Tryz.ntmps104.symm (by decide) (fun x r h=>(yOD x).trans h)
def yhT (a0:List Int):List Int×Int×Int:=(((yeb a0).getD (((([]:List Int),(0:Int),(0:Int)),()),())).1).1
def yM (u:List Int×Int×Int):Prop:=0≤u.2.1∧(u.1.length:Int)≤140737488355328
theorem yOU (a0:List Int) (hb:a0.length≤140737488355328): ∃ s:Int,yeb a0=some (((a0,0,s),()),()):=by
  have hl: ∃ b,ypl (((a0,()),((IntKind.i64.wrap (770770+(a0.length:Int))),()),((),()),()),(),())=some b∧(∃ s:Int,b= .inl (((a0,()),(s,()),()),(),())):=by
    refine ziU (step:=ydR) (fun x=>(a0.length - (x.1.2.2.1.1:Int).toNat)) (fun x=>(x.1.1.1:List Int)=a0∧(0:Int)≤(x.1.2.2.1.1:Int)) _ ?_ _ _ ⟨rfl,Int.le_refl _⟩ (by show a0.length - _ < 18446744073709551616; omega)
    rintro ⟨⟨⟨(l:List Int),_⟩,⟨(s:Int),_⟩,⟨(i:Int),_⟩,_⟩,_,_⟩ ⟨h0,hi⟩
    simp only at h0 hi
    subst h0
    simp only [ydR,yvA]
    by_cases h1:i < (l.length:Int)
    · rw [zjI h1]
      by_cases h2:i < 4000
      · rw [zjI h2,zjP.2 ⟨hi,h1⟩]
        refine .inl ⟨_,rfl,⟨rfl,?_⟩,?_⟩
        · show 0≤IntKind.i64.wrap (i+1); rw [wr (by omega) (by omega)]; omega
        · show l.length - (IntKind.i64.wrap (i+1)).toNat < l.length - i.toNat; rw [wr (by omega) (by omega)]; omega
      · rw [zkm (Int.not_lt.1 h2)]
        exact .inr ⟨_,rfl,_,rfl⟩
    · rw [zkm (Int.not_lt.1 h1)]
      exact .inr ⟨_,rfl,_,rfl⟩
  obtain ⟨b,e,s,rfl⟩:=hl
  refine ⟨s,?_⟩
  unfold yeb
  rw [e]; rfl
theorem yNK (a0:List Int) (hk:zi9 yhr (a0,())):yeb a0=(fun n=>some ((n,()),())) (yhT a0):=by
  obtain ⟨s,e⟩:=yOU a0 (by have:a0.length * 1≤2 ^ 47:=hk.1.1; omega)
  unfold yhT
  rw [e]; rfl
theorem yQ7 (a0:List Int) (hb:a0.length≤140737488355328):yM (yhT a0):=by
  obtain ⟨s,e⟩:=yOU a0 hb
  unfold yhT
  rw [e]
  exact ⟨Int.le_refl _,by show (a0.length:Int)≤_; omega⟩
def yyt:Con:=⟨yhr,ypK,fun x=>(fun n=>some ((n,()),())) (yhT x.1)⟩
theorem yN0:ConOk Tryz.prog 104 yyt:=(yLK).mono (fun x r hk h=>(yNK x.1 hk).trans h)
end
section
def yDT:Code:=(Tryz.f115.body).getD .skip
def yDV:Env:=zki TT [] []
theorem yKQ:FrOk Tryz.prog ⟨yDV,15,fun _=>none⟩ yDT:=zkp ye yf trivial
def yMQ:Nat→Option Seg:=fun _=>none
abbrev ymP:List Par:= [.rd tI,.rd tI,.rd tI]
abbrev yrq:List OT:= [⟨false,tB,.fz⟩]
def ysp (a0:Int) (a1:Int) (a2:Int):Option (ResD yrq×MutD ymP) :=
  bif (leb a1 a0) then
    some (((leb a0 a2),()),())
  else
    some ((false,()),())
theorem yPe (x:InD ymP):zjH ⟨yDV,15,yMQ⟩ Tryz.f115.results.toList yDT ymP yrq x=ysp x.1 x.2.1 x.2.2.1:=by kernel_rfl
theorem yNR:ConOk Tryz.prog 115 ⟨ymP,yrq,fun x=>ysp x.1 x.2.1 x.2.2.1⟩:=zkh (yKQ) Tryz.func115 (by kernel_rfl) (by kernel_rfl) Tryz.ntmps115.symm (by decide) (fun x r h=>(yPe x).trans h)
def yb (a0:Int) (a1:Int) (a2:Int):Bool :=
  bif (leb a1 a0) then
    (leb a0 a2)
  else
    false
def yq:Con:=⟨ymP,yrq,fun x=>(fun n=>some ((n,()),())) (yb x.1 x.2.1 x.2.2.1)⟩
theorem yOW (a0:Int) (a1:Int) (a2:Int):ysp a0 a1 a2=(fun n=>some ((n,()),())) (yb a0 a1 a2):=zkS (p:=fun (n:Bool)=>((n,()),())) (zkx (p:=fun (n:Bool)=>((n,()),())) rfl rfl)
theorem yu:ConOk Tryz.prog 115 yq:=(yNR).mono (fun x r _ h=>(yOW x.1 x.2.1 x.2.2.1).trans h)
theorem yu0 {a b c:Int}:yb a b c=true↔b≤a∧a≤c:=by
  unfold yb
  cases h:leb b a
  · have:=mt zk0 (by rw [h]; simp: ¬ leb b a=true)
    simp [this]
  · simp [zjQ,zjQ.1 h]
theorem yRQ {a b c:Int} (h:b≤a) (h2:a≤c):yb a b c=true:=yu0.2 ⟨h,h2⟩
theorem yR6 {a b c:Int} (h: ¬ (b≤a∧a≤c)):yb a b c=false:=by
  cases e:yb a b c
  · rfl
  · exact absurd (yu0.1 e) h
theorem yaL (x a b:Int):yb x a b=(leb a x&&leb x b):=by
  unfold yb; cases leb a x<;>rfl
theorem ymW {x:Int} {n:Nat} (h:n≤1152921504606846976):yb x 0 (IntKind.i64.wrap ((n:Int) - 1))=inb x n:=by
  rw [wr (by omega) (by omega),Bool.eq_iff_iff,yu0,zjP]; omega
end
section
def yAV:Code:=(Tryz.f187.body).getD .skip
def yBc:Env:=zki TT [(115,yq)] []
theorem yH4:FrOk Tryz.prog ⟨yBc,11,fun _=>none⟩ yAV:=zkp ye yf ⟨yu,trivial⟩
def yKl:Nat→Option Seg:=fun _=>none
abbrev ykO:List Par:= [.rd tG]
abbrev ypB:List OT:= [⟨false,tB,.fz⟩]
def yrl (a0:dG):Option (ResD ypB×MutD ykO) :=
  let r1:=yb a0.1 3 5
  bif r1 then
    let r2:=yb a0.2 1 8
    some ((r2,()),())
  else
    some ((false,()),())
theorem yOu (x:InD ykO):zjH ⟨yBc,11,yKl⟩ Tryz.f187.results.toList yAV ykO ypB x=yrl x.1:=by kernel_rfl
theorem yLB:ConOk Tryz.prog 187 ⟨ykO,ypB,fun x=>yrl x.1⟩:=zkh (yH4) Tryz.func187 (by kernel_rfl) (by kernel_rfl) Tryz.ntmps187.symm (by decide) (fun x r h=>(yOu x).trans h)
def yd (a0:dG):Bool :=
  let r1:=yb a0.1 3 5
  bif r1 then
    let r2:=yb a0.2 1 8
    r2
  else
    false
def yd4:Con:=⟨ykO,ypB,fun x=>(fun n=>some ((n,()),())) (yd x.1)⟩
theorem yND (a0:dG):yrl a0=(fun n=>some ((n,()),())) (yd a0):=zkS (p:=fun (n:Bool)=>((n,()),())) (zkx (p:=fun (n:Bool)=>((n,()),())) rfl rfl)
theorem yjq:ConOk Tryz.prog 187 yd4:=(yLB).mono (fun x r _ h=>(yND x.1).trans h)
theorem yn {a:Int×Int}:yd a=true↔(3≤a.1∧a.1≤5)∧1≤a.2∧a.2≤8:=by
  unfold yd
  cases h:yb a.1 3 5
  · have: ¬ (3≤a.1∧a.1≤5):=fun e=>by rw [yu0.2 e]at h; simp at h
    simp [this]
  · simp only [cond_true,yu0]
    exact ⟨fun e=>⟨yu0.1 h,e⟩,fun e=>e.2⟩
def yeT (a:dA) (i:Nat):Bool:= !(yz (nth a.2.2.1 i yg))||((((nth a.2.2.1 i yg).1.length:Int) !=6+a.2.1.2)||((nth a.2.2.1 i yg).2.2.1&&(((i:Int) !=a.2.2.2.1)&& !a.2.2.2.2.2.2.2.2.2.2.2)))
def yjc (a:dA):Bool:= !((List.range a.2.2.1.length).any (yeT a))&&(a.2.2.1.length:Int)==a.2.1.1
def yfo (g:dG) (l:List dW) (i:Nat):Bool:= !(leb 0 (nth l i (0,[])).1&&leb (nth l i (0,[])).1 (g.2 - 1))||(((nth l i (0,[])).2.length:Int) !=g.1 - 1||(!((nth l i (0,[])).2.all isW)||(decide (0 < i)&&leb (nth l i (0,[])).1 (nth l ((i - 1:Nat):Int) (0,[])).1)))
def yay (g:dG) (l:List dW):Bool:= !((List.range l.length).any (yfo g l))
def yv (a:dA):Bool :=
  yd a.2.1&&((leb 1 a.1&&leb a.1 60000)&&(yjc a&&(yay a.2.1 a.2.2.2.2.2.2.2.2.1&&((leb (-1) a.2.2.2.1&&leb a.2.2.2.1 (a.2.1.1 - 1))&&((leb 0 a.2.2.2.2.1&&leb a.2.2.2.2.1 a.2.1.2)&&(!(a.2.2.2.1== -1&&a.2.2.2.2.1 !=0) &&
  ((leb 0 a.2.2.2.2.2.2.1&&leb a.2.2.2.2.2.2.1 60000)&&((leb a.2.2.2.2.2.2.1 a.2.2.2.2.2.1&&leb a.2.2.2.2.2.1 60000)&&(leb a.2.2.2.2.2.1 (a.2.2.2.2.2.2.1+4)&&((leb 0 a.2.2.2.2.2.2.2.1&&leb a.2.2.2.2.2.2.2.1 60000)&&(leb (-1) a.2.2.2.2.2.2.2.2.2.1&&leb a.2.2.2.2.2.2.2.2.2.1 1000)))))))))))
theorem yac {a:dA} (h:yv a=true):yd a.2.1=true:=(Bool.and_eq_true_iff.1 h).1
theorem yR4 {a:Int×Int} (h: ¬ yd a=true):yd a=false:=by cases e:yd a<;>simp_all
theorem yHx {a:dA} (h:yv a=true):yjc a=true:=by simp only [yv,Bool.and_eq_true]at h; exact h.2.2.1
theorem yrD {a:dA} (h:yv a=true):(a.2.2.1.length:Int)=a.2.1.1:=by have:=yHx h; simp only [yjc,Bool.and_eq_true,beq_iff_eq]at this; exact this.2
theorem yMF {a:dA} (h:yjc a=true) {i:Nat} (hi:i < a.2.2.1.length):yz (nth a.2.2.1 i yg)=true∧((nth a.2.2.1 i yg).1.length:Int)=6+a.2.1.2∧((nth a.2.2.1 i yg).2.2.1=true→(i:Int)=a.2.2.2.1∨a.2.2.2.2.2.2.2.2.2.2.2=true):=by
  simp only [yjc,Bool.and_eq_true,Bool.not_eq_true',List.any_eq_false,List.mem_range]at h
  have:=h.1 i hi
  simp only [yeT,Bool.not_eq_true,Bool.or_eq_false_iff,Bool.not_eq_false',bne_eq_false_iff_eq,Bool.and_eq_false_iff]at this
  refine ⟨this.1,this.2.1,fun hf=> ?_⟩
  rcases this.2.2 with h1 | h1 | h1
  · rw [hf]at h1; cases h1
  · exact .inl h1
  · exact .inr h1
theorem yyj: ∀ {l:List Int} {lo n:Int},l.Pairwise (· < ·)→(∀ x∈l,lo≤x∧x < n)→lo≤n→(l.length:Int)≤n - lo
  | [],lo,n,_,_,h=>by simp; omega
  | x::l,lo,n,hp,hx,h=>by
    cases hp with
    | cons h1 h2 =>
      have h3:=hx x List.mem_cons_self
      have:=yyj (l:=l) (lo:=x+1) (n:=n) h2 (fun y hy=>⟨h1 y hy,(hx y (List.mem_cons_of_mem _ hy)).2⟩) (by omega)
      rw [List.length_cons]; omega
theorem yh1 {n:Nat} {l:List Int}:ylI n l=true↔(∀ x∈l,0≤x∧x < n)∧l.Pairwise (· < ·):=by
  simp only [ylI,Bool.and_eq_true,List.all_eq_true,zjP,decide_eq_true_eq]
theorem yq4 {m:dM} (h1:m.1.all yR=true) (h2:m.2.1.all (yqB m.1.length)=true) (h3:ylI m.1.length m.2.2.2=true) (h4:1≤m.1.length) (h5:m.1.length≤20) (h6:m.2.1.length≤60):yz m=true:=by
  simp only [yz,h1,h2,h3,Bool.true_and,Bool.and_eq_true,zjQ]
  omega
theorem yPi {m:dM} (h:yz m=true):yza m≤1041:=by
  obtain ⟨h1,h2,h3,h4,h5,h6⟩:=yaI h
  have a1:=yKd (b:=12) h5 (fun x hx=>(yr9.1 (List.all_eq_true.1 h1 x hx)).1)
  have a2:=zi5 (f:=fun x:dW=>1+x.2.length) (c:=13) (l:=m.2.1) (fun w hw=>by have:=(yr9.1 (Bool.and_eq_true_iff.1 (List.all_eq_true.1 h2 w hw)).2).1; omega)
  have a3:=Nat.mul_le_mul_right 13 h6
  obtain ⟨b1,b2⟩:=yh1.1 h3
  have a4:=yyj (lo:=0) (n:=m.1.length) b2 b1 (by omega)
  unfold yza
  omega
theorem yPH {m:dM} (b:Nat→Bool) (h:yz m=true):(yd6 b m.2.1 m.1).all yR=true:=by
  obtain ⟨h1,h2,_⟩:=yaI h
  rw [List.all_eq_true]
  exact yDY (P:=fun x=>yR x=true) (fun x hx=>List.all_eq_true.1 h1 x hx) (fun w hw=>(Bool.and_eq_true_iff.1 (List.all_eq_true.1 h2 w hw)).2)
theorem yGM {m:dM} (n:Int) (s:List Int) (h:yz m=true):yz (ygG m n s).1=true:=by
  unfold ygG
  cases hc:yue m n s
  · exact h
  · simp only [yue,Bool.and_eq_true,Bool.not_eq_true',zjT]at hc
    obtain ⟨h1,h2,h3,h4,h5,h6⟩:=yaI h
    refine yq4 h1 ?_ ?_ h4 h5 (by show (m.2.1++ [(n,s)]).length≤60; rw [List.length_append]; simp only [List.length_cons,List.length_nil]; omega)
    · show (m.2.1++ [(n,s)]).all (yqB m.1.length)=true
      rw [List.all_append,h2]
      simp [yqB,hc.2.2.1,hc.2.2.2.1]
    · show ylI m.1.length (yPQ m.2.2.2 n)=true
      obtain ⟨b1,b2⟩:=yh1.1 h3
      exact yh1.2 ⟨fun x hx=>b1 x (List.mem_filter.1 hx).1,b2.filter _⟩
theorem yMP (m:dM) (n:Int) (s:List Int):(ygG m n s).1.1=m.1∧(ygG m n s).1.2.2.1=m.2.2.1:=by
  unfold ygG
  cases yue m n s<;>exact ⟨rfl,rfl⟩
theorem yEv {m:dM} (h:yz m=true):yz (ygz m)=true:=by
  unfold ygz
  cases hc:(yz m&& !m.2.2.1)
  · exact h
  · obtain ⟨h1,h2,h3,h4,h5,h6⟩:=yaI h
    refine yq4 (yPH _ h) rfl ?_ ?_ ?_ (Nat.zero_le _)
    · show ylI (yd6 _ m.2.1 m.1).length m.2.2.2=true; rw [ymX]; exact h3
    · show 1≤(yd6 _ m.2.1 m.1).length; rw [ymX]; exact h4
    · show (yd6 _ m.2.1 m.1).length≤20; rw [ymX]; exact h5
theorem yMB (m:dM):(ygz m).1.length=m.1.length∧(ygz m).2.2.1=m.2.2.1:=by
  unfold ygz
  cases (yz m&& !m.2.2.1)
  · exact ⟨rfl,rfl⟩
  · exact ⟨ymX,rfl⟩
theorem yQQ {m:dM} (h:yz m=true):yz (ytB m)=true:=by
  obtain ⟨h1,h2,h3,h4,h5,h6⟩:=yaI h
  exact yq4 h1 rfl h3 h4 h5 (Nat.zero_le _)
def yad (l:List dM):Prop:= ∀ m∈l,yz m=true
theorem yzo {l:List dM} {i:Nat} {x:dM} (h:yad l) (hx:yz x=true):yad (l.set i x):=fun m hm=>by
  rcases List.mem_or_eq_of_mem_set hm with h1 | rfl
  · exact h m h1
  · exact hx
theorem yMJ {l:List dM} {m:Int} (h:yad l) (hm:inb m l.length=true):yz (nth l m yg)=true:=yyP (P:=fun x=>yz x=true) hm h
theorem yCb {l:List dM} (h:yad l):yOg l≤l.length * 1041:=zi5 (f:=yza) (fun x hx=>yPi (h x hx))
theorem yy1 {a:dA} (h:yv a=true):yad a.2.2.1:=fun m hm=>by
  obtain ⟨i,hi,rfl⟩:=List.getElem_of_mem hm
  have:=(yMF (yHx h) hi).1
  rwa [zjW,zcq hi]at this
def ylK (p:Nat→Bool) (n:Nat):Nat:=((List.range n).filter (fun i=> !p i)).length
theorem yOV (p:Nat→Bool) (n:Nat):ylK p n≤n:=by
  have:=List.length_filter_le (fun i=> !p i) (List.range n)
  rwa [List.length_range]at this
theorem yIF (p:Nat→Bool) (n:Nat):ylK p (n+1)=bif p n then ylK p n else ylK p n+1:=by
  unfold ylK
  rw [List.range_succ,List.filter_append,List.length_append,List.filter_cons]
  cases p n<;>simp
def yIH (a:dA) (s:Int):Int:=bif yv a&&(leb 0 s&&leb s (a.2.1.2 - 1)) then (ylK (fun (i:Nat)=>ym a i s) a.2.1.1.toNat:Nat) else a.2.1.1
def yR5 (a:dA):Int:=bif yv a then (ylK (fun (s:Nat)=>(yzt a s).2) a.2.1.2.toNat:Nat) else 0
theorem yPv {α:Type} (A:List α) (y:α) (t:List α) (d:α):(A++y::t).getD A.length d=y:=by
  rw [List.getD_eq_getElem?_getD,List.getElem?_append_right (Nat.le_refl _),Nat.sub_self]; rfl
theorem yPA {α:Type} (A:List α) (y z:α) (t:List α):(A++y::t).set A.length z=A++z::t:=by
  rw [List.set_append_right _ _ (Nat.le_refl _),Nat.sub_self]; rfl
def yIE (l:List Int) (n:Int):List Int:=l.filter (fun x=>ltb x n)++n::l.filter (fun x=>ltb n x)
def yrv (m:dM) (n:Int):dM:=bif yz m&&(inb n m.1.length&& !(m.2.2.2.any (· ==n))) then (m.1,m.2.1,m.2.2.1,yIE m.2.2.2 n) else m
theorem yO4 {l:List Int} {n:Int} (h:l.Pairwise (· < ·)) (hn:n∉l):l=l.filter (fun x=>ltb x n)++l.filter (fun x=>ltb n x):=by
  induction l with
  | nil=>rfl
  | cons x t ih =>
    obtain ⟨hx,ht⟩:=List.pairwise_cons.1 h
    simp only [List.mem_cons,not_or]at hn
    rw [List.filter_cons,List.filter_cons]
    by_cases hlt:x < n
    · rw [zjI hlt,zkm (show x≤n by omega)]
      simp only [if_true,Bool.false_eq_true,if_false,List.cons_append]
      rw [← ih ht hn.2]
    · have h3:t.filter (fun x=>ltb x n)= []:=List.filter_eq_nil_iff.2 (fun y hy=>by rw [zkm (by have:=hx y hy; omega)]; simp)
      have h4:t.filter (fun x=>ltb n x)=t:=List.filter_eq_self.2 (fun y hy=>zjI (by have:=hx y hy; omega))
      rw [zkm (show n≤x by omega),zjI (show n < x by omega),h3,h4]; rfl
theorem yO5 {m:dM} (n:Int) (h:yz m=true):yz (yrv m n)=true:=by
  unfold yrv
  cases hc:(yz m&&(inb n m.1.length&& !(m.2.2.2.any (· ==n))))
  · exact h
  · simp only [Bool.and_eq_true]at hc
    have hi:=zjP.1 hc.2.1
    obtain ⟨h1,h2,h3,h4,h5,h6⟩:=yaI h
    rw [yh1]at h3
    refine yq4 h1 h2 ?_ h4 h5 h6
    show ylI m.1.length (yIE m.2.2.2 n)=true
    rw [yh1]
    unfold yIE
    refine ⟨fun x hx=> ?_,?_⟩
    · rcases List.mem_append.1 hx with g | g
      · exact h3.1 x (List.mem_filter.1 g).1
      · rcases List.mem_cons.1 g with rfl | g
        · exact hi
        · exact h3.1 x (List.mem_filter.1 g).1
    · rw [List.pairwise_append,List.pairwise_cons]
      refine ⟨h3.2.filter _,⟨fun y hy=>zjT.1 (List.mem_filter.1 hy).2,h3.2.filter _⟩,fun x hx y hy=> ?_⟩
      have g1:=zjT.1 (List.mem_filter.1 hx).2
      rcases List.mem_cons.1 hy with rfl | hy
      · exact g1
      · exact Int.lt_trans g1 (zjT.1 (List.mem_filter.1 hy).2)
theorem yML (m:dM) (n:Int):(yrv m n).1=m.1∧(yrv m n).2.2.1=m.2.2.1:=by
  unfold yrv
  cases (yz m&&(inb n m.1.length&& !(m.2.2.2.any (· ==n))))<;>exact ⟨rfl,rfl⟩
def yS (g:dG) (s:Int):Bool:=yd g&&(leb 0 s&&leb s (g.2 - 1))
def yp (g:dG) (s:Int):Int:=bif yS g s then g.1 - 1 - s.tmod g.1 else -1
def ycI (g:dG) (s i:Int):Int:=bif yS g s&&(leb 0 i&&leb i (g.1 - 2)) then (yp g s+1+i).tmod g.1 else -1
theorem ycy {g:dG} {s:Int}:yS g s=true↔yd g=true∧0≤s∧s≤g.2 - 1:=by simp [yS,zjQ]
theorem yoP {g:dG} {s:Int} (h:yS g s=true):0≤yp g s∧yp g s≤g.1 - 1:=by
  have h1:=ycy.1 h
  have h2:=yn.1 h1.1
  unfold yp
  rw [h,cond_true,Int.tmod_eq_emod_of_nonneg h1.2.1]
  have:=Int.emod_nonneg s (show g.1≠0 by omega)
  have:=Int.emod_lt_of_pos s (show 0 < g.1 by omega)
  omega
theorem yPs {g:dG} {s i:Int} (h:yS g s=true) (h1:0≤i) (h2:i≤g.1 - 2):0≤ycI g s i∧ycI g s i≤g.1 - 1:=by
  have h3:=yn.1 (ycy.1 h).1
  have h4:=yoP h
  unfold ycI
  rw [h,zk0 h1,zk0 h2,Bool.and_self,Bool.and_self,cond_true,Int.tmod_eq_emod_of_nonneg (by omega)]
  have:=Int.emod_nonneg (yp g s+1+i) (show g.1≠0 by omega)
  have:=Int.emod_lt_of_pos (yp g s+1+i) (show 0 < g.1 by omega)
  omega
def yF (p:Nat→Bool):Nat→Int
  | 0=> -1
  | n+1=>bif p n then yF p n else n
def yzc (p:Nat→Bool) (n:Nat):Bool:=(List.range n).any (fun i=> !p i&&leb 0 (yF p i))
theorem yMG (p:Nat→Bool): ∀ n,yF p n= -1∨(0≤yF p n∧yF p n < n∧p (yF p n).toNat=false)
  | 0=> .inl rfl
  | n+1=>by
    unfold yF
    cases h:p n
    · exact .inr ⟨by show (0:Int)≤n; omega,by show (n:Int) < _; omega,h⟩
    · rcases yMG p n with h1 | h1
      · exact .inl h1
      · exact .inr ⟨h1.1,by show yF p n < _; omega,h1.2.2⟩
def yO (a:dA) (s:Int) (n:Nat):List Int:=(List.range n).map (fun (i:Nat)=>yjF a i s)
theorem ylq (a:dA) (s:Int) (n:Nat):(yO a s n).length=n:=by unfold yO; rw [List.length_map,List.length_range]
theorem yAu (a:dA) (s:Int) (n:Nat):yO a s n++ [yjF a n s]=yO a s (n+1):=by unfold yO; rw [List.range_succ,List.map_append]; rfl
theorem yPo (a:dA) (s:Int) {i n:Nat} (h:i < n):nth (yO a s n) i 0=yjF a i s:=by
  unfold yO
  rw [zjW,zcq (by rw [List.length_map,List.length_range]; exact h)]; simp
def yH (a:dA) (s:Int):List Int×Bool :=
  bif yzc (fun (i:Nat)=>ym a i s) a.2.1.1.toNat then ([],false)
  else bif leb 0 (yF (fun (i:Nat)=>ym a i s) a.2.1.1.toNat) then ((yO a s a.2.1.1.toNat).set (yF (fun (i:Nat)=>ym a i s) a.2.1.1.toNat).toNat (yiD (yO a s a.2.1.1.toNat)),true)
  else (yO a s a.2.1.1.toNat,true)
theorem yCk {a:dA} {s:Int} (h:(yH a s).2=true):(yH a s).1.length=a.2.1.1.toNat:=by
  unfold yH at h ⊢
  cases h1:yzc (fun (i:Nat)=>ym a i s) a.2.1.1.toNat
  · cases leb 0 (yF (fun (i:Nat)=>ym a i s) a.2.1.1.toNat)
    · exact ylq _ _ _
    · simp only [cond_false,cond_true,List.length_set]; exact ylq _ _ _
  · rw [h1]at h; cases h
theorem yMH (a:dA) (s:Int) (n:Nat) (h:leb 0 (yF (fun (i:Nat)=>ym a i s) n)=true):inb (yF (fun (i:Nat)=>ym a i s) n) (yO a s n).length=true∧yk4 (yO a s n) (yF (fun (i:Nat)=>ym a i s) n)=yiD (yO a s n):=by
  rcases yMG (fun (i:Nat)=>ym a i s) n with h1 | h1
  · rw [h1]at h; cases h
  · have h2:inb (yF (fun (i:Nat)=>ym a i s) n) (yO a s n).length=true:=by rw [ylq,zjP]; exact ⟨h1.1,h1.2.1⟩
    refine ⟨h2,yP8 h2 ?_⟩
    have h3:=yPo a s (show (yF (fun (i:Nat)=>ym a i s) n).toNat < n by omega)
    rw [show (((yF (fun (i:Nat)=>ym a i s) n).toNat:Nat):Int)=yF (fun (i:Nat)=>ym a i s) n by omega]at h3
    rw [h3]
    unfold yjF
    have h4:ym a (yF (fun (i:Nat)=>ym a i s) n) s=false:=by
      have:=h1.2.2
      have this:ym a ((yF (fun (i:Nat)=>ym a i s) n).toNat:Nat) s=false:=h1.2.2
      rwa [show (((yF (fun (i:Nat)=>ym a i s) n).toNat:Nat):Int)=yF (fun (i:Nat)=>ym a i s) n by omega]at this
    rw [h4]; rfl
def yru (a:dA) (s:Int):List Int×Bool:=bif (yH a s).2 then ((List.range (a.2.1.1 - 1).toNat).map (fun (i:Nat)=>nth (yH a s).1 (ycI a.2.1 s i) 0),true) else ([],false)
def yyD (a:dA) (s:Int):List Int×Bool:=bif yv a&&(!a.2.2.2.2.2.2.2.2.2.2.2&&yS a.2.1 s) then yru a s else ([],false)
theorem yRG (a:dA) (s:Int):(yru a s).1.length≤(a.2.1.1 - 1).toNat:=by
  unfold yru
  cases (yH a s).2
  · exact Nat.zero_le _
  · simp
def yR0 (a:dA):List Int:=bif yv a&&(List.range a.2.1.2.toNat).all (fun (s:Nat)=>(yyD a s).2) then (List.range a.2.1.2.toNat).flatMap (fun (s:Nat)=>(yyD a s).1) else []
theorem yQ4 {x:Int} (h:isW x=true):(bv x).toNat < 2 ^ 16:=by
  have:=yKW.1 h
  unfold bv
  rw [BitVec.toNat_ofInt]
  omega
theorem yQ8 {v:BitVec 64} (h:v.toNat < 2 ^ 16):isW v.toInt=true:=by
  rw [BitVec.toInt_eq_toNat_of_lt (by omega)]
  exact yKW.2 (by omega)
theorem yQ1: ∀ (l:List Int),l.all isW=true→(yGO l).toNat < 2 ^ 16:=by
  intro l h
  have: ∀ (l:List Int) (v:BitVec 64),v.toNat < 2 ^ 16→l.all isW=true→(l.foldl (fun v x=>v ^^^ bv x) v).toNat < 2 ^ 16:=by
    intro l
    induction l with
    | nil=>intro v hv _; exact hv
    | cons x t ih =>
      intro v hv h
      simp only [List.all_cons,Bool.and_eq_true]at h
      refine ih _ ?_ h.2
      rw [BitVec.toNat_xor]
      exact Nat.xor_lt_two_pow hv (yQ4 h.1)
  exact this l 0#64 (by decide) h
theorem yQm {l:List Int} (h:l.all isW=true):isW (yiD l)=true:=by
  rw [yGN]; exact yQ8 (yQ1 l h)
theorem yCl {l:List Int}:l.all isW=true↔ ∀ x∈l,isW x=true:=by simp
theorem yPw {l:List Int} {i:Int} (h:l.all isW=true):isW (nth l i 0)=true:=by
  unfold nth
  rw [List.getD_eq_getElem?_getD]
  cases e:l[i.toNat]? with
  | none=>rfl
  | some x=>exact yCl.1 h x (List.mem_of_getElem? e)
theorem yPB {l:List Int} {i:Nat} {x:Int} (h:l.all isW=true) (hx:isW x=true):(l.set i x).all isW=true:=by
  rw [yCl]at h ⊢
  intro y hy
  rcases List.mem_or_eq_of_mem_set hy with h1 | rfl
  · exact h y h1
  · exact hx
theorem yPP {m:dM} {n:Int} (h:(yjx m n).2=true):yR (yjx m n).1=true:=by
  unfold yjx at h ⊢
  cases hc:yym m n
  · rw [hc]at h; cases h
  · simp only [yym,Bool.and_eq_true]at hc
    obtain ⟨h1,h2,h3,_,_,_⟩:=yaI hc.1
    refine yzj (P:=fun s=>yR s=true) ?_ fun w hw=> ?_
    · exact yyP (P:=fun s=>yR s=true) hc.2.2.1 (fun x hx=>List.all_eq_true.1 h1 x hx)
    · have:=List.all_eq_true.1 h2 w hw
      simp only [yqB,Bool.and_eq_true]at this
      exact this.2
theorem yQG (a:dA) (m s:Int):isW (yjF a m s)=true:=by
  unfold yjF
  cases h:ym a m s
  · rfl
  · simp only [ym,Bool.and_eq_true]at h
    have:=yPP (m:=nth a.2.2.1 m yg) (n:=ycH s) h.2.1
    simp only [yR,Bool.and_eq_true]at this
    exact yPw this.2
theorem yvC (a:dA) (s:Int) (n:Nat):(yO a s n).all isW=true:=by
  rw [yCl]
  unfold yO
  intro x hx
  obtain ⟨i,_,rfl⟩:=List.mem_map.1 hx
  exact yQG a i s
theorem yQk (a:dA) (s:Int):(yH a s).1.all isW=true:=by
  unfold yH
  cases yzc (fun (i:Nat)=>ym a i s) a.2.1.1.toNat
  · cases leb 0 (yF (fun (i:Nat)=>ym a i s) a.2.1.1.toNat)
    · exact yvC _ _ _
    · exact yPB (yvC _ _ _) (yQm (yvC _ _ _))
  · rfl
theorem yPX (a:dA) (s:Int):(yru a s).1.all isW=true:=by
  unfold yru
  cases (yH a s).2
  · rfl
  · rw [yCl]
    intro x hx
    obtain ⟨i,_,rfl⟩:=List.mem_map.1 hx
    exact yPw (yQk a s)
end
section
def yzP:Code:=(Tryz.f191.body).getD .skip
def yAg:Env:=zki TT [] []
theorem yFd:FrOk Tryz.prog ⟨yAg,6,fun _=>none⟩ yzP:=zkp ye yf trivial
def yHb:Nat→Option Seg:=fun _=>none
abbrev yi5:List Par:= [.rd tG]
abbrev ynG:List OT:= [⟨false,tI,.fz⟩]
def yqs (a0:dG):Option (ResD ynG×MutD yi5) :=
  some (((IntKind.i64.wrap (6+a0.2)),()),())
theorem yNn (x:InD yi5):zjH ⟨yAg,6,yHb⟩ Tryz.f191.results.toList yzP yi5 ynG x=yqs x.1:=by kernel_rfl
theorem yJz:ConOk Tryz.prog 191 ⟨yi5,ynG,fun x=>yqs x.1⟩:=zkh (yFd) Tryz.func191 (by kernel_rfl) (by kernel_rfl) Tryz.ntmps191.symm (by decide) (fun x r h=>(yNn x).trans h)
def ya4 (a0:dG):Int :=
  (IntKind.i64.wrap (6+a0.2))
def yj6:Con:=⟨yi5,ynG,fun x=>(fun n=>some ((n,()),())) (ya4 x.1)⟩
theorem yLn (a0:dG):yqs a0=(fun n=>some ((n,()),())) (ya4 a0):=zkS (p:=fun (n:Int)=>((n,()),())) rfl
theorem yq8:ConOk Tryz.prog 191 yj6:=(yJz).mono (fun x r _ h=>(yLn x.1).trans h)
end
section
def yzO:Code:=(Tryz.f158.body).getD .skip
def yAf:Env:=zki TT [(115,yq)] []
theorem yE1:FrOk Tryz.prog ⟨yAf,5,fun _=>none⟩ yzO:=zkp ye yf ⟨yu,trivial⟩
def yHa:Nat→Option Seg:=fun _=>none
abbrev yi2:List Par:= [.rd tI]
abbrev ynC:List OT:= [⟨false,tB,.fz⟩]
def yqr (a0:Int):Option (ResD ynC×MutD yi2) :=
  let r1:=yb a0 0 65535
  some ((r1,()),())
theorem yNh (x:InD yi2):zjH ⟨yAf,5,yHa⟩ Tryz.f158.results.toList yzO yi2 ynC x=yqr x.1:=by kernel_rfl
theorem yJt:ConOk Tryz.prog 158 ⟨yi2,ynC,fun x=>yqr x.1⟩:=zkh (yE1) Tryz.func158 (by kernel_rfl) (by kernel_rfl) Tryz.ntmps158.symm (by decide) (fun x r h=>(yNh x).trans h)
def yW (a0:Int):Bool :=
  let r1:=yb a0 0 65535
  r1
def ywY:Con:=⟨yi2,ynC,fun x=>(fun n=>some ((n,()),())) (yW x.1)⟩
theorem yLj (a0:Int):yqr a0=(fun n=>some ((n,()),())) (yW a0):=zkS (p:=fun (n:Bool)=>((n,()),())) rfl
theorem yMe:ConOk Tryz.prog 158 ywY:=(yJt).mono (fun x r _ h=>(yLj x.1).trans h)
end
end
end Go.Tf
