/- A symbolic executor over the model, proved sound: part 5. -/
import Derived.Test.YtgmadfpnljibhaaGreatTf4
namespace Go.Tf
theorem zkx {α β:Type} {c:Bool} {x y:Option α} {p:β→α} {a b:β} (h1:x=some (p a)) (h2:y=some (p b)):(bif c then x else y)=some (p (bif c then a else b)):=by
 cases c
 ·exact h2
 ·exact h1
theorem zkS {α β:Type} {x:Option α} {p:β→α} {b:β} (h:x=some (p b)):x=some (p b):=h
theorem zkL {P:Program} {t:TypeId} {k:IntKind} (h:(P.info? t).map (fun f=>(f.zero,f.size,f.bytes))=some (some (zeroVal (.int k)),(Ty.int k).size,(Ty.int k).bytes))
  (hu:P.underlying t=some (.int k)):TIok P t ⟨.int k,[],0,false⟩:=⟨h,hu,by simp,by simp [Ty.size],by simp⟩
theorem zkv {P:Program} {t:TypeId} (h:(P.info? t).map (fun f=>(f.zero,f.size,f.bytes))=some (some (zeroVal .bool),Ty.bool.size,Ty.bool.bytes))
  (hu:P.underlying t=some .bool):TIok P t ⟨.bool,[],0,false⟩:=⟨h,hu,by simp,by simp [Ty.size],by simp⟩
theorem zkQ {P:Program} {t:TypeId} {u:Ty} {e:Nat} (h:(P.info? t).map (fun f=>(f.zero,f.size,f.bytes))=some (some (zeroVal (.sl u)),(Ty.sl u).size,(Ty.sl u).bytes))
  (hu:P.underlying t=some (.slice e)) (hz:(P.info? e).map (fun f=>(f.zero,f.size,f.bytes))=some (some (zeroVal u),u.size,u.bytes)):TIok P t ⟨.sl u,[],e,false⟩ :=
 ⟨h,⟨hu,hz⟩,by simp,by simp [Ty.size],by simp⟩
theorem zkR {P:Program} {t:TypeId} {n:Nat} {u:Ty} {fs:List (Nat×Nat×Bool)} {eqs:Bool}
  (h:(P.info? t).map (fun f=>(f.zero,f.size,f.bytes))=some (some (zeroVal (.st n u)),(Ty.st n u).size,(Ty.st n u).bytes))
  (hu:P.underlying t=some (.struct (P.fieldsOf t))) (hf:(P.fieldsOf t).toList.map (zaD P)=fs.map (fun x=>(x.1,some x.2.1,x.2.2)))
  (hz:fs.all (fun x=>Nat.blt 0 x.2.1)=true) (hp:Nat.blt 0 (Ty.st n u).size=true) (he:eqs=true→EqOk P t ⟨.st n u,fs,0,eqs⟩):TIok P t ⟨.st n u,fs,0,eqs⟩ :=
 ⟨h,⟨_,hu,hf⟩,fun x hx=>by have h:=List.all_eq_true.1 hz x hx; simp only [Nat.blt,Nat.ble_eq]at h; omega,Nat.le_of_ble_eq_true hp,he⟩
theorem wr {n:Int} (h: -9223372036854775808≤n) (h':n≤9223372036854775807):IntKind.i64.wrap n=n:=by
 rw [IntKind.wrap_i64]; omega
theorem zjT {a b:Int}:ltb a b=true↔a < b:=by simp [ltb]
theorem zjQ {a b:Int}:leb a b=true↔a≤b:=by simp [leb]
theorem zjI {a b:Int} (h:a < b):ltb a b=true:=zjT.2 h
theorem zk0 {a b:Int} (h:a≤b):leb a b=true:=zjQ.2 h
theorem zkm {a b:Int} (h:b≤a):ltb a b=false:=by simp [ltb]; omega
theorem zkU {a b:Int} (h:ltb a b=false):b≤a:=by
 rcases Int.lt_or_le a b with h3 | h3
 ·rw [zjI h3]at h; cases h
 ·exact h3
theorem zkZ {a b:Int} (h:b < a):leb a b=false:=by simp [leb]; omega
theorem zjP {i:Int} {n:Nat}:inb i n=true↔0≤i∧i < (n:Int):=by simp [inb]
theorem zkO {i n:Nat} (h:i < n):inb (i:Int) n=true:=by rw [zjP]; omega
theorem zkw {m n b:Nat}:zj4 m n b=true↔(m+n) * b≤140737488355328:=by simp [zj4]
theorem zkH {n:Int} {b:Nat}:zkc n b=true↔0≤n∧n * b≤140737488355328:=by simp [zkc]
theorem zko {lo hi:Int} {n:Nat}:zjG lo hi n=true↔0≤lo∧lo≤hi∧hi≤(n:Int):=by simp [zjG,and_assoc]
theorem zjW {α:Type} (l:List α) (i:Nat) (d:α):nth l (i:Int) d=l.getD i d:=by simp [nth]
theorem zkM {α:Type} {P:α→Prop} {c:Bool} {x y:α} (h1:P x) (h2:P y):P (bif c then x else y):=by
 cases c
 ·exact h2
 ·exact h1
theorem zkW {α:Type} {q:Bool} {p x:Option α} {r:α} (h:(bif q then p else none)=some r) (hx:q=true→x=p):x=some r:=by
 cases q
 ·cases h
 ·exact (hx rfl).trans h
theorem zkY {α:Type} (x y:α):(bif true then x else y)=x:=rfl
theorem zkX {α:Type} (x y:α):(bif false then x else y)=y:=rfl
theorem ziU {A B:Type} {step:A→Option (A ⊕ B)} (m:A→Nat) (I:A→Prop) (Q:B→Prop)
  (h: ∀ x,I x→(∃ y,step x=some (.inl y)∧I y∧m y < m x)∨(∃ b,step x=some (.inr b)∧Q b)) :
  ∀ (fuel:Nat) (x:A),I x→m x < fuel→ ∃ b,zr step fuel x=some b∧Q b
 | 0,_,_,hm=>absurd hm (Nat.not_lt_zero _)
 | n+1,x,hI,hm=>by
  rcases h x hI with ⟨y,e,hy,hl⟩ | ⟨b,e,hb⟩
  ·obtain ⟨b,e2,hb⟩:=ziU m I Q h n y hy (by omega)
   exact ⟨b,by simp only [zr,e,e2],hb⟩
  ·exact ⟨b,by simp only [zr,e],hb⟩
theorem zjs {A B:Type} {step:A→Option (A ⊕ B)} (f:Nat→A) (n:Nat) (b:B) (h: ∀ i,i < n→step (f i)=some (.inl (f (i+1)))) (e:step (f n)=some (.inr b)) :
  ∀ (fuel:Nat),n < fuel→zr step fuel (f 0)=some b:=by
 have: ∀ (k i fuel:Nat),i+k=n→k < fuel→zr step fuel (f i)=some b:=by
  intro k
  induction k with
  | zero =>
   intro i fuel hi hf
   obtain ⟨fuel,rfl⟩: ∃ m,fuel=m+1:=⟨fuel - 1,by omega⟩
   have:i=n:=by omega
   subst this
   simp only [zr,e]
  | succ k ih =>
   intro i fuel hi hf
   obtain ⟨fuel,rfl⟩: ∃ m,fuel=m+1:=⟨fuel - 1,by omega⟩
   simp only [zr,h i (by omega)]
   exact ih (i+1) fuel (by omega) (by omega)
 intro fuel hf
 exact this n 0 fuel (by omega) hf
theorem zf4 {A B:Type} {step:A→Option (A ⊕ B)} (f:Nat→A) (n:Nat) (bad:Nat→Bool) (b c:B)
  (h: ∀ i,i < n→step (f i)=some (bif bad i then .inr c else .inl (f (i+1)))) (e:step (f n)=some (.inr b)) :
  ∀ (fuel:Nat),n < fuel→zr step fuel (f 0)=some (bif (List.range n).any bad then c else b):=by
 have: ∀ (k i fuel:Nat),i+k=n→k < fuel→zr step fuel (f i)=some (bif (List.range' i k).any bad then c else b):=by
  intro k
  induction k with
  | zero =>
   intro i fuel hi hf
   obtain ⟨fuel,rfl⟩: ∃ m,fuel=m+1:=⟨fuel - 1,by omega⟩
   have:i=n:=by omega
   subst this
   simp only [zr,e,List.range'_zero,List.any_nil,cond_false]
  | succ k ih =>
   intro i fuel hi hf
   obtain ⟨fuel,rfl⟩: ∃ m,fuel=m+1:=⟨fuel - 1,by omega⟩
   rw [List.range'_succ,List.any_cons]
   cases hb:bad i
   ·simp only [zr,h i (by omega),hb,cond_false,Bool.false_or]
    exact ih (i+1) fuel (by omega) (by omega)
   ·simp only [zr,h i (by omega),hb,cond_true,Bool.true_or]
 intro fuel hf
 rw [List.range_eq_range']
 exact this n 0 fuel (by omega) hf
theorem zjS {A B α:Type} {step:A→Option (A ⊕ B)} (l:List α) (d:α) (f:Nat→A) (p:α→Bool) (b c:B)
  (h: ∀ i,i < l.length→step (f i)=some (bif p (l.getD i d) then .inl (f (i+1)) else .inr c)) (e:step (f l.length)=some (.inr b)) (fuel:Nat) (hf:l.length < fuel) :
  zr step fuel (f 0)=some (bif l.all p then b else c):=by
 have:=zf4 (step:=step) f l.length (fun i=> !(p (l.getD i d))) b c (fun i hi=>by rw [h i hi]; cases p (l.getD i d)<;>rfl) e fuel hf
 rw [this]
 have e2:(List.range l.length).any (fun i=> !(p (l.getD i d)))= !(l.all p):=by
  rw [Bool.eq_iff_iff]
  simp only [List.any_eq_true,List.mem_range,Bool.not_eq_true',List.all_eq_false]
  constructor
  ·rintro ⟨i,hi,hp⟩
   refine ⟨l[i],List.getElem_mem hi,?_⟩
   rw [List.getD_eq_getElem?_getD,List.getElem?_eq_getElem hi,Option.getD_some]at hp
   rw [hp]; simp
  ·rintro ⟨x,hx,hp⟩
   obtain ⟨i,hi,rfl⟩:=List.getElem_of_mem hx
   refine ⟨i,hi,?_⟩
   rw [List.getD_eq_getElem?_getD,List.getElem?_eq_getElem hi,Option.getD_some]
   simpa using hp
 rw [e2]
 cases l.all p<;>rfl
theorem zkk {A B α σ:Type} {step:A→Option (A ⊕ B)} (l:List α) (d:α) (f:Nat→σ→A) (u:σ→α→σ) (I:Nat→σ→Prop) (b:σ→B)
  (h: ∀ i s,i < l.length→I i s→step (f i s)=some (.inl (f (i+1) (u s (l.getD i d))))∧I (i+1) (u s (l.getD i d))) (e: ∀ s,I l.length s→step (f l.length s)=some (.inr (b s)))
  (s:σ) (hI:I 0 s) (fuel:Nat) (hf:l.length < fuel):zr step fuel (f 0 s)=some (b (l.foldl u s)):=by
 have: ∀ (k i fuel:Nat) (s:σ),i+k=l.length→k < fuel→I i s→zr step fuel (f i s)=some (b ((l.drop i).foldl u s)):=by
  intro k
  induction k with
  | zero =>
   intro i fuel s hi hf hI
   obtain ⟨fuel,rfl⟩: ∃ m,fuel=m+1:=⟨fuel - 1,by omega⟩
   have:i=l.length:=by omega
   subst this
   simp only [zr,e s hI,List.drop_length,List.foldl_nil]
  | succ k ih =>
   intro i fuel s hi hf hI
   obtain ⟨fuel,rfl⟩: ∃ m,fuel=m+1:=⟨fuel - 1,by omega⟩
   obtain ⟨h1,h2⟩:=h i s (by omega) hI
   simp only [zr,h1]
   rw [ih (i+1) fuel _ (by omega) (by omega) h2,List.drop_eq_getElem_cons (show i < l.length by omega),List.foldl_cons]
   rw [List.getD_eq_getElem?_getD,List.getElem?_eq_getElem (show i < l.length by omega),Option.getD_some]
 have:=this l.length 0 fuel s (by omega) hf hI
 rwa [List.drop_zero]at this
theorem zcq {α:Type} {l:List α} {i:Nat} {d:α} (h:i < l.length):l.getD i d=l[i]:=by
 rw [List.getD_eq_getElem?_getD,List.getElem?_eq_getElem h,Option.getD_some]
theorem zkj {A B α:Type} {step:A→Option (A ⊕ B)} (l:List α) (d:α) (f:Nat→List α→A) (b:List α→B)
  (h: ∀ i m,i < l.length→m.length=l.length→step (f i m)=some (.inl (f (i+1) (m.set i (l.getD i d))))) (e: ∀ m,m.length=l.length→step (f l.length m)=some (.inr (b m))) (fuel:Nat) (hf:l.length < fuel) :
  zr step fuel (f 0 (List.replicate l.length d))=some (b l):=by
 have hs: ∀ i,i < l.length→(l.take i++List.replicate (l.length - i) d).set i (l.getD i d)=l.take (i+1)++List.replicate (l.length - (i+1)) d:=fun i hi=>by
  have hl:(l.take i).length=i:=by rw [List.length_take]; omega
  rw [List.set_append_right _ _ (by rw [hl]; exact Nat.le_refl _),hl,Nat.sub_self,List.take_add_one,List.append_assoc,show l.length - i=(l.length - (i+1))+1 by omega,List.replicate_succ]
  simp [hi]
 have hL: ∀ i,i≤l.length→(l.take i++List.replicate (l.length - i) d).length=l.length:=fun i hi=>by rw [List.length_append,List.length_take,List.length_replicate]; omega
 have:=zjs (step:=step) (fun i=>f i (l.take i++List.replicate (l.length - i) d)) l.length (b (l.take l.length++List.replicate (l.length - l.length) d)) (fun i hi=>by
  rw [h i _ hi (hL i (by omega)),hs i hi]) (e _ (hL _ (Nat.le_refl _))) fuel hf
 simpa using this
theorem zkF {A B α:Type} [DecidableEq α] {step:A→Option (A ⊕ B)} (l m:List α) (d:α) (f:Nat→A) (eq:α→α→Bool) (he: ∀ x y,eq x y=decide (x=y)) (b c:B) (hl:l.length=m.length)
  (h: ∀ i,i < l.length→step (f i)=some (bif eq (l.getD i d) (m.getD i d) then .inl (f (i+1)) else .inr c)) (e:step (f l.length)=some (.inr b)) (fuel:Nat) (hf:l.length < fuel) :
  zr step fuel (f 0)=some (bif decide (l=m) then b else c):=by
 rw [zf4 (step:=step) f l.length (fun i=> !(eq (l.getD i d) (m.getD i d))) b c (fun i hi=>by rw [h i hi]; cases eq (l.getD i d) (m.getD i d)<;>rfl) e fuel hf]
 have e2:(List.range l.length).any (fun i=> !(eq (l.getD i d) (m.getD i d)))= !(decide (l=m)):=by
  rw [Bool.eq_iff_iff]
  simp only [List.any_eq_true,List.mem_range,Bool.not_eq_true',he,decide_eq_false_iff_not]
  constructor
  ·rintro ⟨i,hi,hp⟩ rfl
   exact hp rfl
  ·intro hne
   refine Classical.byContradiction fun hno=>hne (List.ext_getElem hl fun i h3 h4=> ?_)
   refine Classical.byContradiction fun hx=>hno ⟨i,h3,?_⟩
   rw [zcq h3,zcq h4]; exact hx
 rw [e2]
 cases decide (l=m)<;>rfl
def szG {α:Type} (u:α→Int→Int):List α→Int→Option Int
 | [],k=>some k
 | x::l,k=>bif ltb (u x k) 0 then none else szG u l (u x k)
theorem zkG {A B α:Type} {step:A→Option (A ⊕ B)} (l:List α) (d:α) (f:Nat→Int→A) (u:α→Int→Int) (b:Int→B) (c:B)
  (h: ∀ i s,i < l.length→step (f i s)=some (bif ltb (u (l.getD i d) s) 0 then .inr c else .inl (f (i+1) (u (l.getD i d) s)))) (e: ∀ s,step (f l.length s)=some (.inr (b s))) (s:Int) (fuel:Nat) (hf:l.length < fuel) :
  zr step fuel (f 0 s)=some (match szG u l s with | some r=>b r | none=>c):=by
 have: ∀ (k i fuel:Nat) (s:Int),i+k=l.length→k < fuel→zr step fuel (f i s)=some (match szG u (l.drop i) s with | some r=>b r | none=>c):=by
  intro k
  induction k with
  | zero =>
   intro i fuel s hi hf
   obtain ⟨fuel,rfl⟩: ∃ m,fuel=m+1:=⟨fuel - 1,by omega⟩
   have:i=l.length:=by omega
   subst this
   simp only [zr,e s,List.drop_length,szG]
  | succ k ih =>
   intro i fuel s hi hf
   obtain ⟨fuel,rfl⟩: ∃ m,fuel=m+1:=⟨fuel - 1,by omega⟩
   have hi':i < l.length:=by omega
   rw [List.drop_eq_getElem_cons hi',szG]
   have hs:=h i s hi'
   rw [zcq hi'] at hs
   cases hb:ltb (u l[i] s) 0
   ·rw [hb]at hs
    simp only [zr,hs,cond_false]
    exact ih (i+1) fuel _ (by omega) (by omega)
   ·rw [hb]at hs
    simp only [zr,hs,cond_true]
 have:=this l.length 0 fuel s (by omega) hf
 rwa [List.drop_zero]at this
def zaX {α:Type} (u:α→Int→Int×α):List α→Int→Int×List α
 | [],k=>(k,[])
 | x::l,k=>((zaX u l (u x k).1).1,(u x k).2::(zaX u l (u x k).1).2)
theorem ziV {α:Type} {u:α→Int→Int×α}: ∀ {l:List α} {k:Int},(zaX u l k).2.length=l.length
 | [],_=>rfl
 | x::l,k=>by simp [zaX,ziV (l:=l)]
theorem zkl {A B α:Type} {step:A→Option (A ⊕ B)} (l:List α) (d:α) (f:Nat→Int→List α→A) (u:α→Int→Int×α) (b:Int→List α→B)
  (h: ∀ i s m,i < m.length→m.length=l.length→step (f i s m)=some (.inl (f (i+1) (u (m.getD i d) s).1 (m.set i (u (m.getD i d) s).2)))) (e: ∀ s m,m.length=l.length→step (f l.length s m)=some (.inr (b s m))) (s:Int) (fuel:Nat) (hf:l.length < fuel) :
  zr step fuel (f 0 s l)=some (b (zaX u l s).1 (zaX u l s).2):=by
 have: ∀ (t:List α) (p:List α) (fuel:Nat) (s:Int),(p++t).length=l.length→t.length < fuel→zr step fuel (f p.length s (p++t))=some (b (zaX u t s).1 (p++(zaX u t s).2)):=by
  intro t
  induction t with
  | nil =>
   intro p fuel s hl hf
   obtain ⟨fuel,rfl⟩: ∃ m,fuel=m+1:=⟨fuel - 1,by omega⟩
   have hp:p.length=l.length:=by simpa using hl
   rw [hp]
   simp only [zr,e s _ hl,zaX]
  | cons x t ih =>
   intro p fuel s hl hf
   obtain ⟨fuel,rfl⟩: ∃ m,fuel=m+1:=⟨fuel - 1,by omega⟩
   have hx:(p++x::t).getD p.length d=x:=by
    rw [zcq (by simp)]; simp
   have hs:=h p.length s (p++x::t) (by simp) hl
   rw [hx,List.set_append_right _ _ (Nat.le_refl _),Nat.sub_self,List.set_cons_zero]at hs
   simp only [zr,hs,zaX]
   have:=ih (p++ [(u x s).2]) fuel (u x s).1 (by simpa using hl) (by simp at hf; omega)
   simpa using this
 have:=this l [] fuel s rfl hf
 simpa using this
theorem ziN {α:Type} {u:α→Int→Int×α} {hd:α→Int→Int} {m:α→Nat} (hu: ∀ (x:α) (k:Int),0≤k→k+m x≤9223372036854775807→(u x k).1=k+m x∧hd (u x k).2 k=k+m x) :
  ∀ (l:List α) (k:Int),0≤k→k+(l.map m).sum≤9223372036854775807→(zaX u l k).1=k+(l.map m).sum∧szG hd (zaX u l k).2 k=some (k+(l.map m).sum)
 | [],k,_,_=>by simp [zaX,szG]
 | x::l,k,h0,hb=>by
  rw [List.map_cons,List.sum_cons]at hb ⊢
  obtain ⟨h1,h2⟩:=hu x k h0 (by omega)
  obtain ⟨h3,h4⟩:=ziN hu l (u x k).1 (by omega) (by rw [h1]; omega)
  rw [h1]at h3 h4
  simp only [zaX,szG,h2,zkm (show 0≤k+(m x:Int) by omega),cond_false,h1,h3,h4]
  constructor
  ·omega
  ·congr 1; omega
theorem zkV {α β:Type} (p:α×β):(p.1,p.2)=p:=rfl
theorem zkz {x y:Int} (r:Bool):(bif x !=y then false else r)=(decide (x=y)&&r):=by
 by_cases h:x=y
 ·subst h; simp
 ·simp [h]
theorem zkA (c r:Bool):(bif !c then false else r)=(c&&r):=by cases c<;>rfl
theorem zkB (x y:Bool):(x==y)=decide (x=y):=by cases x<;>cases y<;>rfl
theorem zkC (c r:Bool):(bif c then r else false)=(c&&r):=by cases c<;>rfl
theorem zkD (x y:Int):(x==y)=decide (x=y):=by
 by_cases h:x=y
 ·subst h; simp
 ·simp [h]
theorem zkP {α:Type} {l:List α} {i:Nat} {x d:α} (h:i < l.length):nth (l.set i x) (i:Int) d=x:=by
 rw [zjW,zcq (by rw [List.length_set]; exact h),List.getElem_set_self]
theorem zke {α:Type} {u:α→Int→Int} {m:α→Nat}: ∀ {l:List α} {k r:Int},(∀ x∈l,∀ k,0≤k→k≤1048576→0≤u x k→(m x:Int)≤k∧u x k≤k - m x)→0≤k→k≤1048576→szG u l k=some r→((l.map m).sum:Int)≤k - r∧0≤r∧r≤k
 | [],k,r,_,h0,_,h=>by
  simp only [szG,Option.some.injEq]at h
  subst h
  simp [h0]
 | x::l,k,r,hu,h0,h1,h=>by
  simp only [szG]at h
  cases hb:ltb (u x k) 0
  ·rw [hb]at h
   have h2:0≤u x k:=by
    rcases Int.lt_or_le (u x k) 0 with h3 | h3
    ·rw [zjI h3]at hb; cases hb
    ·exact h3
   have h3:=hu x List.mem_cons_self k h0 h1 h2
   have:=zke (fun y hy=>hu y (List.mem_cons_of_mem _ hy)) h2 (by omega) h
   rw [List.map_cons,List.sum_cons]
   omega
  ·rw [hb]at h; cases h
theorem zi5 {α:Type} {f:α→Nat} {c:Nat}: ∀ {l:List α},(∀ x∈l,f x≤c)→(l.map f).sum≤l.length * c
 | [],_=>by simp
 | x::l,h=>by
  rw [List.map_cons,List.sum_cons,List.length_cons,Nat.add_mul]
  have:=zi5 (l:=l) (fun y hy=>h y (List.mem_cons_of_mem _ hy))
  have:=h x List.mem_cons_self
  omega
theorem zhx {A B σ:Type} {step:A→Option (A ⊕ B)} (n:Nat) (f:Nat→σ→A) (ok:Nat→Bool) (u:σ→Nat→σ) (I:Nat→σ→Prop) (b:σ→B) (c:B)
  (h: ∀ i s,i < n→I i s→step (f i s)=some (bif ok i then .inl (f (i+1) (u s i)) else .inr c)∧(ok i=true→I (i+1) (u s i))) (e: ∀ s,I n s→step (f n s)=some (.inr (b s)))
  (s:σ) (hI:I 0 s) (fuel:Nat) (hf:n < fuel):zr step fuel (f 0 s)=some (bif (List.range n).all ok then b ((List.range n).foldl u s) else c):=by
 have: ∀ (k i fuel:Nat) (s:σ),i+k=n→k < fuel→I i s→zr step fuel (f i s)=some (bif (List.range' i k).all ok then b ((List.range' i k).foldl u s) else c):=by
  intro k
  induction k with
  | zero =>
   intro i fuel s hi hf hI
   obtain ⟨fuel,rfl⟩: ∃ m,fuel=m+1:=⟨fuel - 1,by omega⟩
   have:i=n:=by omega
   subst this
   simp only [zr,e s hI,List.range'_zero,List.all_nil,List.foldl_nil,cond_true]
  | succ k ih =>
   intro i fuel s hi hf hI
   obtain ⟨fuel,rfl⟩: ∃ m,fuel=m+1:=⟨fuel - 1,by omega⟩
   obtain ⟨h1,h2⟩:=h i s (by omega) hI
   rw [List.range'_succ,List.all_cons,List.foldl_cons]
   cases ho:ok i
   ·simp only [zr,h1,ho,cond_false,Bool.false_and]
   ·simp only [zr,h1,ho,cond_true,Bool.true_and]
    exact ih (i+1) fuel _ (by omega) (by omega) (h2 ho)
 rw [List.range_eq_range']
 exact this n 0 fuel s (by omega) hf hI
def goE {σ B:Type} (u:Nat→σ→σ ⊕ B) (b:σ→B):Nat→Nat→σ→B
 | 0,_,s=>b s
 | k+1,i,s=>match u i s with
  | .inl s'=>goE u b k (i+1) s'
  | .inr r=>r
theorem zkr {A B C σ:Type} {step:A→Option (A ⊕ C)} (n:Nat) (f:Nat→σ→A) (u:Nat→σ→σ ⊕ B) (I:Nat→σ→Prop) (b:σ→B) (g:B→C)
  (h: ∀ i s,i < n→I i s→step (f i s)=some (match u i s with | .inl s'=> .inl (f (i+1) s') | .inr r=> .inr (g r))∧ ∀ s',u i s= .inl s'→I (i+1) s') (e: ∀ s,I n s→step (f n s)=some (.inr (g (b s))))
  (s:σ) (hI:I 0 s) (fuel:Nat) (hf:n < fuel):zr step fuel (f 0 s)=some (g (goE u b n 0 s)):=by
 have: ∀ (k i fuel:Nat) (s:σ),i+k=n→k < fuel→I i s→zr step fuel (f i s)=some (g (goE u b k i s)):=by
  intro k
  induction k with
  | zero =>
   intro i fuel s hi hf hI
   obtain ⟨fuel,rfl⟩: ∃ m,fuel=m+1:=⟨fuel - 1,by omega⟩
   have:i=n:=by omega
   subst this
   simp only [zr,e s hI,goE]
  | succ k ih =>
   intro i fuel s hi hf hI
   obtain ⟨fuel,rfl⟩: ∃ m,fuel=m+1:=⟨fuel - 1,by omega⟩
   obtain ⟨h1,h2⟩:=h i s (by omega) hI
   cases hu:u i s with
   | inl s' =>
    rw [hu]at h1
    simp only [zr,h1,goE,hu]
    exact ih (i+1) fuel _ (by omega) (by omega) (h2 s' hu)
   | inr r =>
    rw [hu]at h1
    simp only [zr,h1,goE,hu]
 exact this n 0 fuel s (by omega) hf hI
theorem zks {A B σ:Type} {step:A→Option (A ⊕ B)} (n:Nat) (f:Nat→σ→A) (u:σ→Nat→σ) (I:Nat→σ→Prop) (b:σ→B)
  (h: ∀ i s,i < n→I i s→step (f i s)=some (.inl (f (i+1) (u s i)))∧I (i+1) (u s i)) (e: ∀ s,I n s→step (f n s)=some (.inr (b s)))
  (s:σ) (hI:I 0 s) (fuel:Nat) (hf:n < fuel):zr step fuel (f 0 s)=some (b ((List.range n).foldl u s)):=by
 have:=zhx (step:=step) n f (fun _=>true) u I b (b s) (fun i s hi hI=>⟨(h i s hi hI).1,fun _=>(h i s hi hI).2⟩) e s hI fuel hf
 rw [this]
 have e2:(List.range n).all (fun _=>true)=true:=by simp
 rw [e2,cond_true]
end Go.Tf
namespace Go.Tf
abbrev tI:Ty:=(.int .i64)
abbrev tL:Ty:=(.sl tI)
abbrev tLL:Ty:=(.sl tL)
abbrev tW:Ty:=(.st 32 (.pr tI tL))
abbrev tWs:Ty:=(.sl tW)
abbrev tB:Ty:= .bool
abbrev tM:Ty:=(.st 80 (.pr tLL (.pr tWs (.pr tB tL))))
abbrev tMs:Ty:=(.sl tM)
abbrev tG:Ty:=(.st 16 (.pr tI tI))
abbrev tA:Ty:=(.st 128 (.pr tI (.pr tG (.pr tMs (.pr tI (.pr tI (.pr tI (.pr tI (.pr tI (.pr tWs (.pr tI (.pr tB tB))))))))))))
abbrev tC:Ty:=(.st 56 (.pr tI (.pr tI (.pr tI (.pr tI tL)))))
abbrev tCs:Ty:=(.sl tC)
abbrev tN:Ty:=(.st 40 (.pr tI (.pr tI tL)))
abbrev tNs:Ty:=(.sl tN)
abbrev tY:Ty:=(.int .u8)
abbrev tYs:Ty:=(.sl tY)
abbrev tU:Ty:=(.st 40 (.pr tYs (.pr tI tI)))
abbrev tS:Ty:=(.st 64 (.pr tI (.pr tI (.pr tI (.pr tI (.pr tI (.pr tI (.pr tI tI))))))))
abbrev dI:Type:=Int
abbrev dL:Type:=List Int
abbrev dLL:Type:=List (List Int)
abbrev dW:Type:=Int×(List Int)
abbrev dWs:Type:=List (Int×(List Int))
abbrev dB:Type:=Bool
abbrev dM:Type:=(List (List Int))×(List (Int×(List Int)))×Bool×(List Int)
abbrev dMs:Type:=List ((List (List Int))×(List (Int×(List Int)))×Bool×(List Int))
abbrev dG:Type:=Int×Int
abbrev dA:Type:=Int×(Int×Int)×(List ((List (List Int))×(List (Int×(List Int)))×Bool×(List Int)))×Int×Int×Int×Int×Int×(List (Int×(List Int)))×Int×Bool×Bool
abbrev dC:Type:=Int×Int×Int×Int×(List Int)
abbrev dCs:Type:=List (Int×Int×Int×Int×(List Int))
abbrev dN:Type:=Int×Int×(List Int)
abbrev dNs:Type:=List (Int×Int×(List Int))
abbrev dY:Type:=Int
abbrev dYs:Type:=List Int
abbrev dU:Type:=(List Int)×Int×Int
abbrev dS:Type:=Int×Int×Int×Int×Int×Int×Int×Int
end Go.Tf
