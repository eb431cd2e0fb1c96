/- A symbolic executor over the model, proved sound: part 5. -/
import Derived.KernelRfl
import Derived.Test.YtolmneojjjpnjaaGreatTf4
namespace Go.Tf
set_option linter.unusedVariables false
set_option linter.unusedSimpArgs false
theorem zkG {α β:Type} {c:Bool} {x y:Option α} {p:β→α} {a b:β} (h1:x=some (p a)) (h2:y=some (p b)):(bif c then x else y)=some (p (bif c then a else b)):=by
 cases c
 ·exact h2
 ·exact h1
theorem zkV {α β:Type} {x:Option α} {p:β→α} {b:β} (h:x=some (p b)):x=some (p b):=h
theorem zkP {P:Program} {t:TypeId} {k:IntKind} (h:(P.info? t).map (fun f=>(f.zero,f.size,f.bytes))=some (some (zA (.int k)),(Ty.int k).size,(Ty.int k).bytes))
  (hu:P.underlying t=some (.int k)):TIok P t ⟨.int k,[],0,false⟩:=⟨h,hu,by simp,by simp[Ty.size],by simp⟩
theorem zkE {P:Program} {t:TypeId} (h:(P.info? t).map (fun f=>(f.zero,f.size,f.bytes))=some (some (zA .bool),Ty.bool.size,Ty.bool.bytes))
  (hu:P.underlying t=some .bool):TIok P t ⟨.bool,[],0,false⟩:=⟨h,hu,by simp,by simp[Ty.size],by simp⟩
theorem zkT {P:Program} {t:TypeId} {u:Ty} {e:Nat} (h:(P.info? t).map (fun f=>(f.zero,f.size,f.bytes))=some (some (zA (.sl u)),(Ty.sl u).size,(Ty.sl u).bytes))
  (hu:P.underlying t=some (.slice e)) (hz:(P.info? e).map (fun f=>(f.zero,f.size,f.bytes))=some (some (zA u),u.size,u.bytes)):TIok P t ⟨.sl u,[],e,false⟩ :=
 ⟨h,⟨hu,hz⟩,by simp,by simp[Ty.size],by simp⟩
theorem zkU {P:Program} {t:TypeId} {n:Nat} {u:Ty} {fs:List (Nat×Nat×Bool)} {eqs:Bool}
  (h:(P.info? t).map (fun f=>(f.zero,f.size,f.bytes))=some (some (zA (.st n u)),(Ty.st n u).size,(Ty.st n u).bytes))
  (hu:P.underlying t=some (.struct (P.fieldsOf t))) (hf:(P.fieldsOf t).toList.map (zaT P)=fs.map (fun x=>(x.1,some x.2.1,x.2.2)))
  (hz:fs.all (fun x=>Nat.blt 0 x.2.1)=true) (hp:Nat.blt 0 (Ty.st n u).size=true) (he:eqs=true→zkj P t ⟨.st n u,fs,0,eqs⟩):TIok P t ⟨.st n u,fs,0,eqs⟩ :=
 ⟨h,⟨_,hu,hf⟩,fun x hx=>by have h:=List.all_eq_true.1 hz x hx; simp only[Nat.blt,Nat.ble_eq]at h; omega,Nat.le_of_ble_eq_true hp,he⟩
theorem wq (n:Int) (h: -9223372036854775808≤n) (h':n≤9223372036854775807):IntKind.i64.wrap n=n:=by
 rw[IntKind.wrap_i64]; omega
theorem wr {n:Int} (h: -9223372036854775808≤n) (h':n≤9223372036854775807):IntKind.i64.wrap n=n:=by
 rw[IntKind.wrap_i64]; omega
theorem zka {a b:Int}:ltb a b=true↔a<b:=by simp[ltb]
theorem zj7 {a b:Int}:leb a b=true↔a≤b:=by simp[leb]
theorem zky {a b:Int} (h:a<b):ltb a b=true:=zka.2 h
theorem zk2 {a b:Int} (h:a≤b):leb a b=true:=zj7.2 h
theorem zk3 {a b:Int} (h:b≤a):ltb a b=false:=by simp[ltb]; omega
theorem zkW {a b:Int} (h:ltb a b=false):b≤a:=by
 rcases Int.lt_or_le a b with h3 | h3
 ·rw[zky h3]at h; cases h
 ·exact h3
theorem zk1 {a b:Int} (h:b<a):leb a b=false:=by simp[leb]; omega
theorem zj6 {i:Int} {n:Nat}:inb i n=true↔0≤i∧i<(n:Int):=by simp[inb]
theorem zkR {i n:Nat} (h:i<n):inb (i:Int) n=true:=by rw[zj6]; omega
theorem zkF {m n b:Nat}:zkl m n b=true↔(m+n)*b≤140737488355328:=by simp[zkl]
theorem zkM {n:Int} {b:Nat}:zks n b=true↔0≤n∧n*b≤140737488355328:=by simp[zks]
theorem zkz {lo hi:Int} {n:Nat}:zj0 lo hi n=true↔0≤lo∧lo≤hi∧hi≤(n:Int):=by simp[zj0,and_assoc]
theorem zkS {α:Type} (l:List α) (i:Nat) (d:α):nth l (i:Int) d=l.getD i d:=by simp[nth]
theorem zkQ {α:Type} {P:α→Prop} {c:Bool} {x y:α} (h1:P x) (h2:P y):P (bif c then x else y):=by
 cases c
 ·exact h2
 ·exact h1
theorem zkY {α:Type} {q:Bool} {p x:Option α} {r:α} (h:(bif q then p else none)=some r) (hx:q=true→x=p):x=some r:=by
 cases q
 ·cases h
 ·exact(hx rfl).trans h
theorem zk0 {α:Type} (x y:α):(bif true then x else y)=x:=rfl
theorem zkZ {α:Type} (x y:α):(bif false then x else y)=y:=rfl
theorem zjj {A B:Type} {step:A→Option (A ⊕ B)} (m:A→Nat) (I:A→Prop) (Q:B→Prop)
  (h: ∀x,I x→(∃y,step x=some (.inl y)∧I y∧m y<m x)∨(∃b,step x=some (.inr b)∧Q b)) :
  ∀(fuel:Nat) (x:A),I x→m x<fuel→ ∃b,zF step fuel x=some b∧Q b
 | 0,_,_,hm=>absurd hm (Nat.not_lt_zero _)
 | n+1,x,hI,hm=>by
  rcases h x hI with⟨y,e,hy,hl⟩ | ⟨b,e,hb⟩
  ·obtain⟨b,e2,hb⟩:=zjj m I Q h n y hy (by omega)
   exact⟨b,by simp only[zF,e,e2],hb⟩
  ·exact⟨b,by simp only[zF,e],hb⟩
theorem zkL {A B:Type} {step:A→Option (A ⊕ B)} (f:Nat→A) (n:Nat) (b:B) (h: ∀i,i<n→step (f i)=some (.inl (f (i+1)))) (e:step (f n)=some (.inr b)) :
  ∀(fuel:Nat),n<fuel→zF step fuel (f 0)=some b:=by
 have: ∀(k i fuel:Nat),i+k=n→k<fuel→zF step fuel (f i)=some b:=by
  intro k
  induction k with
  | zero =>
   intro i fuel hi hf;obtain⟨fuel,rfl⟩: ∃m,fuel=m+1:=⟨fuel-1,by omega⟩;have:i=n:=by omega
   subst this;simp only[zF,e]
  | succ k ih =>
   intro i fuel hi hf;obtain⟨fuel,rfl⟩: ∃m,fuel=m+1:=⟨fuel-1,by omega⟩;simp only[zF,h i (by omega)];exact ih (i+1) fuel (by omega) (by omega)
 intro fuel hf;exact this n 0 fuel (by omega) hf
theorem zji {A B:Type} {step:A→Option (A ⊕ B)} (f:Nat→A) (n:Nat) (bad:Nat→Bool) (b c:B)
  (h: ∀i,i<n→step (f i)=some (bif bad i then .inr c else .inl (f (i+1)))) (e:step (f n)=some (.inr b)) :
  ∀(fuel:Nat),n<fuel→zF step fuel (f 0)=some (bif(List.range n).any bad then c else b):=by
 have: ∀(k i fuel:Nat),i+k=n→k<fuel→zF step fuel (f i)=some (bif(List.range' i k).any bad then c else b):=by
  intro k
  induction k with
  | zero =>
   intro i fuel hi hf;obtain⟨fuel,rfl⟩: ∃m,fuel=m+1:=⟨fuel-1,by omega⟩;have:i=n:=by omega
   subst this;simp only[zF,e,List.range'_zero,List.any_nil,cond_false]
  | succ k ih =>
   intro i fuel hi hf;obtain⟨fuel,rfl⟩: ∃m,fuel=m+1:=⟨fuel-1,by omega⟩;rw[List.range'_succ,List.any_cons];cases hb:bad i
   ·simp only[zF,h i (by omega),hb,cond_false,Bool.false_or]
    exact ih (i+1) fuel (by omega) (by omega)
   ·simp only[zF,h i (by omega),hb,cond_true,Bool.true_or]
 intro fuel hf;rw[List.range_eq_range'];exact this n 0 fuel (by omega) hf
theorem zj9 {A B α:Type} {step:A→Option (A ⊕ B)} (l:List α) (d:α) (f:Nat→A) (p:α→Bool) (b c:B)
  (h: ∀i,i<l.length→step (f i)=some (bif p (l.getD i d)then .inl (f (i+1))else .inr c)) (e:step (f l.length)=some (.inr b)) (fuel:Nat) (hf:l.length<fuel) :
  zF step fuel (f 0)=some (bif l.all p then b else c):=by
 have:=zji (step:=step) f l.length (fun i=> !(p (l.getD i d))) b c (fun i hi=>by rw[h i hi]; cases p (l.getD i d)<;>rfl) e fuel hf;rw[this]
 have e2:(List.range l.length).any (fun i=> !(p (l.getD i d)))= !(l.all p):=by
  rw[Bool.eq_iff_iff];simp only[List.any_eq_true,List.mem_range,Bool.not_eq_true',List.all_eq_false];constructor
  ·rintro⟨i,hi,hp⟩
   refine⟨l[i],List.getElem_mem hi,?_⟩;rw[List.getD_eq_getElem?_getD,List.getElem?_eq_getElem hi,Option.getD_some]at hp;rw[hp]; simp
  ·rintro⟨x,hx,hp⟩
   obtain⟨i,hi,rfl⟩:=List.getElem_of_mem hx;refine⟨i,hi,?_⟩;rw[List.getD_eq_getElem?_getD,List.getElem?_eq_getElem hi,Option.getD_some];simpa using hp
 rw[e2];cases l.all p<;>rfl
theorem zkx {A B α σ:Type} {step:A→Option (A ⊕ B)} (l:List α) (d:α) (f:Nat→σ→A) (u:σ→α→σ) (I:Nat→σ→Prop) (b:σ→B)
  (h: ∀i s,i<l.length→I i s→step (f i s)=some (.inl (f (i+1) (u s (l.getD i d))))∧I (i+1) (u s (l.getD i d))) (e: ∀s,I l.length s→step (f l.length s)=some (.inr (b s)))
  (s:σ) (hI:I 0 s) (fuel:Nat) (hf:l.length<fuel):zF step fuel (f 0 s)=some (b (l.foldl u s)):=by
 have: ∀(k i fuel:Nat) (s:σ),i+k=l.length→k<fuel→I i s→zF step fuel (f i s)=some (b ((l.drop i).foldl u s)):=by
  intro k
  induction k with
  | zero =>
   intro i fuel s hi hf hI;obtain⟨fuel,rfl⟩: ∃m,fuel=m+1:=⟨fuel-1,by omega⟩;have:i=l.length:=by omega
   subst this;simp only[zF,e s hI,List.drop_length,List.foldl_nil]
  | succ k ih =>
   intro i fuel s hi hf hI;obtain⟨fuel,rfl⟩: ∃m,fuel=m+1:=⟨fuel-1,by omega⟩;obtain⟨h1,h2⟩:=h i s (by omega) hI;simp only[zF,h1];rw[ih (i+1) fuel _ (by omega) (by omega) h2,List.drop_eq_getElem_cons (show i<l.length by omega),List.foldl_cons];rw[List.getD_eq_getElem?_getD,List.getElem?_eq_getElem (show i<l.length by omega),Option.getD_some]
 have:=this l.length 0 fuel s (by omega) hf hI;rwa[List.drop_zero]at this
theorem zkJ {α:Type} {l:List α} {i:Nat} {d:α} (h:i<l.length):l.getD i d=l[i]:=by
 rw[List.getD_eq_getElem?_getD,List.getElem?_eq_getElem h,Option.getD_some]
theorem zkX {α β:Type} (p:α×β):(p.1,p.2)=p:=rfl
theorem zjt {α:Type} {f:α→Nat} {c:Nat}: ∀{l:List α},(∀x∈l,f x≤c)→(l.map f).sum≤l.length*c
 | [],_=>by simp
 | x::l,h=>by
  rw[List.map_cons,List.sum_cons,List.length_cons,Nat.add_mul];have:=zjt (l:=l) (fun y hy=>h y (List.mem_cons_of_mem _ hy));have:=h x List.mem_cons_self;omega
theorem zhU {A B σ:Type} {step:A→Option (A ⊕ B)} (n:Nat) (f:Nat→σ→A) (ok:Nat→Bool) (u:σ→Nat→σ) (I:Nat→σ→Prop) (b:σ→B) (c:B)
  (h: ∀i s,i<n→I i s→step (f i s)=some (bif ok i then .inl (f (i+1) (u s i))else .inr c)∧(ok i=true→I (i+1) (u s i))) (e: ∀s,I n s→step (f n s)=some (.inr (b s)))
  (s:σ) (hI:I 0 s) (fuel:Nat) (hf:n<fuel):zF step fuel (f 0 s)=some (bif(List.range n).all ok then b ((List.range n).foldl u s)else c):=by
 have: ∀(k i fuel:Nat) (s:σ),i+k=n→k<fuel→I i s→zF step fuel (f i s)=some (bif(List.range' i k).all ok then b ((List.range' i k).foldl u s)else c):=by
  intro k
  induction k with
  | zero =>
   intro i fuel s hi hf hI;obtain⟨fuel,rfl⟩: ∃m,fuel=m+1:=⟨fuel-1,by omega⟩;have:i=n:=by omega
   subst this;simp only[zF,e s hI,List.range'_zero,List.all_nil,List.foldl_nil,cond_true]
  | succ k ih =>
   intro i fuel s hi hf hI;obtain⟨fuel,rfl⟩: ∃m,fuel=m+1:=⟨fuel-1,by omega⟩;obtain⟨h1,h2⟩:=h i s (by omega) hI;rw[List.range'_succ,List.all_cons,List.foldl_cons];cases ho:ok i
   ·simp only[zF,h1,ho,cond_false,Bool.false_and]
   ·simp only[zF,h1,ho,cond_true,Bool.true_and]
    exact ih (i+1) fuel _ (by omega) (by omega) (h2 ho)
 rw[List.range_eq_range'];exact this n 0 fuel s (by omega) hf hI
def goE {σ B:Type} (u:Nat→σ→σ ⊕ B) (b:σ→B):Nat→Nat→σ→B
 | 0,_,s=>b s
 | k+1,i,s=>match u i s with
  | .inl s'=>goE u b k (i+1) s'
  | .inr r=>r
theorem zkC {A B C σ:Type} {step:A→Option (A ⊕ C)} (n:Nat) (f:Nat→σ→A) (u:Nat→σ→σ ⊕ B) (I:Nat→σ→Prop) (b:σ→B) (g:B→C)
  (h: ∀i s,i<n→I i s→step (f i s)=some (match u i s with | .inl s'=> .inl (f (i+1) s') | .inr r=> .inr (g r))∧ ∀s',u i s= .inl s'→I (i+1) s') (e: ∀s,I n s→step (f n s)=some (.inr (g (b s))))
  (s:σ) (hI:I 0 s) (fuel:Nat) (hf:n<fuel):zF step fuel (f 0 s)=some (g (goE u b n 0 s)):=by
 have: ∀(k i fuel:Nat) (s:σ),i+k=n→k<fuel→I i s→zF step fuel (f i s)=some (g (goE u b k i s)):=by
  intro k
  induction k with
  | zero =>
   intro i fuel s hi hf hI;obtain⟨fuel,rfl⟩: ∃m,fuel=m+1:=⟨fuel-1,by omega⟩;have:i=n:=by omega
   subst this;simp only[zF,e s hI,goE]
  | succ k ih =>
   intro i fuel s hi hf hI;obtain⟨fuel,rfl⟩: ∃m,fuel=m+1:=⟨fuel-1,by omega⟩;obtain⟨h1,h2⟩:=h i s (by omega) hI;cases hu:u i s with
   | inl s' =>
    rw[hu]at h1;simp only[zF,h1,goE,hu];exact ih (i+1) fuel _ (by omega) (by omega) (h2 s' hu)
   | inr r =>
    rw[hu]at h1;simp only[zF,h1,goE,hu]
 exact this n 0 fuel s (by omega) hf hI
theorem zkD {A B σ:Type} {step:A→Option (A ⊕ B)} (n:Nat) (f:Nat→σ→A) (u:σ→Nat→σ) (I:Nat→σ→Prop) (b:σ→B)
  (h: ∀i s,i<n→I i s→step (f i s)=some (.inl (f (i+1) (u s i)))∧I (i+1) (u s i)) (e: ∀s,I n s→step (f n s)=some (.inr (b s)))
  (s:σ) (hI:I 0 s) (fuel:Nat) (hf:n<fuel):zF step fuel (f 0 s)=some (b ((List.range n).foldl u s)):=by
 have:=zhU (step:=step) n f (fun _=>true) u I b (b s) (fun i s hi hI=>⟨(h i s hi hI).1,fun _=>(h i s hi hI).2⟩) e s hI fuel hf;rw[this];have e2:(List.range n).all (fun _=>true)=true:=by simp
 rw[e2,cond_true]
theorem zkI {P:Program} {R:Fr} {f:FuncId} {fn:Func} {body:Code} {con:Con} (hR:FrOk P R body) (hf:P.funcs[f]? =some fn) (hnt:R.nt=fn.ntmps) (h: ∀x,ziv R fn.results.toList body con.ins con.outs x=con.F x) (hname:(fn.name== "runtime.NumGoroutine")=false:=by kernel_rfl) (hb:fn.body=some body:=by kernel_rfl) (hn:con.ins.length≤fn.ntmps:=by decide):ConOk P f con :=
  zip hR hf hname hb hnt hn (fun x _ e=>(h x).trans e)
abbrev tI:Ty:=(.int .i64)
abbrev tL:Ty:=(.sl tI)
abbrev tLL:Ty:=(.sl tL)
abbrev tW:Ty:=(.st 32 (.pr tI tL))
abbrev tWs:Ty:=(.sl tW)
abbrev tB:Ty:= .bool
abbrev tM:Ty:=(.st 80 (.pr tLL (.pr tWs (.pr tB tL))))
abbrev tMs:Ty:=(.sl tM)
abbrev tG:Ty:=(.st 16 (.pr tI tI))
abbrev tA:Ty:=(.st 128 (.pr tI (.pr tG (.pr tMs (.pr tI (.pr tI (.pr tI (.pr tI (.pr tI (.pr tWs (.pr tI (.pr tB tB))))))))))))
abbrev tN:Ty:=(.st 40 (.pr tI (.pr tI tL)))
abbrev tY:Ty:=(.int .u8)
abbrev tYs:Ty:=(.sl tY)
abbrev tU:Ty:=(.st 40 (.pr tYs (.pr tI tI)))
abbrev tS:Ty:=(.st 64 (.pr tI (.pr tI (.pr tI (.pr tI (.pr tI (.pr tI (.pr tI tI))))))))
abbrev dI:Type:=Int
abbrev dW:Type:=Int×(List Int)
abbrev dM:Type:=(List (List Int))×(List (Int×(List Int)))×Bool×(List Int)
abbrev dG:Type:=Int×Int
abbrev dA:Type:=Int×(Int×Int)×(List ((List (List Int))×(List (Int×(List Int)))×Bool×(List Int)))×Int×Int×Int×Int×Int×(List (Int×(List Int)))×Int×Bool×Bool
abbrev dN:Type:=Int×Int×(List Int)
abbrev dU:Type:=(List Int)×Int×Int
abbrev dS:Type:=Int×Int×Int×Int×Int×Int×Int×Int
end Go.Tf
