/- Functions of the program, and what they come to. -/
import Derived.Test.YtgmadfpnljibhaaGreatScrubsF8
namespace Go.Tf
noncomputable section
open Go.Proofs
set_option synthInstance.maxHeartbeats 400000
set_option synthInstance.maxSize 10000
set_option linter.unusedVariables false
set_option linter.unusedSimpArgs false
set_option maxRecDepth 100000
section
def yGW:Code:=(Tryz.f239.body).getD .skip
def yHd:Env:=zki TT [(135,yq),(225,ygm)] []
theorem yPG:FrOk Tryz.prog ⟨yHd,22,fun _=>none⟩ yGW:=zkp yc yd ⟨yu,ymY,trivial⟩
def ySg:Nat→Option Seg:=fun _=>none
abbrev ynF:List Par:= [.rd tN]
abbrev ytd:List OT:= [⟨false,tB,.fz⟩]
def yvk (a0:dN):Option (ResD ytd×MutD ynF) :=
  let r1:=ya a0.1 0 60000
  bif r1 then
    let r2:=ya a0.2.1 0 7
    bif r2 then
      let r3:=ya (a0.2.2.length:Int) 2 4
      bif r3 then
        let r4:=yL a0.2.2
        some ((r4,()),())
      else
        some ((false,()),())
    else
      some ((false,()),())
  else
    some ((false,()),())
theorem yW8 (x:InD ynF):zjH ⟨yHd,22,ySg⟩ Tryz.f239.results.toList yGW ynF ytd x=yvk x.1:=by kernel_rfl
theorem yTX:ConOk Tryz.prog 239 ⟨ynF,ytd,fun x=>yvk x.1⟩:=zkh (yPG) Tryz.func239 (by kernel_rfl) (by kernel_rfl) Tryz.ntmps239.symm (by decide) (fun x r h=>(yW8 x).trans h)
def yeb (a0:dN):Bool :=
  let r1:=ya a0.1 0 60000
  bif r1 then
    let r2:=ya a0.2.1 0 7
    bif r2 then
      let r3:=ya (a0.2.2.length:Int) 2 4
      bif r3 then
        let r4:=yL a0.2.2
        r4
      else
        false
    else
      false
  else
    false
def yDX:Con:=⟨ynF,ytd,fun x=>(fun n=>some ((n,()),())) (yeb x.1)⟩
theorem yWd (a0:dN):yvk a0=(fun n=>some ((n,()),())) (yeb a0):=zkS (p:=fun (n:Bool)=>((n,()),())) (zkx (p:=fun (n:Bool)=>((n,()),())) (zkx (p:=fun (n:Bool)=>((n,()),())) (zkx (p:=fun (n:Bool)=>((n,()),())) rfl rfl) rfl) rfl)
theorem yWy:ConOk Tryz.prog 239 yDX:=(yTX).mono (fun x r _ h=>(yWd x.1).trans h)
abbrev y01:dN:=(0,0,[])
def yzZ (r:dN):List Int:=bif yeb r then 21322::r.1::r.2.1::(r.2.2.length:Int)::r.2.2 else []
def yZ9 (l:List Int):dN:=(nth l 1 0,nth l 2 0,l.drop 4)
def y1B (l:List Int):dN×Bool:=bif leb 4 (l.length:Int)&&(nth l 0 0==21322&&(nth l 3 0==(l.length:Int) - 4&&yeb (yZ9 l))) then (yZ9 l,true) else (y01,false)
theorem yZm {r:dN}:yeb r=true↔(0≤r.1∧r.1≤60000)∧(0≤r.2.1∧r.2.1≤7)∧(2≤(r.2.2.length:Int)∧(r.2.2.length:Int)≤4)∧r.2.2.all isW=true:=by
  unfold yeb
  simp only [ywI,← yzC]
  cases ya r.1 0 60000<;>cases ya r.2.1 0 7<;>cases ya (r.2.2.length:Int) 2 4<;>simp
def ykd (r:dN) (a:dA) (i:Nat):dA:=ydd a i (yab r.1) (yzZ r)
def ybQ (a:dA) (r:dN):dA:=yA ((List.range a.2.2.1.length).foldl (ykd r) a)
theorem ypf (r:dN) (a:dA) (i:Nat):(ykd r a i).2.2.1.length=a.2.2.1.length:=yl2 _ _ _ _
theorem yYp (r:dN) {a:dA} (i:Nat) (h:downA a=true):ykd r a i=a:=yz0 h _ _ _
theorem y0q (a:dA) (r:dN):(ybQ a r).2.2.1.length=a.2.2.1.length:=(yAo _).trans (yii (ypf r) _ _)
theorem yim (a:dA) (r:dN):yn (ybQ a r)=yn a:=(yig _).trans (yv2 (one:=ykd r) (fun _ _=>yn8 _ _ _ _) _ _)
theorem yIo {one:dA→Nat→dA} {d:List dW} (hl: ∀ a i,(one a i).2.2.1.length=a.2.2.1.length) (ho: ∀ a i,yaZ d a→i < a.2.2.1.length→yaZ d (one a i)): ∀ (n:Nat) (a:dA),n≤a.2.2.1.length→yaZ d a→yaZ d ((List.range n).foldl one a)
  | 0,_,_,h=>h
  | n+1,a,hn,h=>by
    rw [List.range_succ,List.foldl_append]
    exact ho _ _ (yIo hl ho n a (by omega) h) (by rw [yii hl]; exact hn)
theorem y1s {d:List dW} {a:dA} (r:dN) (h:yaZ d a):yaZ d (ybQ a r):=yZk (yIo (ypf r) (fun _ _ h hi=>yMY h (zkO hi)) _ a (Nat.le_refl _) h)
def yfi (p N x:Int) (data:List Int) (i:Int):Int:=bif i==p then x else nth data ((i - p - 1+N).tmod N) 0
def ycO (p N s:Int) (data:List Int) (a:dA) (i:Nat):dA:=bif yby a i s then ydd a i (dataAt s) [yfi p N (xorOf data) data i] else a
def yaN (a:dA) (s:Int) (data:List Int):dA:=(List.range a.2.2.1.length).foldl (ycO (yj a.2.1 s) a.2.1.1 s data) a
theorem yp4 (p N s:Int) (data:List Int) (a:dA) (i:Nat):(ycO p N s data a i).2.2.1.length=a.2.2.1.length:=by
  unfold ycO; cases yby a i s
  · rfl
  · exact yl2 _ _ _ _
theorem yWV (p N s:Int) (data:List Int) {a:dA} (i:Nat) (h:downA a=true):ycO p N s data a i=a:=by
  unfold ycO; cases yby a i s
  · rfl
  · exact yz0 h _ _ _
theorem yHv (p N s:Int) (data:List Int) (a:dA) (i:Nat):yn (ycO p N s data a i)=yn a:=by
  unfold ycO; cases yby a i s
  · rfl
  · exact yn8 _ _ _ _
theorem y1m (a:dA) (s:Int) (data:List Int):(yaN a s data).2.2.1.length=a.2.2.1.length:=yii (yp4 _ _ _ _) _ _
theorem yB0 (a:dA) (s:Int) (data:List Int):yn (yaN a s data)=yn a:=yv2 (yHv _ _ _ _) _ _
theorem y1j {d:List dW} {a:dA} (s:Int) (data:List Int) (h:yaZ d a):yaZ d (yaN a s data):=yIo (yp4 _ _ _ _) (fun a i h hi=>by
  unfold ycO; cases yby a i s
  · exact h
  · exact yMY h (zkO hi)) _ a (Nat.le_refl _) h
theorem y1n {N i p:Int} (h:3≤N∧N≤5) (hi:0≤i∧i < N) (hp:0≤p∧p≤N - 1) (hne:i≠p):0≤(i - p - 1+N).tmod N∧(i - p - 1+N).tmod N < N - 1:=by
  rw [Int.tmod_eq_emod_of_nonneg (by omega)]
  have:N=3∨N=4∨N=5:=by omega
  rcases this with rfl | rfl | rfl<;>omega
theorem y1e {N p x:Int} {data:List Int} (h:3≤N∧N≤5) (hp:0≤p∧p≤N - 1) (hd:(data.length:Int)=N - 1) :
    (List.range data.length).foldl (fun l (i:Nat)=>l.set ((p+1+i).tmod N).toNat (nth data i 0)) ((List.replicate N.toNat 0).set p.toNat x)=(List.range N.toNat).map (fun (i:Nat)=>yfi p N x data i):=by
  have:N=3∨N=4∨N=5:=by omega
  rcases this with rfl | rfl | rfl
  · match data,hd with
    | [a,b],_ =>
      have:p=0∨p=1∨p=2:=by omega
      rcases this with rfl | rfl | rfl<;>simp [yfi,nth,List.range_succ,List.replicate_succ]
    | [],hd=>simp at hd
    | [_],hd=>simp at hd
    | _::_::_::_,hd=>simp only [List.length_cons]at hd; omega
  · match data,hd with
    | [a,b,c],_ =>
      have:p=0∨p=1∨p=2∨p=3:=by omega
      rcases this with rfl | rfl | rfl | rfl<;>simp [yfi,nth,List.range_succ,List.replicate_succ]
    | [],hd=>simp at hd
    | [_],hd=>simp at hd
    | [_,_],hd=>simp at hd
    | _::_::_::_::_,hd=>simp only [List.length_cons]at hd; omega
  · match data,hd with
    | [a,b,c,d],_ =>
      have:p=0∨p=1∨p=2∨p=3∨p=4:=by omega
      rcases this with rfl | rfl | rfl | rfl | rfl<;>simp [yfi,nth,List.range_succ,List.replicate_succ]
    | [],hd=>simp at hd
    | [_],hd=>simp at hd
    | [_,_],hd=>simp at hd
    | [_,_,_],hd=>simp at hd
    | _::_::_::_::_::_,hd=>simp only [List.length_cons]at hd; omega
def dsk (a:dA) (i:Int):dM:=nth a.2.2.1 i noMem
theorem ySC {a:dA} {m i:Int} {x:dM} (hm:inb m a.2.2.1.length=true) (hi:0≤i):dsk (setMem a m x) i=bif m==i then x else dsk a i:=yzN hm hi
def ygE (n:Int) (s:List Int) (m:dM):dM:=bif m.2.2.1 then m else (yF m n s).1
def Did (g:dM→dM) (i:Int) (a r:dA):Prop:=yn r=yn a∧r.2.2.1.length=a.2.2.1.length ∧
  ((downA r=false∧ ∀ j,0≤j→dsk r j=bif i==j then g (dsk a j) else dsk a j)∨(downA r=true∧ ∀ j,dsk r j=dsk a j))
theorem yIR {a:dA} {m:Int} (n:Int) (s:List Int) (h:downA a=false) (hm:inb m a.2.2.1.length=true):Did (ygE n s) m a (ydd a m n s):=by
  refine ⟨yn8 _ _ _ _,yl2 _ _ _ _,?_⟩
  have hd:=yZT h m n s
  unfold ydd at hd ⊢
  cases hf:(nth a.2.2.1 m noMem).2.2.1
  · rw [hf]at hd
    cases ho:(yZ a).1
    · rw [ho]at hd
      refine .inr ⟨hd,fun j=> ?_⟩
      show nth (yZ a).2.2.2.1 j noMem=dsk a j
      rw [yaj]; rfl
    · rw [ho]at hd
      refine .inl ⟨hd,fun j hj=> ?_⟩
      show dsk (setMem (yZ a).2 m (yF (nth a.2.2.1 m noMem) n s).1) j=_
      rw [ySC (by rw [yaj]; exact hm) hj]
      cases hj2:(m==j)
      · show nth (yZ a).2.2.2.1 j noMem=dsk a j
        rw [yaj]; rfl
      · have:=beq_iff_eq.1 hj2
        subst this
        show _=ygE n s (dsk a m)
        unfold ygE dsk
        rw [hf]; rfl
  · refine .inl ⟨h,fun j hj=> ?_⟩
    cases hj2:(m==j)
    · rfl
    · have:=beq_iff_eq.1 hj2
      subst this
      show dsk a m=ygE n s (dsk a m)
      unfold ygE dsk
      rw [hf]; rfl
theorem yZX {a:dA} {i:Nat} (h:downA a=false) (hm:i < a.2.2.1.length):Did yr i a (yX a i):=by
  refine ⟨yID _ _,yl3 _ _,?_⟩
  have hd:=yXW h i
  unfold yX at hd ⊢
  cases hf:(nth a.2.2.1 i noMem).2.2.1
  · rw [hf]at hd
    cases ho:(yZ a).1
    · rw [ho]at hd
      refine .inr ⟨hd,fun j=> ?_⟩
      show nth (yZ a).2.2.2.1 j noMem=dsk a j
      rw [yaj]; rfl
    · rw [ho]at hd
      refine .inl ⟨hd,fun j hj=> ?_⟩
      show dsk (setMem (yZ a).2 i (yr (nth a.2.2.1 i noMem))) j=_
      rw [ySC (by rw [yaj]; exact zkO hm) hj]
      cases hj2:((i:Int)==j)
      · show nth (yZ a).2.2.2.1 j noMem=dsk a j
        rw [yaj]; rfl
      · have:=beq_iff_eq.1 hj2
        subst this; rfl
  · refine .inl ⟨h,fun j hj=> ?_⟩
    cases hj2:((i:Int)==j)
    · rfl
    · have:=beq_iff_eq.1 hj2
      subst this
      show dsk a i=yr (dsk a i)
      unfold yr dsk
      rw [hf,Bool.not_true,Bool.and_false]; rfl
def Adv (g:Int→dM→dM) (a r:dA) (n:Nat):Prop:=yn r=yn a∧r.2.2.1.length=a.2.2.1.length ∧
  ∃ k:Nat,k≤n∧(∀ j:Int,0≤j→dsk r j=bif ltb j k then g j (dsk a j) else dsk a j)∧(downA r=false→k=n)
theorem yyz {one:dA→Nat→dA} {g:Int→dM→dM} {a:dA} (hs: ∀ b i,downA b=true→one b i=b)
    (ho: ∀ (b:dA) (i:Nat),yn b=yn a→b.2.2.1.length=a.2.2.1.length→i < a.2.2.1.length→downA b=false→dsk b i=dsk a i→Did (g i) i b (one b i)) (hd:downA a=false) :
    ∀ n,n≤a.2.2.1.length→Adv g a ((List.range n).foldl one a) n
  | 0,_=>⟨rfl,rfl,0,Nat.le_refl _,fun j hj=>by rw [zkm (show ((0:Nat):Int)≤j by omega)]; rfl,fun _=>rfl⟩
  | n+1,hn=>by
    obtain ⟨h1,h2,k,h3,h4,h5⟩:=yyz hs ho hd n (by omega)
    rw [List.range_succ,List.foldl_append,List.foldl_cons,List.foldl_nil]
    generalize (List.range n).foldl one a=R at h1 h2 h4 h5 ⊢
    cases hR:downA R
    · have hk:=h5 hR
      subst hk
      have e:dsk R k=dsk a k:=by rw [h4 k (by omega),zkm (Int.le_refl _)]; rfl
      obtain ⟨g1,g2,g3⟩:=ho R k h1 h2 (by omega) hR e
      refine ⟨g1.trans h1,g2.trans h2,?_⟩
      rcases g3 with ⟨g3,g4⟩ | ⟨g3,g4⟩
      · refine ⟨k+1,Nat.le_refl _,fun j hj=> ?_,fun _=>rfl⟩
        rw [g4 j hj]
        by_cases hj2:(k:Int)=j
        · subst hj2
          rw [show ((k:Int)==(k:Int))=true from beq_self_eq_true _,zjI (show (k:Int) < ((k+1:Nat):Int) by omega),e]; try rfl
        · rw [show ((k:Int)==j)=false from beq_eq_false_iff_ne.2 hj2,cond_false,h4 j hj,show ltb j ((k+1:Nat):Int)=ltb j k by rw [Bool.eq_iff_iff,zjT,zjT]; omega]
      · refine ⟨k,by omega,fun j hj=>by rw [g4 j,h4 j hj],fun h=> ?_⟩
        rw [g3]at h; cases h
    · rw [hs R n hR]
      exact ⟨h1,h2,k,by omega,h4,fun h=>by rw [hR]at h; cases h⟩
theorem yZW {a:dA} (hd:downA a=false):Adv (fun _=>yr) a (yA a) a.2.2.1.length :=
  yyz (one:=yX) (g:=fun _=>yr) (fun _ i h=>yIE i h) (fun b i _ h2 hi hb _=>yZX hb (by omega)) hd _ (Nat.le_refl _)
theorem yWU {a b:dA} (h:yn b=yn a) (i:Int):yIS b i=yIS a i:=by
  unfold yn at h
  simp only [Prod.mk.injEq]at h
  obtain ⟨h1,h2,h3,h4,h5,h6,h7,h8,h9⟩:=h
  unfold yIS
  rw [h1,h2,h3,h4,h6,h7]
theorem yy2 {a b:dA} (h:yn b=yn a):b.2.2.2.2.2.2.2.1=a.2.2.2.2.2.2.2.1:=congrArg (fun x=>x.2.2.2.2.2.2.1) h
theorem yLp {a b:dA} (h:yn b=yn a):b.2.2.2.2.2.2.2.2.2.2.2=a.2.2.2.2.2.2.2.2.2.2.2:=congrArg (fun x=>x.2.2.2.2.2.2.2.2) h
theorem y1y {a b:dA} (h:yn b=yn a):b.1=a.1:=congrArg (fun x=>x.1) h
def yWP (a:dA) (i:Int) (m:dM):dM:=ygE (a.2.2.2.2.2.2.2.1.tmod 2) (yH (yIS a i)) m
theorem yZQ {a:dA} (hd:downA a=false):Adv (yWP a) a ((List.range a.2.2.1.length).foldl yb3 a) a.2.2.1.length :=
  yyz (one:=yb3) (g:=yWP a) (fun _ i h=>yz0 h _ _ _) (fun b i h1 h2 hi hb _=>by
    have:=yIR (b.2.2.2.2.2.2.2.1.tmod 2) (yH (yIS b i)) hb (show inb (i:Int) b.2.2.1.length=true from zkO (by omega))
    rw [yy2 h1,yWU h1]at this
    unfold yWP yb3
    rw [yy2 h1,yWU h1]
    exact this) hd _ (Nat.le_refl _)
theorem y0p {a:dA} (r:dN) (hd:downA a=false):Adv (fun _=>ygE (yab r.1) (yzZ r)) a ((List.range a.2.2.1.length).foldl (ykd r) a) a.2.2.1.length :=
  yyz (one:=ykd r) (g:=fun _=>ygE (yab r.1) (yzZ r)) (fun _ i h=>yYp r i h) (fun b i _ h2 hi hb _=>yIR _ _ hb (zkO (by omega))) hd _ (Nat.le_refl _)
def yaK (L B i s:Int) (m:dM):Bool:= !m.2.2.1&&(i !=L||ltb s B)
theorem yYB {a:dA} {i s:Int} (hi:inb i a.2.2.1.length=true):yby a i s=yaK a.2.2.2.1 a.2.2.2.2.1 i s (dsk a i):=by
  unfold yby yaK dsk
  rw [hi]; rfl
def ymW (L B p N s:Int) (d:List Int) (i:Int) (m:dM):dM:=bif yaK L B i s m then (yF m (dataAt s) [yfi p N (xorOf d) d i]).1 else m
theorem yZC {a:dA} (s:Int) (d:List Int) (hd:downA a=false):Adv (ymW a.2.2.2.1 a.2.2.2.2.1 (yj a.2.1 s) a.2.1.1 s d) a (yaN a s d) a.2.2.1.length :=
  yyz (one:=ycO (yj a.2.1 s) a.2.1.1 s d) (g:=ymW a.2.2.2.1 a.2.2.2.2.1 (yj a.2.1 s) a.2.1.1 s d) (fun _ i h=>yWV _ _ _ _ i h) (fun b i h1 h2 hi hb _=>by
    have hib:inb (i:Int) b.2.2.1.length=true:=zkO (by omega)
    unfold ycO
    rw [yYB hib,ysj h1,yfh h1]
    cases hl:yaK a.2.2.2.1 a.2.2.2.2.1 i s (dsk b i)
    · refine ⟨rfl,rfl,.inl ⟨hb,fun j hj=> ?_⟩⟩
      by_cases hj2:(i:Int)=j
      · subst hj2
        rw [beq_self_eq_true]
        show dsk b i=ymW _ _ _ _ _ _ _ (dsk b i)
        unfold ymW
        rw [hl]; rfl
      · rw [show ((i:Int)==j)=false from beq_eq_false_iff_ne.2 hj2]; rfl
    · obtain ⟨g1,g2,g3⟩:=yIR (dataAt s) [yfi (yj a.2.1 s) a.2.1.1 (xorOf d) d i] hb hib
      refine ⟨g1,g2,g3.imp (fun ⟨g3,g4⟩=>⟨g3,fun j hj=> ?_⟩) id⟩
      show dsk (ydd b i (dataAt s) _) j=_
      rw [g4 j hj]
      by_cases hj2:(i:Int)=j
      · subst hj2
        rw [beq_self_eq_true,cond_true,cond_true]
        unfold ymW ygE
        rw [hl,cond_true]
        simp only [yaK,Bool.and_eq_true,Bool.not_eq_true'] at hl
        rw [hl.1]; rfl
      · rw [show ((i:Int)==j)=false from beq_eq_false_iff_ne.2 hj2]; rfl) hd _ (Nat.le_refl _)
def yx (a:dA):dA:=bif leb 4 (IntKind.i64.wrap (a.2.2.2.2.2.1 - a.2.2.2.2.2.2.1)) then checkA a else a
def ybB (a:dA) (s:Int) (d:List Int):Int×dA :=
  bif downA (yx a) then (6,yx a) else
  bif downA (ybQ (yx a) ((yx a).2.2.2.2.2.1,s,d)) then (6,ybQ (yx a) ((yx a).2.2.2.2.2.1,s,d)) else
  (bif downA (yaN (yeF (ybQ (yx a) ((yx a).2.2.2.2.2.1,s,d))) s d) then 6 else 0,yaN (yeF (ybQ (yx a) ((yx a).2.2.2.2.2.1,s,d))) s d)
theorem yUO (a:dA):(checkA a).2.1=a.2.1:=by
  unfold checkA
  cases downA (yA a)
  · exact (yaF (yso (yef (yA a)))).trans (show (yA a).2.1=a.2.1 from yaF (yig a))
  · exact yaF (yig a)
theorem ySy (a:dA):(yx a).2.1=a.2.1:=by
  unfold yx
  cases leb 4 (IntKind.i64.wrap (a.2.2.2.2.2.1 - a.2.2.2.2.2.2.1))
  · rfl
  · exact yUO a
theorem y1x (a:dA):(yx a).2.2.1.length=a.2.2.1.length:=by
  unfold yx
  cases leb 4 (IntKind.i64.wrap (a.2.2.2.2.2.1 - a.2.2.2.2.2.2.1))
  · rfl
  · exact yvO a
def yIJ (l:List dW) (k:Nat):List dW:=l.take k++l.drop (k+1)
def flushE (a:dA) (s:Int):Int×dA :=
  bif ltb (yw a.2.2.2.2.2.2.2.2.1 s) 0 then (0,a) else
  bif yT a s (nth a.2.2.2.2.2.2.2.2.1 (yw a.2.2.2.2.2.2.2.2.1 s) (0,[])).2 !=0 then (yT a s (nth a.2.2.2.2.2.2.2.2.1 (yw a.2.2.2.2.2.2.2.2.1 s) (0,[])).2,a) else
  bif (ybB a s (nth a.2.2.2.2.2.2.2.2.1 (yw a.2.2.2.2.2.2.2.2.1 s) (0,[])).2).1==0 then
    (0,yz5 (ybB a s (nth a.2.2.2.2.2.2.2.2.1 (yw a.2.2.2.2.2.2.2.2.1 s) (0,[])).2).2 (yIJ a.2.2.2.2.2.2.2.2.1 (yw a.2.2.2.2.2.2.2.2.1 s).toNat))
  else ybB a s (nth a.2.2.2.2.2.2.2.2.1 (yw a.2.2.2.2.2.2.2.2.1 s) (0,[])).2
theorem yBE {a:dA} {s:Int} {d:List Int} (h:yT a s d=0):yo a=true∧(d.length:Int)=a.2.1.1 - 1∧d.all isW=true∧downA a=false∧yO a.2.1 s=true∧a.2.2.2.2.2.2.2.2.2.2.2=false∧a.2.2.2.2.2.1 < 60000∧a.2.2.2.2.2.2.2.1 < 59990:=by
  unfold yT at h
  simp only [yD,ywI,ybC]at h
  cases ha:yo a
  · rw [ha]at h; exact absurd (show (1:Int)=0 from h) (by decide)
  have hg:=yg.1 (yam ha)
  rw [ha,wr (show -9223372036854775808≤a.2.1.1 - 1 by omega) (by omega),wr (show -9223372036854775808≤a.2.1.2 - 1 by omega) (by omega)] at h
  cases hl:((d.length:Int) !=a.2.1.1 - 1)
  · cases hw:d.all isW
    · rw [hl,hw]at h; exact absurd (show (1:Int)=0 from h) (by decide)
    cases hd:a.2.2.2.2.2.2.2.2.2.2.1
    · cases hs:(leb 0 s&&leb s (a.2.1.2 - 1))
      · rw [hl,hw,hd,hs]at h; exact absurd (show (2:Int)=0 from h) (by decide)
      cases hb:a.2.2.2.2.2.2.2.2.2.2.2
      · cases h6:leb 60000 a.2.2.2.2.2.1
        · cases h7:leb 59990 a.2.2.2.2.2.2.2.1
          · have e6: ¬ (60000≤a.2.2.2.2.2.1):=fun g=>by rw [zk0 g]at h6; cases h6
            have e7: ¬ (59990≤a.2.2.2.2.2.2.2.1):=fun g=>by rw [zk0 g]at h7; cases h7
            exact ⟨rfl,bne_eq_false_iff_eq.1 hl,rfl,hd,by unfold yO; rw [yam ha,hs]; rfl,rfl,by omega,by omega⟩
          · rw [hl,hw,hd,hs,hb,h6,h7]at h; exact absurd (show (7:Int)=0 from h) (by decide)
        · rw [hl,hw,hd,hs,hb,h6]at h; exact absurd (show (7:Int)=0 from h) (by decide)
      · rw [hl,hw,hd,hs,hb]at h; exact absurd (show (5:Int)=0 from h) (by decide)
    · rw [hl,hw,hd]at h; exact absurd (show (6:Int)=0 from h) (by decide)
  · rw [hl]at h; exact absurd (show (1:Int)=0 from h) (by decide)
theorem yUP (a:dA):(yx a).2.2.2.2.2.2.2.2.1=a.2.2.2.2.2.2.2.2.1:=by
  unfold yx
  cases leb 4 (IntKind.i64.wrap (a.2.2.2.2.2.1 - a.2.2.2.2.2.2.1))
  · rfl
  · exact yvz a
theorem yYq (a:dA):(yeF a).2.2.2.2.2.2.2.2.1=a.2.2.2.2.2.2.2.2.1:=rfl
theorem yYu (a:dA) (s:Int) (d:List Int):(ybB a s d).2.2.2.2.2.2.2.2.2.1=a.2.2.2.2.2.2.2.2.1:=by
  unfold ybB
  have h2:=(yOU (yim (yx a) ((yx a).2.2.2.2.2.1,s,d))).trans (yUP a)
  generalize ybQ (yx a) ((yx a).2.2.2.2.2.1,s,d)=R at h2 ⊢
  have h3:=(yOU (yB0 (yeF R) s d)).trans ((yYq R).trans h2)
  generalize yaN (yeF R) s d=Q at h3 ⊢
  cases downA (yx a)
  · cases downA R
    · exact h3
    · exact h2
  · exact yUP a
theorem yY5 {l:List dW} {k:Int} (h0:0≤k) (h1:k < (l.length:Int)):(([]:List dW)++((l.drop (0:Int).toNat).take (k - 0).toNat))++((l.drop (k+1).toNat).take ((l.length:Int) - (k+1)).toNat)=yIJ l k.toNat:=by
  unfold yIJ
  rw [List.nil_append,show (0:Int).toNat=0 from rfl,List.drop_zero,Int.sub_zero,show (k+1).toNat=k.toNat+1 by omega,List.take_of_length_le (l:=l.drop (k.toNat+1)) (by rw [List.length_drop]; omega)]
def yuS (_:Nat) (a:dA):dA ⊕ (Int×dA):=bif (flushE a (nth a.2.2.2.2.2.2.2.2.1 0 (0,[])).1).1 !=0 then .inr (flushE a (nth a.2.2.2.2.2.2.2.2.1 0 (0,[])).1) else .inl (flushE a (nth a.2.2.2.2.2.2.2.2.1 0 (0,[])).1).2
def allE (a:dA):Int×dA:=goE yuS (fun b=>(0,b)) a.2.2.2.2.2.2.2.2.1.length 0 a
theorem yYP {e:dW} {l:List dW}:yw (e::l) e.1=0:=by
  unfold yw
  rw [yx1,show (e.1==e.1)=true from beq_self_eq_true _]; rfl
theorem yYR {a:dA} (h:0 < a.2.2.2.2.2.2.2.2.1.length) (h0:(flushE a (nth a.2.2.2.2.2.2.2.2.1 0 (0,[])).1).1=0):(flushE a (nth a.2.2.2.2.2.2.2.2.1 0 (0,[])).1).2.2.2.2.2.2.2.2.2.1=a.2.2.2.2.2.2.2.2.1.drop 1:=by
  unfold flushE at h0 ⊢
  have hk:yw a.2.2.2.2.2.2.2.2.1 (nth a.2.2.2.2.2.2.2.2.1 0 (0,[])).1=0:=by
    cases hl:a.2.2.2.2.2.2.2.2.1 with
    | nil=>rw [hl]at h; exact absurd h (Nat.lt_irrefl 0)
    | cons e l=>exact yYP
  rw [hk]at h0 ⊢
  generalize (nth a.2.2.2.2.2.2.2.2.1 0 (0,[])).2=D at h0 ⊢
  generalize (nth a.2.2.2.2.2.2.2.2.1 0 (0,[])).1=s at h0 ⊢
  cases hc:(yT a s D !=0)
  · rw [hc]at h0
    cases hr:((ybB a s D).1==0)
    · rw [hr]at h0
      exact absurd (show (ybB a s D).1=0 from h0) (beq_eq_false_iff_ne.1 hr)
    · rfl
  · rw [hc]at h0
    exact absurd (show yT a s D=0 from h0) (bne_iff_ne.1 hc)
inductive Turned (a:dA):dA→Prop where
  | same:Turned a a
  | put (b x:Int):blkOk a.2.1 b=true→isW x=true→Turned a (setOne a b x).2
  | flush (s:Int):Turned a (flushE a s).2
  | all:Turned a (allE a).2
  | fail (m:Int):a.2.2.2.1= -1→inb m a.2.2.1.length=true→Turned a (failOne a m)
  | spare:inb a.2.2.2.1 a.2.2.1.length=true→(nth a.2.2.1 a.2.2.2.1 noMem).2.2.1=true→Turned a (markA (spareNew a))
  | step:inb a.2.2.2.1 a.2.2.1.length=true→(nth a.2.2.1 a.2.2.2.1 noMem).2.2.1=false→a.2.2.2.2.1 < a.2.1.2→Turned a (stepOne a).2
  | check:Turned a (checkA a)
  | spoil (m s:Int):inb m a.2.2.1.length=true→0≤s→s < a.2.1.2→Turned a (setMem a m (spoil (nth a.2.2.1 m noMem) (dataAt s)))
def yWO (g:dG) (e:dW):Prop:=(0≤e.1∧e.1≤g.2 - 1)∧(e.2.length:Int)=g.1 - 1∧e.2.all isW=true
theorem yvR {g:dG} {l:List dW}:yaz g l=true↔(∀ e∈l,yWO g e)∧l.Pairwise (fun x y=>x.1 < y.1):=by
  have bad: ∀ i,ygV g l i=false↔yWO g (nth l i (0,[]))∧(0 < i→(nth l ((i - 1:Nat):Int) (0,[])).1 < (nth l i (0,[])).1):=by
    intro i
    unfold ygV yWO
    simp only [Bool.or_eq_false_iff,Bool.not_eq_false',bne_eq_false_iff_eq,Bool.and_eq_true,Bool.and_eq_false_iff,decide_eq_false_iff_not,zjQ]
    constructor
    · rintro ⟨h1,h2,h3,h4⟩
      refine ⟨⟨h1,h2,h3⟩,fun h0=> ?_⟩
      rcases h4 with h4 | h4
      · exact absurd h0 h4
      · have:=mt zk0 (by rw [h4]; simp: ¬ leb (nth l i (0,[])).1 (nth l ((i - 1:Nat):Int) (0,[])).1=true)
        omega
    · rintro ⟨⟨h1,h2,h3⟩,h4⟩
      refine ⟨h1,h2,h3,?_⟩
      by_cases h0:0 < i
      · exact .inr (zkZ (by have:=h4 h0; omega))
      · exact .inl h0
  unfold yaz
  simp only [Bool.not_eq_true',List.any_eq_false,List.mem_range,Bool.not_eq_true,bad]
  constructor
  · intro h
    refine ⟨fun e he=> ?_,?_⟩
    · obtain ⟨i,hi,rfl⟩:=List.getElem_of_mem he
      have:=(h i hi).1
      rwa [zjW,zcq hi]at this
    · rw [List.pairwise_iff_getElem]
      have step: ∀ (d i:Nat) (hi:i < l.length) (hj:i+d+1 < l.length),l[i].1 < l[i+d+1].1:=by
        intro d
        induction d with
        | zero =>
          intro i hi hj
          have:=(h (i+1) hj).2 (by omega)
          rwa [Nat.add_sub_cancel,zjW,zjW,zcq hi,zcq hj]at this
        | succ d ih =>
          intro i hi hj
          have h1:=ih i hi (by omega)
          have:=(h (i+d+1+1) hj).2 (by omega)
          rw [Nat.add_sub_cancel,zjW,zjW,zcq (show i+d+1 < l.length by omega),zcq (show i+d+1+1 < l.length from hj)] at this
          exact Int.lt_trans h1 this
      intro i j hi hj hij
      have:=step (j - i - 1) i hi (by omega)
      have e:i+(j - i - 1)+1=j:=by omega
      simp only [e]at this
      exact this
  · rintro ⟨h1,h2⟩ i hi
    rw [List.pairwise_iff_getElem]at h2
    refine ⟨by rw [zjW,zcq hi]; exact h1 _ (List.getElem_mem hi),fun h0=> ?_⟩
    rw [zjW,zjW,zcq hi,zcq (show i - 1 < l.length by omega)]
    exact h2 (i - 1) i (by omega) hi (by omega)
theorem yUU {g:dG} {l:List dW} (k:Nat) (h:yaz g l=true):yaz g (yIJ l k)=true:=by
  rw [yvR]at h ⊢
  have hs:(yIJ l k).Sublist l:=by
    unfold yIJ
    have:(l.take k++l.drop (k+1)).Sublist (l.take k++l.drop k):=List.Sublist.append_left (by rw [← List.drop_drop]; exact List.drop_sublist _ _) _
    rwa [List.take_append_drop]at this
  exact ⟨fun e he=>h.1 e (hs.subset he),h.2.sublist hs⟩
theorem yXR (e:dW): ∀ (l acc:List dW),l.foldl (ybA e) (true,acc)=(true,acc++l.filter (fun x=>x.1 !=e.1))
  | [],acc=>by simp
  | x::t,acc=>by
    rw [List.foldl_cons]
    have:ybA e (true,acc) x=(true,acc++(bif x.1 !=e.1 then [x] else [])):=rfl
    rw [this,yXR e t,List.filter_cons]
    cases x.1 !=e.1<;>simp
theorem yZl {e:dW} {l:List dW} (h:l.Pairwise (fun x y=>x.1 < y.1)):yIx l e=l.filter (fun x=>ltb x.1 e.1)++e::l.filter (fun x=>ltb e.1 x.1):=by
  have: ∀ (l acc:List dW),l.Pairwise (fun x y=>x.1 < y.1)→(bif (l.foldl (ybA e) (false,acc)).1 then (l.foldl (ybA e) (false,acc)).2 else (l.foldl (ybA e) (false,acc)).2++ [e])=acc++(l.filter (fun x=>ltb x.1 e.1)++e::l.filter (fun x=>ltb e.1 x.1)):=by
    intro l
    induction l with
    | nil=>intro acc _; simp
    | cons x t ih =>
      intro acc h
      obtain ⟨hx,ht⟩:=List.pairwise_cons.1 h
      rw [List.foldl_cons]
      by_cases hle:e.1≤x.1
      · have h1:ybA e (false,acc) x=(true,(acc++ [e])++(bif x.1 !=e.1 then [x] else [])):=by
          unfold ybA; rw [zk0 hle]; rfl
        have h2:t.filter (fun x=>x.1 !=e.1)=t:=List.filter_eq_self.2 (fun y hy=>bne_iff_ne.2 (by have:=hx y hy; omega))
        have h3:t.filter (fun x=>ltb x.1 e.1)= []:=List.filter_eq_nil_iff.2 (fun y hy=>by rw [zkm (by have:=hx y hy; omega)]; simp)
        have h4:t.filter (fun x=>ltb e.1 x.1)=t:=List.filter_eq_self.2 (fun y hy=>zjI (by have:=hx y hy; omega))
        rw [h1,yXR,h2,List.filter_cons,List.filter_cons,h3,h4,zkm (show e.1≤x.1 by omega)]
        by_cases he:x.1=e.1
        · rw [show (x.1 !=e.1)=false from bne_eq_false_iff_eq.2 he,zkm (show x.1≤e.1 by omega)]; simp
        · rw [show (x.1 !=e.1)=true from bne_iff_ne.2 he,zjI (show e.1 < x.1 by omega)]; simp
      · have h1:ybA e (false,acc) x=(false,acc++ [x]):=by
          unfold ybA; rw [zkZ (show x.1 < e.1 by omega),show (x.1 !=e.1)=true from bne_iff_ne.2 (by omega)]; rfl
        rw [h1,ih _ ht,List.filter_cons,List.filter_cons,zjI (show x.1 < e.1 by omega),zkm (show x.1≤e.1 by omega)]
        simp
  have:=this l [] h
  rw [List.nil_append]at this
  exact this
theorem yUV {g:dG} {l:List dW} {e:dW} (h:yaz g l=true) (he:yWO g e):yaz g (yIx l e)=true:=by
  rw [yvR]at h ⊢
  rw [yZl h.2]
  refine ⟨fun x hx=> ?_,?_⟩
  · rcases List.mem_append.1 hx with h1 | h1
    · exact h.1 x (List.mem_filter.1 h1).1
    · rcases List.mem_cons.1 h1 with rfl | h1
      · exact he
      · exact h.1 x (List.mem_filter.1 h1).1
  · rw [List.pairwise_append,List.pairwise_cons]
    refine ⟨h.2.filter _,⟨fun y hy=>zjT.1 (List.mem_filter.1 hy).2,h.2.filter _⟩,fun x hx y hy=> ?_⟩
    have h1:=zjT.1 (List.mem_filter.1 hx).2
    rcases List.mem_cons.1 hy with rfl | hy
    · exact h1
    · exact Int.lt_trans h1 (zjT.1 (List.mem_filter.1 hy).2)
theorem ysk {g:dG} {l:List dW} (h:yaz g l=true) (hg:ye g=true):l.length≤8:=by
  rw [yvR]at h
  have hg:=yg.1 hg
  have:=yDN (l:=l.map (fun e=>e.1)) (lo:=0) (n:=g.2) (by rw [List.pairwise_map]; exact h.2) (fun x hx=>by
    obtain ⟨e,he,rfl⟩:=List.mem_map.1 hx
    have:=(h.1 e he).1; omega) (by omega)
  rw [List.length_map]at this
  omega
theorem yXz {a:dA} (r:dN) (h:Keep a):Keep (ybQ a r) :=
  ysn (yky (P:=Keep) (one:=ykd r) (ypf r) (fun _ _ h hi=>yzD h (zkO hi)) _ a (Nat.le_refl _) h)
theorem yZJ {a:dA} (r:dN) (h:yfO a):yfO (ybQ a r) :=
  yv4 (yky (P:=yfO) (one:=ykd r) (ypf r) (fun _ _ h _=>yEK h _ _ _) _ a (Nat.le_refl _) h)
theorem yU3 {a:dA} (s:Int) (d:List Int) (h:Keep a):Keep (yaN a s d) :=
  yky (P:=Keep) (one:=ycO (yj a.2.1 s) a.2.1.1 s d) (yp4 _ _ _ _) (fun b i h hi=>by
    unfold ycO
    cases yby b i s
    · exact h
    · exact yzD h (zkO hi)) _ a (Nat.le_refl _) h
theorem yZc {a:dA} (s:Int) (d:List Int) (h:yfO a):yfO (yaN a s d) :=
  yky (P:=yfO) (one:=ycO (yj a.2.1 s) a.2.1.1 s d) (yp4 _ _ _ _) (fun b i h hi=>by
    unfold ycO
    cases yby b i s
    · exact h
    · exact yEK h _ _ _) _ a (Nat.le_refl _) h
theorem y0S {k:Int} {a:dA} (r:dN) (h:Wk k a):Wk k (ybQ a r):=yx8 (yim _ _) (yXz r h.2.1) (yZJ r h.2.2.1) h
theorem y0t {k:Int} {a:dA} (s:Int) (d:List Int) (h:Wk k a):Wk k (yaN a s d):=yx8 (yB0 _ _ _) (yU3 s d h.2.1) (yZc s d h.2.2.1) h
theorem yZ1 {k:Int} {a:dA} (h:Wk k a) (h1:a.2.2.2.2.2.1 < 60000) (h2:a.2.2.2.2.2.1 - a.2.2.2.2.2.2.1≤3):Wk k (yeF a):=by
  obtain ⟨⟨c1,c2,c3,c4,c5,c6,c7,c8,c9,c10,c11⟩,g2,g3,g4,g5⟩:=h
  have e:IntKind.i64.wrap (a.2.2.2.2.2.1+1)=a.2.2.2.2.2.1+1:=wr (by omega) (by omega)
  refine ⟨⟨c1,c2,c3,c4,c5,c6,c7,⟨?_,?_⟩,?_,c10,c11⟩,g2,g3,g4,g5⟩
  · show a.2.2.2.2.2.2.1≤IntKind.i64.wrap (a.2.2.2.2.2.1+1); omega
  · show IntKind.i64.wrap (a.2.2.2.2.2.1+1)≤60000; omega
  · show IntKind.i64.wrap (a.2.2.2.2.2.1+1)≤a.2.2.2.2.2.2.1+4; omega
theorem ykx {a b:dA} (h:yn a=yn b):a.2.2.2.2.2.1=b.2.2.2.2.2.1:=congrArg (fun x=>x.2.2.2.2.1) h
theorem yUR {a b:dA} (h:yn a=yn b):a.2.2.2.2.2.2.1=b.2.2.2.2.2.2.1:=congrArg (fun x=>x.2.2.2.2.2.1) h
theorem yOS {a:dA} (h:yfO a):yn (checkA a)=yn (ya4 (yef a)):=by
  rw [yED h,yso]
  have:=yig a
  unfold yn at this ⊢
  simp only [Prod.mk.injEq]at this
  obtain ⟨h1,h2,h3,h4,h5,h6,h7,h8,h9⟩:=this
  unfold ya4 yef
  simp only [h1,h2,h3,h4,h5,h7,h8,h9]
theorem y0Q {k:Int} {a:dA} (h:Wk k a) (hk:k+1≤60000):Wk (k+1) (yx a)∧(yx a).2.2.2.2.2.1=a.2.2.2.2.2.1∧(yx a).2.2.2.2.2.1 - (yx a).2.2.2.2.2.2.1≤3:=by
  have c:=h.1
  unfold coreOk at c
  unfold yx
  rw [wr (by omega) (by omega)]
  cases h4:leb 4 (a.2.2.2.2.2.1 - a.2.2.2.2.2.2.1)
  · refine ⟨ybw h (by omega),rfl,?_⟩
    have: ¬ (4≤a.2.2.2.2.2.1 - a.2.2.2.2.2.2.1):=fun g=>by rw [zk0 g]at h4; cases h4
    show a.2.2.2.2.2.1 - a.2.2.2.2.2.2.1≤3; omega
  · have e1:(checkA a).2.2.2.2.2.1=a.2.2.2.2.2.1:=(ykx (yOS h.2.2.1)).trans rfl
    have e2:(checkA a).2.2.2.2.2.2.1=a.2.2.2.2.2.1:=(yUR (yOS h.2.2.1)).trans rfl
    rw [cond_true]
    exact ⟨yX2 h hk,e1,by omega⟩
theorem yZ4 {k:Int} {a:dA} (s:Int) (d:List Int) (h:Wk k a) (hs:a.2.2.2.2.2.1 < 60000) (hk:k+1≤60000):Wk (k+1) (ybB a s d).2∧(ybB a s d).1=0:=by
  obtain ⟨h1,h2,h3⟩:=y0Q h hk
  have h4:=y0S ((yx a).2.2.2.2.2.1,s,d) h1
  have e1:=ykx (yim (yx a) ((yx a).2.2.2.2.2.1,s,d))
  have e2:=yUR (yim (yx a) ((yx a).2.2.2.2.2.1,s,d))
  unfold ybB
  generalize ybQ (yx a) ((yx a).2.2.2.2.2.1,s,d)=R at h4 e1 e2 ⊢
  have h5:=y0t s d (yZ1 h4 (by omega) (by omega))
  generalize yaN (yeF R) s d=Q at h5 ⊢
  rw [h1.2.2.1.1,h4.2.2.1.1,h5.2.2.1.1]
  exact ⟨h5,rfl⟩
theorem yKX {k:Int} {a:dA} {l:List dW} (h:Wk k a) (hd:yaz a.2.1 l=true):Wk k (yz5 a l):=by
  obtain ⟨⟨c1,c2,c3,c4,c5,c6,c7,c8,c9,c10,c11⟩,g2,g3,g4,g5⟩:=h
  exact ⟨⟨c1,c2,hd,c4,c5,c6,c7,c8,c9,c10,c11⟩,g2,g3,g4,g5⟩
theorem yVh (a:dA) (s:Int) (d:List Int):(ybB a s d).2.2.1=a.2.1:=by
  unfold ybB
  have h2:=(yaF (yim (yx a) ((yx a).2.2.2.2.2.1,s,d))).trans (ySy a)
  generalize ybQ (yx a) ((yx a).2.2.2.2.2.1,s,d)=R at h2 ⊢
  have h3:=(yaF (yB0 (yeF R) s d)).trans (show (yeF R).2.1=a.2.1 from h2)
  generalize yaN (yeF R) s d=Q at h3 ⊢
  cases downA (yx a)
  · cases downA R
    · exact h3
    · exact h2
  · exact ySy a
theorem yX3 {k:Int} {a:dA} (s:Int) (h:Wk k a) (hk:k+1≤60000):Wk (k+1) (flushE a s).2:=by
  unfold flushE
  cases ltb (yw a.2.2.2.2.2.2.2.2.1 s) 0
  · generalize hD:(nth a.2.2.2.2.2.2.2.2.1 (yw a.2.2.2.2.2.2.2.2.1 s) (0,[])).2=D
    cases hc:(yT a s D !=0)
    · have hz:=yBE (bne_eq_false_iff_eq.1 hc)
      obtain ⟨h1,h2⟩:=yZ4 s D h hz.2.2.2.2.2.2.1 hk
      rw [show ((ybB a s D).1==0)=true from beq_iff_eq.2 h2]
      exact yKX h1 (by rw [yVh]; exact yUU _ h.1.2.2.1)
    · exact ybw h (by omega)
  · exact ybw h (by omega)
theorem yX4 {k:Int}: ∀ (n i:Nat) (j:Int) (a:dA),Wk j a→j+n≤k→k≤60000→Wk k (goE yuS (fun b=>((0:Int),b)) n i a).2
  | 0,_,j,a,h,h1,_=>ybw h (by omega)
  | n+1,i,j,a,h,h1,h2=>by
    have h3:=yX3 (nth a.2.2.2.2.2.2.2.2.1 0 (0,[])).1 h (by omega)
    unfold goE yuS
    cases ((flushE a (nth a.2.2.2.2.2.2.2.2.1 0 (0,[])).1).1 !=0)
    · exact yX4 n (i+1) (j+1) _ h3 (by omega) h2
    · exact ybw h3 (by omega)
theorem y0P {k:Int} {a:dA} (h:Wk k a) (hk:k+8≤60000):Wk (k+8) (allE a).2:=by
  have:=ysk h.1.2.2.1 h.1.1
  exact yX4 _ 0 k a h (by omega) hk
theorem y0T {k:Int} {a:dA} {b n:Int} (h:Wk k a) (hb:blkOk a.2.1 b=true) (hn:isW n=true):Wk k (setOne a b n).2:=by
  unfold setOne
  cases hs:(yK a (yQ a.2.1 b)).2
  · exact h
  · have hstr:=yqg hb
    have hl:=ylT (yZt h) hstr hs
    refine yKX h (yUV h.1.2.2.1 ⟨(yao.1 hstr).2,by rw [List.length_set]; exact hl,yUI ?_ hn⟩)
    unfold yK
    cases hk:leb 0 (yw a.2.2.2.2.2.2.2.2.1 (yQ a.2.1 b))
    · rw [h.2.2.2.1]; exact yUS _ _
    · have:=(yrz (d:=((0:Int),([]:List Int))) hk).1
      exact yu3 (P:=fun e:dW=>e.2.all isW=true) this (fun e he=>((yvR.1 h.1.2.2.1).1 e he).2.2)
theorem yu0 {a:dA} (h:Keep a) {i:Int} (h0:0≤i) (h1:i < a.2.1.1):ym (dsk a i)=true∧((dsk a i).1.length:Int)=6+a.2.1.2∧((dsk a i).2.2.1=true→i=a.2.2.2.1∨a.2.2.2.2.2.2.2.2.2.2.2=true):=by
  have:=h.1.1 i.toNat (by have:=h.1.2; omega)
  unfold ywz at this
  rw [Int.toNat_of_nonneg h0]at this
  exact this
theorem yEF {s:Int} (h0:0≤s) (h1:s≤1000):dataAt s=s+6:=by
  unfold dataAt
  rw [zk0 h0,zk0 (show s≤1099511627776 by omega)]; rfl
def ydC (a:dA) (s i:Int):Bool:=yaK a.2.2.2.1 a.2.2.2.2.1 i s (dsk a i)&& !(yrr (dsk a i) (s+6))
def View (V:Int→Int→Int) (a:dA):Prop:= ∀ i s,0≤i→i < a.2.1.1→0≤s→s < a.2.1.2→ydC a s i=true→ynU (dsk a i) (s+6)= [V s i]
def vlist (V:Int→Int→Int) (N:Int) (s:Int):List Int:=(List.range N.toNat).map (fun (i:Nat)=>V s i)
structure EvV (g:dG) (V:Int→Int→Int):Prop where
  ev: ∀ s,0≤s→s < g.2→xorOf (vlist V g.1 s)=0
  ew: ∀ s i,0≤s→s < g.2→0≤i→i < g.1→isW (V s i)=true
theorem yom {V:Int→Int→Int} {a:dA} {i s:Int} (hg:ye a.2.1=true) (hk:Keep a) (hv:View V a) (i0:0≤i) (i1:i < a.2.1.1) (s0:0≤s) (s1:s < a.2.1.2):yl a i s=ydC a s i∧(ydC a s i=true→ygx a i s=V s i):=by
  have hge:=yg.1 hg
  have hin:inb i a.2.2.1.length=true:=zjP.2 (by have:=hk.1.2; omega)
  obtain ⟨d1,d2,d3⟩:=yu0 hk i0 i1
  have key:yaK a.2.2.2.1 a.2.2.2.2.1 i s (dsk a i)=true→yci a i s=bif yrr (dsk a i) (s+6) then ([],false) else (ynU (dsk a i) (s+6),true):=fun hl=>by
    simp only [yaK,Bool.and_eq_true,Bool.not_eq_true'] at hl
    unfold yci
    rw [yEF s0 (by omega)]
    exact yZU d1 hl.1 (zjP.2 (show 0≤s+6∧s+6 < ((dsk a i).1.length:Int) by omega))
  have hw:yl a i s=ydC a s i:=by
    unfold yl
    rw [yYB hin]
    cases hl:yaK a.2.2.2.1 a.2.2.2.2.1 i s (dsk a i)
    · unfold ydC; rw [hl]; rfl
    · rw [key hl]
      cases hb:yrr (dsk a i) (s+6)
      · have hh:ydC a s i=true:=by unfold ydC; rw [hl,hb]; rfl
        rw [hh,cond_false,hv i s i0 i1 s0 s1 hh]; rfl
      · unfold ydC; rw [hl,hb]; rfl
  refine ⟨hw,fun hh=> ?_⟩
  unfold ygx
  rw [hw,hh,cond_true]
  have hh':=hh
  unfold ydC at hh'
  rw [Bool.and_eq_true,Bool.not_eq_true'] at hh'
  rw [key hh'.1,hh'.2,cond_false,hv i s i0 i1 s0 s1 hh]; rfl
theorem yZ6: ∀ (l:List Int) (k:Nat) (x:Int),k < l.length→yde (l.set k x)=yde l ^^^ bv (nth l k 0) ^^^ bv x:=by
  intro l k x hk
  have e1:l=l.take k++nth l k 0::l.drop (k+1):=by
    rw [zjW,zcq hk,← List.drop_eq_getElem_cons hk,List.take_append_drop]
  have e2:l.set k x=l.take k++x::l.drop (k+1):=by
    rw [List.set_eq_take_append_cons_drop,if_pos hk]
  have fo: ∀ (l:List Int) (v:BitVec 64),l.foldl (fun v x=>v ^^^ bv x) v=v ^^^ yde l:=by
    intro l
    induction l with
    | nil=>intro v; show v=v ^^^ 0#64; rw [BitVec.xor_zero]
    | cons y t ih =>
      intro v
      unfold yde
      rw [List.foldl_cons,List.foldl_cons,ih,ih (0#64 ^^^ bv y),BitVec.zero_xor,BitVec.xor_assoc]
  have cut: ∀ (A:List Int) (y:Int) (B:List Int),yde (A++y::B)=yde A ^^^ bv y ^^^ yde B:=fun A y B=>by
    show (A++y::B).foldl _ _=_
    rw [List.foldl_append,List.foldl_cons,fo]; rfl
  rw [e2,cut]
  conv=>rhs; rw [e1]
  rw [cut]
  have hn:nth (List.take k l++nth l (↑k) 0::List.drop (k+1) l) (k:Int) 0=nth l k 0:=by rw [← e1]
  rw [hn,BitVec.xor_assoc (yde (l.take k)),BitVec.xor_assoc (yde (l.take k)),BitVec.xor_comm (bv (nth l k 0)),BitVec.xor_assoc (yde (l.take k)),yVk,BitVec.xor_comm (bv x),BitVec.xor_assoc]
theorem yR9 {l:List Int} (h:xorOf l=0):yde l=0#64:=by
  rw [ykW]at h
  have:=congrArg bv h
  rw [yrs]at this
  rw [this]; rfl
theorem yU7 {p:Nat→Bool}: ∀ {n:Nat},ydQ p n=false→ ∀ j,j < n→p j=true∨(j:Int)=yp p n
  | 0,_,j,hj=>absurd hj (Nat.not_lt_zero _)
  | n+1,h,j,hj=>by
    have h':ydQ p n=false:=by
      unfold ydQ at h ⊢
      rw [List.range_succ,List.any_append,Bool.or_eq_false_iff]at h
      exact h.1
    have hl:(!p n&&leb 0 (yp p n))=false:=by
      unfold ydQ at h
      rw [List.range_succ,List.any_append,Bool.or_eq_false_iff]at h
      simpa using h.2
    unfold yp
    rcases Nat.lt_succ_iff_lt_or_eq.1 hj with hj | rfl
    · rcases yU7 h' j hj with h1 | h1
      · exact .inl h1
      · cases hp:p n
        · rw [hp,← h1]at hl
          rw [zk0 (show (0:Int)≤j by omega)] at hl; cases hl
        · exact .inr h1
    · cases hp:p j
      · exact .inr rfl
      · exact .inl rfl
theorem yU6 {p:Nat→Bool}: ∀ {n:Nat},leb 0 (yp p n)=false→ ∀ j,j < n→p j=true
  | 0,_,j,hj=>absurd hj (Nat.not_lt_zero _)
  | n+1,h,j,hj=>by
    unfold yp at h
    cases hp:p n
    · rw [hp,cond_false,zk0 (show (0:Int)≤n by omega)] at h; cases h
    · rw [hp,cond_true]at h
      rcases Nat.lt_succ_iff_lt_or_eq.1 hj with hj | rfl
      · exact yU6 h j hj
      · exact hp
theorem yCA (V:Int→Int→Int) (N s:Int):(vlist V N s).length=N.toNat:=by unfold vlist; rw [List.length_map,List.length_range]
theorem yZr (V:Int→Int→Int) (N s:Int) {j:Nat} (h:j < (vlist V N s).length):(vlist V N s)[j]=V s j:=by simp [vlist]
theorem yX1 (V:Int→Int→Int) {N s i:Int} (h0:0≤i) (h1:i < N):nth (vlist V N s) i 0=V s i:=by
  unfold vlist nth
  rw [zcq (by rw [List.length_map,List.length_range]; omega),List.getElem_map,List.getElem_range,Int.toNat_of_nonneg h0]
theorem yR8 {V:Int→Int→Int} {a:dA} {s:Int} (hg:ye a.2.1=true) (hk:Keep a) (he:EvV a.2.1 V) (hv:View V a) (s0:0≤s) (s1:s < a.2.1.2) :
    yy a s=bif ydQ (fun (i:Nat)=>ydC a s i) a.2.1.1.toNat then ([],false) else (vlist V a.2.1.1 s,true):=by
  have hw: ∀ i:Nat,i < a.2.1.1.toNat→yl a i s=ydC a s i:=fun i hi=>(yom hg hk hv (by omega) (by omega) s0 s1).1
  have hm: ∀ n,n≤a.2.1.1.toNat→yp (fun (i:Nat)=>yl a i s) n=yp (fun (i:Nat)=>ydC a s i) n:=by
    intro n
    induction n with
    | zero=>intro _; rfl
    | succ n ih=>intro hn; unfold yp; rw [hw n (by omega),ih (by omega)]
  have h2:ydQ (fun (i:Nat)=>yl a i s) a.2.1.1.toNat=ydQ (fun (i:Nat)=>ydC a s i) a.2.1.1.toNat:=by
    unfold ydQ
    rw [Bool.eq_iff_iff,List.any_eq_true,List.any_eq_true]
    constructor
    · rintro ⟨i,hi,h⟩
      have hi':=List.mem_range.1 hi
      exact ⟨i,hi,by dsimp only at h ⊢; rw [hw i hi',hm i (by omega)] at h; exact h⟩
    · rintro ⟨i,hi,h⟩
      have hi':=List.mem_range.1 hi
      exact ⟨i,hi,by dsimp only at h ⊢; rw [hw i hi',hm i (by omega)]; exact h⟩
  unfold yy
  rw [h2,hm _ (Nat.le_refl _)]
  cases hc:ydQ (fun (i:Nat)=>ydC a s i) a.2.1.1.toNat
  · simp only [cond_false]
    cases hn:leb 0 (yp (fun (i:Nat)=>ydC a s i) a.2.1.1.toNat)
    · simp only [cond_false]
      congr 1
      refine List.map_congr_left fun i hi=> ?_
      have hi':=List.mem_range.1 hi
      exact (yom hg hk hv (by omega) (by omega) s0 s1).2 (yU6 hn i hi')
    · simp only [cond_true]
      congr 1
      rcases yH8 (fun (i:Nat)=>ydC a s i) a.2.1.1.toNat with h3 | ⟨k0,k1,k2⟩
      · rw [h3]at hn; cases hn
      · have hu:=yU7 hc
        generalize yp (fun (i:Nat)=>ydC a s i) a.2.1.1.toNat=k at *
        obtain ⟨k,rfl⟩: ∃ m:Nat,k=m:=⟨k.toNat,by omega⟩
        rw [Int.toNat_natCast]at k2 ⊢
        have hkl:k < (vlist V a.2.1.1 s).length:=by rw [yCA]; omega
        have e:yE a s a.2.1.1.toNat=(vlist V a.2.1.1 s).set k 0:=by
          refine List.ext_getElem (by rw [yeg,List.length_set,yCA]) fun j h3 h4=> ?_
          rw [yeg]at h3
          rw [List.getElem_set]
          have e1:(yE a s a.2.1.1.toNat)[j]'(by rw [yeg]; exact h3)=ygx a j s:=by unfold yE; simp
          have e2:(vlist V a.2.1.1 s)[j]'(by rw [yCA]; exact h3)=V s j:=by unfold vlist; simp
          rw [e1]
          by_cases hj:k=j
          · subst hj
            rw [if_pos rfl]
            unfold ygx
            rw [hw k (by omega),k2]; rfl
          · rw [if_neg hj,e2]
            rcases hu j h3 with h5 | h5
            · exact (yom hg hk hv (by omega) (by omega) s0 s1).2 h5
            · exact absurd h5 (by omega)
        have hx:xorOf (yE a s a.2.1.1.toNat)=V s k:=by
          rw [e,ykW,yZ6 _ _ _ hkl,yR9 (he.ev s s0 s1),BitVec.zero_xor,show bv 0=0#64 by decide,BitVec.xor_zero,yX1 V (by omega) (by omega)]
          have:=yu1.1 (he.ew s k s0 s1 (by omega) (by omega))
          exact yXY (by omega) (by omega)
        rw [hx,e,List.set_set]
        refine List.ext_getElem (by rw [List.length_set]) fun j h3 h4=> ?_
        rw [List.getElem_set]
        by_cases hj:k=j
        · subst hj
          rw [if_pos rfl]
          exact (yZr _ _ _ h4).symm
        · rw [if_neg hj]
  · rfl
theorem yVg {k:Int} {a b:dA} (h:Wk k a) (ht:Turned a b) (hk:k+8≤60000):Wk (k+8) b:=by
  cases ht with
  | same=>exact ybw h (by omega)
  | put b x hb hx=>exact ybw (y0T h hb hx) (by omega)
  | flush s=>exact ybw (yX3 s h (by omega)) (by omega)
  | all=>exact y0P h hk
  | fail m hl hm=>exact ybw (y0u h hl hm (by omega)) (by omega)
  | spare hl _=>exact ybw (yZ2 h hl (by omega)) (by omega)
  | step hl _ hb=>exact ybw (y0v h hl hb) (by omega)
  | check=>exact ybw (yX2 h (by omega)) (by omega)
  | spoil m s hm _ _=>exact ybw (yZ3 h hm) (by omega)
structure Ix (k:Int) (V:Int→Int→Int) (a:dA):Prop where
  xc:coreOk a
  xk:Keep a
  xu:downA a=false
  xb:a.2.2.2.2.2.2.2.2.2.2.2=false
  xg:a.2.2.2.2.2.2.2.1≤k
  xs:a.2.2.2.2.2.1≤k
  xe:EvV a.2.1 V
  xv:View V a
  xn: ∀ i,0≤i→i < a.2.1.1→((dsk a i).2.1.length:Int)≤1+(bif i==a.2.2.2.1 then a.2.2.2.2.1 else 0)
theorem yQa {k:Int} {V:Int→Int→Int} {a:dA} (h:Ix k V a):yo a=true:=ySw.2 ⟨h.xc,h.xk⟩
theorem ydD {k j:Int} {V:Int→Int→Int} {a:dA} (h:Ix k V a) (hj:k≤j):Ix j V a:=⟨h.xc,h.xk,h.xu,h.xb,Int.le_trans h.xg hj,Int.le_trans h.xs hj,h.xe,h.xv,h.xn⟩
def yyv (S:Int) (m x:dM):Prop:=(x.2.2.1=false→m.2.2.1=false∧ ∀ k,6≤k→k < 6+S→yrr x k=false→yrr m k=false∧ynU x k=ynU m k)
theorem yCf (S:Int) (m:dM):yyv S m m:=fun h=>⟨h,fun _ _ _ hb=>⟨hb,rfl⟩⟩
theorem yQd {S:Int} {m x y:dM} (h:yyv S m x) (g:yyv S x y):yyv S m y:=fun hy=>by
  obtain ⟨h1,h2⟩:=g hy
  obtain ⟨h3,h4⟩:=h h1
  exact ⟨h3,fun k k0 k1 hb=>⟨(h4 k k0 k1 (h2 k k0 k1 hb).1).1,(h2 k k0 k1 hb).2.trans (h4 k k0 k1 (h2 k k0 k1 hb).1).2⟩⟩
theorem yEO {S:Int} {m:dM} (h:ym m=true):yyv S m (yr m):=fun hf=>by
  rw [(yB7 m).2]at hf
  exact ⟨hf,fun k k0 k1 hb=>⟨by rw [yY9]at hb; exact hb,yZa h hf (by omega)⟩⟩
theorem yXC {S n:Int} {s:List Int} {m:dM} (hn:n < 6):yyv S m (ygE n s m):=fun hf=>by
  unfold ygE at hf ⊢
  cases hm:m.2.2.1
  · refine ⟨rfl,fun k k0 k1 hb=> ?_⟩
    rw [cond_false]at hb ⊢
    cases hc:ybj m n s
    · unfold yF at hb ⊢
      rw [hc]at hb ⊢; exact ⟨hb,rfl⟩
    · rw [yHt hc,show (k !=n)=true from bne_iff_ne.2 (by omega),Bool.and_true]at hb
      rw [yBZ hc,show (n==k)=false from beq_eq_false_iff_ne.2 (by omega)]
      exact ⟨hb,rfl⟩
  · rw [hm]at hf
    rw [cond_true,hm]at hf; cases hf
theorem yZd (n:Int) (s:List Int) (m:dM):(ygE n s m).2.2.1=m.2.2.1:=by
  unfold ygE
  cases hm:m.2.2.1
  · show (yF m n s).1.2.2.1=false
    rw [(yCB m n s).2]; exact hm
  · exact hm
theorem y0Y (n:Int) (s:List Int) (m:dM):(ygE n s m).2.1.length≤m.2.1.length+1:=by
  unfold ygE
  cases m.2.2.1
  · show (yF m n s).1.2.1.length≤_
    unfold yF
    cases ybj m n s
    · show m.2.1.length≤_; omega
    · show (m.2.1++ [(n,s)]).length≤_; rw [List.length_append]; simp only [List.length_cons,List.length_nil]; omega
  · show m.2.1.length≤_; omega
theorem yIG {V:Int→Int→Int} {a b:dA} (hg:b.2.1=a.2.1) (hl: ∀ i s,0≤i→i < a.2.1.1→0≤s→yaK b.2.2.2.1 b.2.2.2.2.1 i s (dsk b i)=true→(i !=a.2.2.2.1||ltb s a.2.2.2.2.1)=true∧yyv a.2.1.2 (dsk a i) (dsk b i)) (h:View V a):View V b:=fun i s i0 i1 s0 s1 hh=>by
  rw [hg]at i1 s1
  unfold ydC at hh
  rw [Bool.and_eq_true,Bool.not_eq_true'] at hh
  obtain ⟨h1,h2⟩:=hl i s i0 i1 s0 hh.1
  have hf:(dsk b i).2.2.1=false:=by
    have:=hh.1
    simp only [yaK,Bool.and_eq_true,Bool.not_eq_true'] at this; exact this.1
  obtain ⟨h3,h4⟩:=h2 hf
  obtain ⟨h5,h6⟩:=h4 (s+6) (by omega) (by omega) hh.2
  rw [h6]
  exact h i s i0 i1 s0 s1 (by unfold ydC yaK; rw [h3,h1,h5]; rfl)
theorem yZq {V:Int→Int→Int} {a b:dA} (hc:yn b=yn a) (hl: ∀ i,0≤i→i < a.2.1.1→yyv a.2.1.2 (dsk a i) (dsk b i)) (h:View V a):View V b :=
  yIG (yaF hc) (fun i s i0 i1 s0 hh=>⟨by
    rw [ysj hc,yfh hc]at hh
    simp only [yaK,Bool.and_eq_true]at hh; exact hh.2,hl i i0 i1⟩) h
theorem yIO {k:Int} {V:Int→Int→Int} {a b:dA} (hc:yn b=yn a) (hk:Keep b) (hu:downA b=false) (hl: ∀ i,0≤i→i < a.2.1.1→yyv a.2.1.2 (dsk a i) (dsk b i)∧(dsk b i).2.1.length≤(dsk a i).2.1.length) (h:Ix k V a):Ix k V b:=by
  refine ⟨yII hc h.xc,hk,hu,(yLp hc).trans h.xb,by rw [yy2 hc]; exact h.xg,by rw [ykx hc]; exact h.xs,by rw [yaF hc]; exact h.xe,yZq hc (fun i i0 i1=>(hl i i0 i1).1) h.xv,fun i i0 i1=> ?_⟩
  rw [yaF hc]at i1
  rw [ysj hc,yfh hc]
  have:=h.xn i i0 i1
  have:=(hl i i0 i1).2
  omega
theorem yEA {g:Int→dM→dM} {a r:dA} (h:Adv g a r a.2.2.1.length) (hu:downA r=false) {i:Int} (i0:0≤i) (i1:i < (a.2.2.1.length:Int)):dsk r i=g i (dsk a i):=by
  obtain ⟨_,_,k,h1,h2,h3⟩:=h
  rw [h2 i i0,h3 hu,zjI i1]; rfl
theorem yN5 {a:dA} (hu:downA (yA a)=false) {i:Int} (i0:0≤i) (i1:i < (a.2.2.1.length:Int)):dsk (yA a) i=yr (dsk a i):=by
  cases hd:downA a
  · exact yEA (yZW hd) hu i0 i1
  · rw [yVc hd]at hu; rw [hd]at hu; cases hu
theorem yYI {a:dA} (hu:downA (yA a)=false):downA a=false:=by
  cases hd:downA a
  · rfl
  · rw [yVc hd]at hu; rw [hd]at hu; cases hu
theorem yKQ {m:dM} (h:ym m=true):(yr m).2.1.length≤m.2.1.length:=by
  unfold yr
  rw [h]
  cases m.2.2.1
  · exact Nat.zero_le _
  · exact Nat.le_refl _
theorem y0l {k:Int} {V:Int→Int→Int} {a:dA} (h:Ix k V a) (hu:downA (yA a)=false):Ix k V (yA a) :=
  yIO (yig a) (ysn h.xk) hu (fun i i0 i1=>by
    obtain ⟨d1,_,_⟩:=yu0 h.xk i0 i1
    rw [yN5 hu i0 (by have:=h.xk.1.2; omega)]
    exact ⟨yEO d1,yKQ d1⟩) h
theorem y0o {a:dA} (hu:downA (markA a)=false):downA ((List.range a.2.2.1.length).foldl yb3 (ya4 a))=false∧downA a=false:=by
  have h1:=yYI hu
  refine ⟨h1,?_⟩
  cases hd:downA a
  · rfl
  · rw [yv3 (one:=yb3) (fun _ _ h=>yz0 h _ _ _) _ (ya4 a) hd]at h1
    exact (hd.symm.trans h1)
theorem yZR {a:dA} (hu:downA (markA a)=false) {i:Int} (i0:0≤i) (i1:i < (a.2.2.1.length:Int)):dsk (markA a) i=yr (yWP (ya4 a) i (dsk a i)):=by
  obtain ⟨h1,h2⟩:=y0o hu
  have hl:((List.range a.2.2.1.length).foldl yb3 (ya4 a)).2.2.1.length=a.2.2.1.length:=yii (one:=yb3) (fun _ _=>yl2 _ _ _ _) _ (ya4 a)
  unfold markA at hu ⊢
  rw [yN5 hu i0 (by omega)]
  exact congrArg yr (yEA (a:=ya4 a) (yZQ (a:=ya4 a) h2) h1 i0 i1)
theorem yIN {n:Int} {s:List Int} {m:dM} (h:ym m=true):ym (ygE n s m)=true:=by
  unfold ygE
  cases m.2.2.1
  · exact yFa _ _ h
  · exact h
theorem yB8 {n:Int} {s:List Int} {m:dM} (h:ym m=true):(yr (ygE n s m)).2.1.length≤m.2.1.length:=by
  cases hf:m.2.2.1
  · rw [(yEH (yIN h) ((yZd n s m).trans hf)).1]; exact Nat.zero_le _
  · have e:ygE n s m=m:=by unfold ygE; rw [hf]; rfl
    rw [e]; exact yKQ h
theorem y0s {q:Int} (h:0≤q):2≤yab q∧yab q < 6∧yab q=2+q % 4:=by
  unfold yab
  rw [zkm h,cond_false,Int.tmod_eq_emod_of_nonneg h]
  have:=Int.emod_nonneg q (show (4:Int)≠0 by omega)
  have:=Int.emod_lt_of_pos q (show (0:Int) < 4 by omega)
  rw [wr (by omega) (by omega)]; omega
theorem yZY {g:Int} (h:0≤g):0≤g.tmod 2∧g.tmod 2 < 2:=by
  rw [Int.tmod_eq_emod_of_nonneg h]; omega
theorem yYw {a b:dA} (h:yn a=yn b):a.2.2.2.2.2.2.1=b.2.2.2.2.2.2.1:=congrArg (fun x=>x.2.2.2.2.2.1) h
theorem yTe {k:Int} {V:Int→Int→Int} {a:dA} (h:Ix k V a) (hk:k+1≤60000) (hu:downA (markA a)=false):Ix (k+1) V (markA a):=by
  have c:=h.xc
  unfold coreOk at c
  have hgk:=h.xg
  have hsk:=h.xs
  have e:IntKind.i64.wrap (a.2.2.2.2.2.2.2.1+1)=a.2.2.2.2.2.2.2.1+1:=wr (by omega) (by omega)
  have hG:Ix (k+1) V (ya4 a):=by
    obtain ⟨⟨c1,c2,c3,c4,c5,c6,c7,c8,c9,c10,c11⟩,g2,g3,g4,g5,g6,g7,g8,g9⟩:=h
    refine ⟨⟨c1,c2,c3,c4,c5,c6,c7,c8,c9,?_,?_⟩,g2,g3,g4,?_,?_,g7,g8,g9⟩
    · show 0≤IntKind.i64.wrap (a.2.2.2.2.2.2.2.1+1); omega
    · show IntKind.i64.wrap (a.2.2.2.2.2.2.2.1+1)≤_; omega
    · show IntKind.i64.wrap (a.2.2.2.2.2.2.2.1+1)≤_; omega
    · show a.2.2.2.2.2.1≤k+1; omega
  refine yIO (a:=ya4 a) (yso a) (yH6 h.xk) hu (fun i i0 i1=> ?_) hG
  have i1':i < a.2.1.1:=i1
  obtain ⟨d1,_,_⟩:=yu0 h.xk i0 i1'
  rw [yZR hu i0 (by have:=h.xk.1.2; omega)]
  have hn:(ya4 a).2.2.2.2.2.2.2.1.tmod 2 < 6:=by
    show (IntKind.i64.wrap (a.2.2.2.2.2.2.2.1+1)).tmod 2 < 6
    have:=yZY (g:=IntKind.i64.wrap (a.2.2.2.2.2.2.2.1+1)) (by omega)
    omega
  exact ⟨yQd (yXC hn) (yEO (yIN d1)),yB8 d1⟩
theorem yZf {k:Int} {V:Int→Int→Int} {a:dA} (h:Ix k V a):Ix k V (yef a):=by
  obtain ⟨⟨c1,c2,c3,c4,c5,c6,c7,c8,c9,c10,c11⟩,g2,g3,g4,g5,g6,g7,g8,g9⟩:=h
  refine ⟨⟨c1,c2,c3,c4,c5,c6,⟨?_,?_⟩,⟨Int.le_refl _,c8.2⟩,?_,c10,c11⟩,g2,g3,g4,g5,g6,g7,g8,g9⟩
  · show 0≤a.2.2.2.2.2.1; omega
  · show a.2.2.2.2.2.1≤60000; omega
  · show a.2.2.2.2.2.1≤a.2.2.2.2.2.1+4; omega
theorem yWT {a:dA} (hu:downA (checkA a)=false):downA (yA a)=false∧checkA a=markA (yef (yA a)):=by
  unfold checkA at hu ⊢
  cases hd:downA (yA a)
  · exact ⟨rfl,rfl⟩
  · rw [hd]at hu; exact absurd (hd.symm.trans hu) (by simp)
theorem yXu {k:Int} {V:Int→Int→Int} {a:dA} (h:Ix k V a) (hk:k+1≤60000) (hu:downA (checkA a)=false):Ix (k+1) V (checkA a):=by
  obtain ⟨h1,h2⟩:=yWT hu
  rw [h2]at hu ⊢
  exact yTe (yZf (y0l h h1)) hk hu
theorem y0K {a:dA} {r:dN} (hu:downA (ybQ a r)=false):downA ((List.range a.2.2.1.length).foldl (ykd r) a)=false∧downA a=false:=by
  have h1:=yYI hu
  refine ⟨h1,?_⟩
  cases hd:downA a
  · rfl
  · rw [yv3 (one:=ykd r) (fun _ _ h=>yz0 h _ _ _) _ a hd]at h1
    exact (hd.symm.trans h1)
theorem yYG {a:dA} {r:dN} (hu:downA (ybQ a r)=false) {i:Int} (i0:0≤i) (i1:i < (a.2.2.1.length:Int)):dsk (ybQ a r) i=yr (ygE (yab r.1) (yzZ r) (dsk a i)):=by
  obtain ⟨h1,h2⟩:=y0K hu
  have hl:((List.range a.2.2.1.length).foldl (ykd r) a).2.2.1.length=a.2.2.1.length:=yii (ypf r) _ a
  unfold ybQ at hu ⊢
  rw [yN5 hu i0 (by omega)]
  exact congrArg yr (yEA (y0p r h2) h1 i0 i1)
theorem y0G {k:Int} {V:Int→Int→Int} {a:dA} {r:dN} (h:Ix k V a) (hr:0≤r.1) (hu:downA (ybQ a r)=false):Ix k V (ybQ a r)∧ ∀ i,0≤i→i < a.2.1.1→(dsk (ybQ a r) i).2.2.1=false→(dsk (ybQ a r) i).2.1= []:=by
  refine ⟨yIO (yim a r) (yXz r h.xk) hu (fun i i0 i1=> ?_) h,fun i i0 i1 hf=> ?_⟩
  · obtain ⟨d1,_,_⟩:=yu0 h.xk i0 i1
    rw [yYG hu i0 (by have:=h.xk.1.2; omega)]
    exact ⟨yQd (yXC (y0s hr).2.1) (yEO (yIN d1)),yB8 d1⟩
  · obtain ⟨d1,_,_⟩:=yu0 h.xk i0 i1
    rw [yYG hu i0 (by have:=h.xk.1.2; omega)] at hf ⊢
    rw [(yB7 _).2]at hf
    exact (yEH (yIN d1) hf).1
theorem yZL {k:Int} {V:Int→Int→Int} {a:dA} (h:Ix k V a) (h1:a.2.2.2.2.2.1 < 60000) (h2:a.2.2.2.2.2.1 - a.2.2.2.2.2.2.1≤3):Ix (k+1) V (yeF a):=by
  obtain ⟨⟨c1,c2,c3,c4,c5,c6,c7,c8,c9,c10,c11⟩,g2,g3,g4,g5,g6,g7,g8,g9⟩:=h
  have e:IntKind.i64.wrap (a.2.2.2.2.2.1+1)=a.2.2.2.2.2.1+1:=wr (by omega) (by omega)
  refine ⟨⟨c1,c2,c3,c4,c5,c6,c7,⟨?_,?_⟩,?_,c10,c11⟩,g2,g3,g4,?_,?_,g7,g8,g9⟩
  · show a.2.2.2.2.2.2.1≤IntKind.i64.wrap (a.2.2.2.2.2.1+1); omega
  · show IntKind.i64.wrap (a.2.2.2.2.2.1+1)≤60000; omega
  · show IntKind.i64.wrap (a.2.2.2.2.2.1+1)≤a.2.2.2.2.2.2.1+4; omega
  · show a.2.2.2.2.2.2.2.1≤k+1; omega
  · show IntKind.i64.wrap (a.2.2.2.2.2.1+1)≤k+1; omega
def yUJ (V:Int→Int→Int) (g:dG) (s:Int) (d:List Int):Int→Int→Int:=fun t i=>bif t==s then yfi (yj g s) g.1 (xorOf d) d i else V t i
theorem yYM {N p x:Int} {d:List Int} (h:3≤N∧N≤5) (hp:0≤p∧p≤N - 1) (hd:(d.length:Int)=N - 1):((List.range N.toNat).map (fun (i:Nat)=>yfi p N x d i)).Perm (x::d):=by
  have:N=3∨N=4∨N=5:=by omega
  rcases this with rfl | rfl | rfl
  · match d,hd with
    | [a,b],_ =>
      have:p=0∨p=1∨p=2:=by omega
      rcases this with rfl | rfl | rfl<;>simp [yfi,nth,List.range_succ,List.perm_iff_count,List.count_cons]<;>(intro z; omega)
    | [],hd=>simp at hd
    | [_],hd=>simp at hd
    | _::_::_::_,hd=>simp only [List.length_cons]at hd; omega
  · match d,hd with
    | [a,b,c],_ =>
      have:p=0∨p=1∨p=2∨p=3:=by omega
      rcases this with rfl | rfl | rfl | rfl<;>simp [yfi,nth,List.range_succ,List.perm_iff_count,List.count_cons]<;>(intro z; omega)
    | [],hd=>simp at hd
    | [_],hd=>simp at hd
    | [_,_],hd=>simp at hd
    | _::_::_::_::_,hd=>simp only [List.length_cons]at hd; omega
  · match d,hd with
    | [a,b,c,e],_ =>
      have:p=0∨p=1∨p=2∨p=3∨p=4:=by omega
      rcases this with rfl | rfl | rfl | rfl | rfl<;>simp [yfi,nth,List.range_succ,List.perm_iff_count,List.count_cons]<;>(intro z; omega)
    | [],hd=>simp at hd
    | [_],hd=>simp at hd
    | [_,_],hd=>simp at hd
    | [_,_,_],hd=>simp at hd
    | _::_::_::_::_::_,hd=>simp only [List.length_cons]at hd; omega
theorem yih (x:Int) (l:List Int):yde (x::l)=bv x ^^^ yde l:=by
  have fo: ∀ (l:List Int) (v:BitVec 64),l.foldl (fun v x=>v ^^^ bv x) v=v ^^^ yde l:=by
    intro l
    induction l with
    | nil=>intro v; show v=v ^^^ 0#64; rw [BitVec.xor_zero]
    | cons y t ih =>
      intro v
      unfold yde
      rw [List.foldl_cons,List.foldl_cons,ih,ih (0#64 ^^^ bv y),BitVec.zero_xor,BitVec.xor_assoc]
  show l.foldl _ (0#64 ^^^ bv x)=_
  rw [fo,BitVec.zero_xor]
theorem yVj {l m:List Int} (h:l.Perm m):yde l=yde m:=by
  induction h with
  | nil=>rfl
  | cons x _ ih=>rw [yih,yih,ih]
  | swap x y l=>rw [yih,yih,yih,yih,← BitVec.xor_assoc,BitVec.xor_comm (bv y),BitVec.xor_assoc]
  | trans _ _ h1 h2=>exact h1.trans h2
theorem yZx (d:List Int):yde (xorOf d::d)=0#64:=by rw [yih,ykW,yrs,BitVec.xor_self]
theorem yYL {N p:Int} {d:List Int} (h:3≤N∧N≤5) (hp:0≤p∧p≤N - 1) (hd:(d.length:Int)=N - 1):xorOf ((List.range N.toNat).map (fun (i:Nat)=>yfi p N (xorOf d) d i))=0:=by
  rw [ykW,yVj (yYM h hp hd),yZx]; rfl
theorem yUT {N p i:Int} {d:List Int} (hd:d.all isW=true):isW (yfi p N (xorOf d) d i)=true:=by
  unfold yfi
  cases (i==p)
  · exact yIQ hd
  · exact yVi hd
theorem y0c {V:Int→Int→Int} {g:dG} {s:Int} {d:List Int} (h:EvV g V) (hs:yO g s=true) (hl:(d.length:Int)=g.1 - 1) (hd:d.all isW=true):EvV g (yUJ V g s d):=by
  have h1:=yao.1 hs
  have hg:=yg.1 h1.1
  refine ⟨fun t t0 t1=> ?_,fun t i t0 t1 i0 i1=> ?_⟩
  · unfold vlist yUJ
    cases ht:(t==s)
    · exact h.ev t t0 t1
    · exact yYL hg.1 (ykh hs) hl
  · unfold yUJ
    cases ht:(t==s)
    · exact h.ew t i t0 t1 i0 i1
    · exact yUT hd
theorem yP8 {L B p N s i:Int} {d:List Int} {S:Int} {m:dM} (k:Int) (hk:k≠dataAt s):(ymW L B p N s d i m).2.2.1=m.2.2.1∧yrr (ymW L B p N s d i m) k=yrr m k∧ynU (ymW L B p N s d i m) k=ynU m k:=by
  unfold ymW
  cases hl:yaK L B i s m
  · exact ⟨rfl,rfl,rfl⟩
  · refine ⟨(yCB _ _ _).2,?_⟩
    rw [cond_true]
    cases hc:ybj m (dataAt s) [yfi p N (xorOf d) d i]
    · unfold yF; rw [hc]; exact ⟨rfl,rfl⟩
    · rw [yHt hc,yBZ hc,show (k !=dataAt s)=true from bne_iff_ne.2 hk,show (dataAt s==k)=false from beq_eq_false_iff_ne.2 (fun e=>hk e.symm),Bool.and_true]
      exact ⟨rfl,rfl⟩
theorem yYg (L B p N s:Int) (d:List Int) (i:Int) (m:dM):(ymW L B p N s d i m).2.1.length≤m.2.1.length+1∧(m.2.2.1=true→ymW L B p N s d i m=m):=by
  unfold ymW
  cases hl:yaK L B i s m
  · exact ⟨Nat.le_succ _,fun _=>rfl⟩
  · simp only [yaK,Bool.and_eq_true,Bool.not_eq_true'] at hl
    refine ⟨?_,fun h=>by rw [hl.1]at h; cases h⟩
    rw [cond_true]
    unfold yF
    cases ybj m (dataAt s) [yfi p N (xorOf d) d i]
    · exact Nat.le_succ _
    · show (m.2.1++ [(dataAt s,[yfi p N (xorOf d) d i])]).length≤_; rw [List.length_append]; simp only [List.length_cons,List.length_nil]; omega
theorem y0g {k:Int} {V:Int→Int→Int} {a:dA} {s:Int} {d:List Int} (h:Ix k V a) (hs:yO a.2.1 s=true) (hl:(d.length:Int)=a.2.1.1 - 1) (hd:d.all isW=true)
    (hz: ∀ i,0≤i→i < a.2.1.1→(dsk a i).2.2.1=false→(dsk a i).2.1= []) (hu:downA (yaN a s d)=false):Ix k (yUJ V a.2.1 s d) (yaN a s d):=by
  have hc:=yB0 a s d
  have h1:=yao.1 hs
  have hg:=yg.1 h1.1
  have hlen:=h.xk.1.2
  have hdsk: ∀ i,0≤i→i < a.2.1.1→dsk (yaN a s d) i=ymW a.2.2.2.1 a.2.2.2.2.1 (yj a.2.1 s) a.2.1.1 s d i (dsk a i):=fun i i0 i1=>yEA (yZC s d h.xu) hu i0 (by omega)
  refine ⟨yII hc h.xc,yU3 s d h.xk,hu,(yLp hc).trans h.xb,by rw [yy2 hc]; exact h.xg,by rw [ykx hc]; exact h.xs,by rw [yaF hc]; exact y0c h.xe hs hl hd,fun i t i0 i1 t0 t1 hh=> ?_,fun i i0 i1=> ?_⟩
  · rw [yaF hc]at i1 t1
    obtain ⟨d1,d2,d3⟩:=yu0 h.xk i0 i1
    unfold ydC at hh
    rw [ysj hc,yfh hc,hdsk i i0 i1,Bool.and_eq_true,Bool.not_eq_true'] at hh
    rw [hdsk i i0 i1]
    have hda:=yEF (s:=s) h1.2.1 (by omega)
    unfold yUJ
    by_cases ht:t=s
    · subst ht
      rw [beq_self_eq_true,cond_true]
      have hlv:yaK a.2.2.2.1 a.2.2.2.2.1 i t (dsk a i)=true:=by
        have:=hh.1
        unfold yaK at this ⊢
        rw [(yP8 (S:=0) (-1) (by omega)).1]at this
        exact this
      have hf:(dsk a i).2.2.1=false:=by
        simp only [yaK,Bool.and_eq_true,Bool.not_eq_true'] at hlv; exact hlv.1
      unfold ymW
      rw [hlv,cond_true,yBZ (yKP d1 hf (by rw [hda]; exact zjP.2 (by omega)) (yoc.2 ⟨by simp,fun x hx=> ?_⟩) (by rw [hz i i0 i1 hf]; decide)),hda,beq_self_eq_true]; rfl
      rw [List.mem_singleton.1 hx]
      exact yu1.1 (yUT hd)
    · rw [show (t==s)=false from beq_eq_false_iff_ne.2 ht]
      obtain ⟨e1,e2,e3⟩:=yP8 (L:=a.2.2.2.1) (B:=a.2.2.2.2.1) (p:=yj a.2.1 s) (N:=a.2.1.1) (s:=s) (i:=i) (d:=d) (S:=0) (m:=dsk a i) (t+6) (by omega)
      rw [e3]
      refine h.xv i t i0 i1 t0 t1 ?_
      unfold ydC
      rw [e2]at hh
      have h2:=hh.1
      unfold yaK at h2 ⊢
      rw [e1]at h2
      rw [h2,hh.2]; rfl
  · rw [yaF hc]at i1
    rw [ysj hc,yfh hc,hdsk i i0 i1]
    obtain ⟨g1,g2⟩:=yYg a.2.2.2.1 a.2.2.2.2.1 (yj a.2.1 s) a.2.1.1 s d i (dsk a i)
    have c:=h.xc
    unfold coreOk at c
    cases hf:(dsk a i).2.2.1
    · rw [hz i i0 i1 hf]at g1
      simp only [List.length_nil]at g1
      cases (i==a.2.2.2.1)
      · simp only [cond_false]; omega
      · simp only [cond_true]; omega
    · rw [g2 hf]
      exact h.xn i i0 i1
theorem y0E {k:Int} {V:Int→Int→Int} {a:dA} (h:Ix k V a) (hk:k+1≤60000) (hu:downA (yx a)=false):Ix (k+1) V (yx a)∧(yx a).2.2.2.2.2.1=a.2.2.2.2.2.1∧(yx a).2.2.2.2.2.1 - (yx a).2.2.2.2.2.2.1≤3:=by
  have c:=h.xc
  unfold coreOk at c
  have e0:yx a=bif leb 4 (a.2.2.2.2.2.1 - a.2.2.2.2.2.2.1) then checkA a else a:=by
    unfold yx
    rw [wr (by omega) (by omega)]
  rw [e0]at hu ⊢
  cases h4:leb 4 (a.2.2.2.2.2.1 - a.2.2.2.2.2.2.1)
  · refine ⟨ydD h (by omega),rfl,?_⟩
    have: ¬ (4≤a.2.2.2.2.2.1 - a.2.2.2.2.2.2.1):=fun g=>by rw [zk0 g]at h4; cases h4
    show a.2.2.2.2.2.1 - a.2.2.2.2.2.2.1≤3; omega
  · rw [h4]at hu
    simp only [cond_true]at hu ⊢
    have hi:=yXu h hk hu
    obtain ⟨_,h2⟩:=yWT hu
    have e:=yso (yef (yA a))
    have e1:(checkA a).2.2.2.2.2.1=a.2.2.2.2.2.1:=by rw [h2]; exact (ykx e).trans (show (ya4 (yef (yA a))).2.2.2.2.2.1=_ from ykx (a:=yA a) (b:=a) (yig a))
    have e2:(checkA a).2.2.2.2.2.2.1=a.2.2.2.2.2.1:=by rw [h2]; exact (yYw e).trans (show (ya4 (yef (yA a))).2.2.2.2.2.2.1=_ from ykx (a:=yA a) (b:=a) (yig a))
    exact ⟨hi,e1,by omega⟩
theorem yXw {k:Int} {V:Int→Int→Int} {a:dA} {s:Int} {d:List Int} (h:Ix k V a) (hs:yO a.2.1 s=true) (hl:(d.length:Int)=a.2.1.1 - 1) (hd:d.all isW=true) (hq:a.2.2.2.2.2.1 < 60000) (hk:k+1≤60000)
    (hu:downA (ybB a s d).2=false):Ix (k+2) (yUJ V a.2.1 s d) (ybB a s d).2∧(ybB a s d).1=0:=by
  unfold ybB at hu ⊢
  cases hc:downA (yx a)
  · obtain ⟨h1,h2,h3⟩:=y0E h hk hc
    have eg:(yx a).2.1=a.2.1:=ySy a
    rw [hc]at hu
    simp only [cond_false]at hu ⊢
    have c:=h.xc
    unfold coreOk at c
    cases hr:downA (ybQ (yx a) ((yx a).2.2.2.2.2.1,s,d))
    · rw [hr]at hu
      simp only [cond_false]at hu ⊢
      obtain ⟨h4,h5⟩:=y0G (r:=((yx a).2.2.2.2.2.1,s,d)) h1 (by show 0≤(yx a).2.2.2.2.2.1; omega) hr
      have e1:=ykx (yim (yx a) ((yx a).2.2.2.2.2.1,s,d))
      have e2:=yYw (yim (yx a) ((yx a).2.2.2.2.2.1,s,d))
      have e3:=(yaF (yim (yx a) ((yx a).2.2.2.2.2.1,s,d))).trans eg
      rw [eg]at h5
      generalize ybQ (yx a) ((yx a).2.2.2.2.2.1,s,d)=R at h4 h5 e1 e2 e3 hu ⊢
      have h6:=yZL h4 (by omega) (by omega)
      have e4:(yeF R).2.1=a.2.1:=e3
      have h7:=y0g (s:=s) (d:=d) h6 (by rw [e4]; exact hs) (by rw [e4]; exact hl) hd (fun i i0 i1 hf=>h5 i i0 (by rw [e4]at i1; exact i1) hf) hu
      rw [hu,e4]at *
      exact ⟨ydD h7 (by omega),rfl⟩
    · rw [hr]at hu
      exact absurd (hr.symm.trans hu) (by simp)
  · rw [hc]at hu
    exact absurd (hc.symm.trans hu) (by simp)
theorem yKS {k:Int} {V:Int→Int→Int} {a:dA} {l:List dW} (h:Ix k V a) (hd:yaz a.2.1 l=true):Ix k V (yz5 a l):=by
  obtain ⟨⟨c1,c2,c3,c4,c5,c6,c7,c8,c9,c10,c11⟩,g2,g3,g4,g5,g6,g7,g8,g9⟩:=h
  exact ⟨⟨c1,c2,hd,c4,c5,c6,c7,c8,c9,c10,c11⟩,g2,g3,g4,g5,g6,g7,g8,g9⟩
theorem yMn {k:Int} {V:Int→Int→Int} {a:dA} (s:Int) (h:Ix k V a) (hk:k+1≤60000) (hu:downA (flushE a s).2=false): ∃ V',Ix (k+2) V' (flushE a s).2:=by
  unfold flushE at hu ⊢
  cases h0:ltb (yw a.2.2.2.2.2.2.2.2.1 s) 0
  · rw [h0]at hu
    generalize (nth a.2.2.2.2.2.2.2.2.1 (yw a.2.2.2.2.2.2.2.2.1 s) (0,[])).2=D at hu ⊢
    cases hc:(yT a s D !=0)
    · rw [hc]at hu
      obtain ⟨_,z1,z2,_,z4,_,z6,_⟩:=yBE (bne_eq_false_iff_eq.1 hc)
      simp only [cond_false]at hu ⊢
      cases hw:((ybB a s D).1==0)
      · rw [hw]at hu
        obtain ⟨h1,h2⟩:=yXw h z4 z1 z2 z6 hk hu
        exact ⟨_,h1⟩
      · rw [hw]at hu
        obtain ⟨h1,h2⟩:=yXw h z4 z1 z2 z6 hk hu
        exact ⟨_,yKS h1 (by rw [yVh]; exact yUU _ h.xc.2.2.1)⟩
    · exact ⟨V,ydD h (by omega)⟩
  · exact ⟨V,ydD h (by omega)⟩
theorem yYf {a:dA} (s:Int) (h:downA a=true):(flushE a s).2=a:=by
  unfold flushE
  cases ltb (yw a.2.2.2.2.2.2.2.2.1 s) 0
  · cases hc:(yT a s (nth a.2.2.2.2.2.2.2.2.1 (yw a.2.2.2.2.2.2.2.2.1 s) (0,[])).2 !=0)
    · have:=(yBE (bne_eq_false_iff_eq.1 hc)).2.2.2.1
      rw [h]at this; cases this
    · rfl
  · rfl
theorem yUL: ∀ (n i:Nat) {a:dA},downA a=true→(goE yuS (fun b=>((0:Int),b)) n i a).2=a
  | 0,_,_,_=>rfl
  | n+1,i,a,h=>by
    unfold goE yuS
    have e:=yYf (nth a.2.2.2.2.2.2.2.2.1 0 (0,[])).1 h
    cases ((flushE a (nth a.2.2.2.2.2.2.2.2.1 0 (0,[])).1).1 !=0)
    · simp only [cond_false,e]
      exact yUL n (i+1) h
    · exact e
theorem yXv {k:Int}: ∀ (n i:Nat) (j:Int) (V:Int→Int→Int) (a:dA),Ix j V a→j+2 * n≤k→k≤60000→downA (goE yuS (fun b=>((0:Int),b)) n i a).2=false→ ∃ V',Ix k V' (goE yuS (fun b=>((0:Int),b)) n i a).2
  | 0,_,j,V,a,h,h1,_,_=>⟨V,ydD h (by omega)⟩
  | n+1,i,j,V,a,h,h1,h2,hu=>by
    unfold goE yuS at hu ⊢
    cases hc:((flushE a (nth a.2.2.2.2.2.2.2.2.1 0 (0,[])).1).1 !=0)
    · rw [hc]at hu
      simp only [cond_false]at hu ⊢
      have hu:downA (goE yuS (fun b=>((0:Int),b)) n (i+1) (flushE a (nth a.2.2.2.2.2.2.2.2.1 0 (0,[])).1).2).2=false:=hu
      have hf:downA (flushE a (nth a.2.2.2.2.2.2.2.2.1 0 (0,[])).1).2=false:=by
        cases hd:downA (flushE a (nth a.2.2.2.2.2.2.2.2.1 0 (0,[])).1).2
        · rfl
        · rw [yUL n (i+1) hd]at hu; exact hd.symm.trans hu
      obtain ⟨V1,h3⟩:=yMn (nth a.2.2.2.2.2.2.2.2.1 0 (0,[])).1 h (by omega) hf
      exact yXv n (i+1) (j+2) V1 _ h3 (by omega) h2 hu
    · rw [hc]at hu
      simp only [cond_true]at hu ⊢
      obtain ⟨V1,h3⟩:=yMn (nth a.2.2.2.2.2.2.2.2.1 0 (0,[])).1 h (by omega) hu
      exact ⟨V1,ydD h3 (by omega)⟩
theorem y0D {k:Int} {V:Int→Int→Int} {a:dA} (h:Ix k V a) (hk:k+16≤60000) (hu:downA (allE a).2=false): ∃ V',Ix (k+16) V' (allE a).2:=by
  have:=ysk h.xc.2.2.1 h.xc.1
  exact yXv _ 0 k V a h (by omega) hk hu
theorem y0H {k:Int} {V:Int→Int→Int} {a:dA} {b n:Int} (h:Ix k V a) (hb:blkOk a.2.1 b=true) (hn:isW n=true):Ix k V (setOne a b n).2:=by
  unfold setOne
  cases hs:(yK a (yQ a.2.1 b)).2
  · exact h
  · have hstr:=yqg hb
    have hl:=ylT (yQa h) hstr hs
    refine yKS h (yUV h.xc.2.2.1 ⟨(yao.1 hstr).2,by rw [List.length_set]; exact hl,yUI ?_ hn⟩)
    unfold yK
    cases hk:leb 0 (yw a.2.2.2.2.2.2.2.2.1 (yQ a.2.1 b))
    · rw [h.xb]; exact yUS _ _
    · have:=(yrz (d:=((0:Int),([]:List Int))) hk).1
      exact yu3 (P:=fun e:dW=>e.2.all isW=true) this (fun e he=>((yvR.1 h.xc.2.2.1).1 e he).2.2)
theorem yWW {a:dA} {m i:Int} {x:dM} (l:Int) (t:Int×Int×Int×Int×List dW×Int×Bool×Bool) (hm:inb m a.2.2.1.length=true) (hi:0≤i):dsk (a.1,a.2.1,a.2.2.1.set m.toNat x,l,t) i=bif m==i then x else dsk a i:=yzN hm hi
theorem y1i (S:Int) (m:dM):yyv S m (yjQ m):=fun h=>by cases h
theorem yY8 {a:dA} {m:Int} (hl:a.2.2.2.1= -1∨a.2.2.2.1=m) (hm:inb m a.2.2.1.length=true) (i s:Int) (i0:0≤i) (s0:0≤s) (hh:yaK m 0 i s (dsk (ydB a m) i)=true):(i !=a.2.2.2.1||ltb s a.2.2.2.2.1)=true∧i≠m∧dsk (ydB a m) i=dsk a i:=by
  have e:dsk (ydB a m) i=bif m==i then yjQ (dsk a m) else dsk a i:=yWW m _ hm i0
  by_cases hi:m=i
  · subst hi
    rw [e,beq_self_eq_true]at hh
    simp only [yaK,Bool.and_eq_true,Bool.not_eq_true',cond_true]at hh
    have:=hh.1
    cases this
  · rw [show (m==i)=false from beq_eq_false_iff_ne.2 hi]at e
    refine ⟨?_,fun e=>hi e.symm,e⟩
    rw [show (i !=a.2.2.2.1)=true from bne_iff_ne.2 (by omega)]; rfl
theorem yYh {k m:Int} {V:Int→Int→Int} {a:dA} (h:Ix k V a) (hl:a.2.2.2.1= -1∨a.2.2.2.1=m) (hm:inb m a.2.2.1.length=true):Ix k V (ydB a m):=by
  have hmi:=zjP.1 hm
  have hv:View V (ydB a m):=yIG (a:=a) (b:=ydB a m) rfl (fun i s i0 i1 s0 hh=>by
    obtain ⟨h1,h2,h3⟩:=yY8 hl hm i s i0 s0 hh
    rw [h3]
    exact ⟨h1,yCf _ _⟩) h.xv
  have hn: ∀ i,0≤i→i < a.2.1.1→((dsk (ydB a m) i).2.1.length:Int)≤1+(bif i==m then 0 else 0):=fun i i0 i1=>by
    have e:dsk (ydB a m) i=bif m==i then yjQ (dsk a m) else dsk a i:=yWW m _ hm i0
    rw [e]
    by_cases hi:m=i
    · rw [show (m==i)=true from beq_iff_eq.2 hi]
      show (([]:List dW).length:Int)≤_
      rw [List.length_nil]
      cases (i==m)<;>decide
    · rw [show (m==i)=false from beq_eq_false_iff_ne.2 hi,cond_false]
      have:=h.xn i i0 i1
      rw [show (i==a.2.2.2.1)=false from beq_eq_false_iff_ne.2 (by omega)] at this
      simp only [cond_false]at this
      cases (i==m)<;>simp only [cond_true,cond_false]<;>omega
  obtain ⟨⟨c1,c2,c3,c4,c5,c6,c7,c8,c9,c10,c11⟩,⟨⟨g1,g2⟩,g3⟩,f,b,t,t2,t3,_,_⟩:=h
  refine ⟨⟨c1,c2,c3,⟨?_,?_⟩,⟨Int.le_refl _,by show (0:Int)≤a.2.1.2; omega⟩,fun e=>rfl,c7,c8,c9,c10,c11⟩,⟨⟨?_,?_⟩,g3⟩,f,b,t,t2,t3,hv,hn⟩
  · show -1≤m; omega
  · show m≤a.2.1.1 - 1; omega
  · show yER m a.2.2.2.2.2.2.2.2.2.2.2 a.2.1.2 (a.2.2.1.set m.toNat (yjQ (nth a.2.2.1 m noMem)))
    refine ywg (fun i hi=> ?_) (fun hi=> ?_)
    · obtain ⟨e1,e2,e3⟩:=g1 i hi
      refine ⟨e1,e2,fun e=> ?_⟩
      rcases e3 e with e | e
      · exact .inl (by omega)
      · exact .inr e
    · have:=g1 m.toNat hi
      rw [Int.toNat_of_nonneg hmi.1]at this
      exact ⟨yYy this.1,this.2.1,fun _=> .inl (Int.toNat_of_nonneg hmi.1)⟩
  · show ((a.2.2.1.set m.toNat (yjQ (nth a.2.2.1 m noMem))).length:Int)=a.2.1.1
    rw [List.length_set]; exact g2
theorem y0d {k m:Int} {V:Int→Int→Int} {a:dA} (h:Ix k V a) (hl:a.2.2.2.1= -1∨a.2.2.2.1=m) (hk:k+1≤60000):failOne a m=markA (ydB a m):=by
  have:=h.xg
  unfold failOne
  rw [h.xu,h.xb,zjI (show a.2.2.2.2.2.2.2.1 < 60000 by omega)]
  rcases hl with e | e
  · rw [show (a.2.2.2.1== -1)=true from beq_iff_eq.2 e]; rfl
  · rw [show (a.2.2.2.1==m)=true from beq_iff_eq.2 e,Bool.or_true]; rfl
theorem y0i {k m:Int} {V:Int→Int→Int} {a:dA} (h:Ix k V a) (hl:a.2.2.2.1= -1∨a.2.2.2.1=m) (hm:inb m a.2.2.1.length=true) (hk:k+1≤60000) (hu:downA (failOne a m)=false):Ix (k+1) V (failOne a m):=by
  rw [y0d h hl hk]at hu ⊢
  exact yTe (yYh h hl hm) hk hu
theorem ywf {S:Int} (h:1≤S∧S≤8):ya0 (6+S)=(List.replicate (6+S).toNat [],[],false,[]):=by
  unfold ya0
  rw [zk0 (show 1≤6+S by omega),zk0 (show 6+S≤20 by omega)]; rfl
theorem yYi {k:Int} {V:Int→Int→Int} {a:dA} (h:Ix k V a) (hm:inb a.2.2.2.1 a.2.2.1.length=true):Ix k V (spareNew a):=by
  have hg:=yg.1 h.xc.1
  have e: ∀ i,0≤i→dsk (spareNew a) i=bif a.2.2.2.1==i then ya0 (6+a.2.1.2) else dsk a i:=fun i i0=>yWW _ _ hm i0
  have hv:View V (spareNew a):=yIG (a:=a) (b:=spareNew a) rfl (fun i s i0 i1 s0 hh=>by
    have hh:yaK a.2.2.2.1 0 i s (dsk (spareNew a) i)=true:=hh
    rw [e i i0]at hh ⊢
    simp only [yaK,Bool.and_eq_true,Bool.or_eq_true,bne_iff_ne,ne_eq,zjT]at hh
    have hne:i≠a.2.2.2.1:=hh.2.resolve_right (by omega)
    rw [show (a.2.2.2.1==i)=false from beq_eq_false_iff_ne.2 (fun e=>hne e.symm),show (i !=a.2.2.2.1)=true from bne_iff_ne.2 hne]
    exact ⟨rfl,yCf _ _⟩) h.xv
  have hn: ∀ i,0≤i→i < a.2.1.1→((dsk (spareNew a) i).2.1.length:Int)≤1+(bif i==a.2.2.2.1 then 0 else 0):=fun i i0 i1=>by
    rw [e i i0]
    by_cases hi:a.2.2.2.1=i
    · rw [show (a.2.2.2.1==i)=true from beq_iff_eq.2 hi,cond_true,ywf hg.2]
      show (([]:List dW).length:Int)≤_
      rw [List.length_nil]
      cases (i==a.2.2.2.1)<;>decide
    · rw [show (a.2.2.2.1==i)=false from beq_eq_false_iff_ne.2 hi,cond_false]
      have:=h.xn i i0 i1
      rw [show (i==a.2.2.2.1)=false from beq_eq_false_iff_ne.2 (fun e=>hi e.symm)] at this ⊢
      exact this
  have hmi:=zjP.1 hm
  obtain ⟨⟨c1,c2,c3,c4,c5,c6,c7,c8,c9,c10,c11⟩,⟨⟨g1,g2⟩,g3⟩,f,b,t,t2,t3,_,_⟩:=h
  refine ⟨⟨c1,c2,c3,c4,⟨Int.le_refl _,by show (0:Int)≤a.2.1.2; omega⟩,fun e=>rfl,c7,c8,c9,c10,c11⟩,⟨⟨ywg g1 (fun hi=>⟨yCg (by omega) (by omega),?_,fun e=> ?_⟩),?_⟩,g3⟩,f,b,t,t2,t3,hv,hn⟩
  · rw [ywf hg.2]
    show ((List.replicate (6+a.2.1.2).toNat ([]:List Int)).length:Int)=6+a.2.1.2
    rw [List.length_replicate]; omega
  · rw [ywf hg.2]at e
    cases e
  · show ((a.2.2.1.set a.2.2.2.1.toNat (ya0 (6+a.2.1.2))).length:Int)=a.2.1.1
    rw [List.length_set]; exact g2
theorem yZM {k:Int} {V:Int→Int→Int} {a:dA} (h:Ix k V a) (hm:inb a.2.2.2.1 a.2.2.1.length=true) (hk:k+1≤60000) (hu:downA (markA (spareNew a))=false):Ix (k+1) V (markA (spareNew a)):=yTe (yYi h hm) hk hu
theorem yYZ (S:Int) (m:dM) (n:Int):yyv S m (spoil m n):=by
  unfold spoil
  cases (ym m&&(inb n m.1.length&& !(m.2.2.2.any (· ==n))))
  · exact yCf _ _
  · refine fun h=>⟨h,fun k k0 k1 hb=>⟨?_,rfl⟩⟩
    have hb:(yEg m.2.2.2 n).any (· ==k)=false:=hb
    show m.2.2.2.any (· ==k)=false
    rw [List.any_eq_false]at hb ⊢
    intro x hx hxk
    have hxk':=beq_iff_eq.1 hxk
    refine hb x ?_ hxk
    unfold yEg
    rw [List.mem_append,List.mem_cons,List.mem_filter,List.mem_filter]
    rcases Int.lt_trichotomy x n with h1 | h1 | h1
    · exact .inl ⟨hx,zjI h1⟩
    · exact .inr (.inl h1)
    · exact .inr (.inr ⟨hx,zjI h1⟩)
theorem yYs (m:dM) (n:Int):(spoil m n).2.1=m.2.1:=by
  unfold spoil
  cases (ym m&&(inb n m.1.length&& !(m.2.2.2.any (· ==n))))<;>rfl
theorem yZN {k m n:Int} {V:Int→Int→Int} {a:dA} (h:Ix k V a) (hm:inb m a.2.2.1.length=true):Ix k V (setMem a m (spoil (nth a.2.2.1 m noMem) n)) :=
  yIO (a:=a) (b:=setMem a m (spoil (nth a.2.2.1 m noMem) n)) rfl (yvA h.xk hm (fun g=>⟨yN4 n g.1,by rw [(yCy _ _).1]; exact g.2.1,by rw [(yCy _ _).2]; exact g.2.2⟩)) h.xu (fun i i0 i1=>by
    rw [ySC hm i0]
    by_cases hi:m=i
    · subst hi
      rw [beq_self_eq_true,cond_true]
      exact ⟨yYZ _ _ _,by rw [yYs]; exact Nat.le_refl _⟩
    · rw [show (m==i)=false from beq_eq_false_iff_ne.2 hi]
      exact ⟨yCf _ _,Nat.le_refl _⟩) h
theorem y0k {k:Int} {V:Int→Int→Int} {a:dA} (h:Ix k V a) (hl:inb a.2.2.2.1 a.2.2.1.length=true) (hf:(nth a.2.2.1 a.2.2.2.1 noMem).2.2.1=false) (hb:a.2.2.2.2.1 < a.2.1.2) (hu:downA (stepOne a).2=false):Ix k V (stepOne a).2:=by
  have hmi:=zjP.1 hl
  have hlen:=h.xk.1.2
  have hg:=yg.1 h.xc.1
  have c:=h.xc
  unfold coreOk at c
  have hb0:0≤a.2.2.2.2.1:=by omega
  have hda:=yEF hb0 (by omega)
  have e:=yn8 a a.2.2.2.1 (dataAt a.2.2.2.2.1) [nth (yy a a.2.2.2.2.1).1 a.2.2.2.1 0]
  have hkp:Keep (yR a):=yzD h.xk hl
  have hd:=yIR (dataAt a.2.2.2.2.1) [nth (yy a a.2.2.2.2.1).1 a.2.2.2.1 0] h.xu hl
  have e1:(yR a).2.2.2.2.1=a.2.2.2.2.1:=yfh e
  have e2:(yR a).2.1=a.2.1:=yaF e
  have e3:(yR a).2.2.2.1=a.2.2.2.1:=ysj e
  unfold stepOne at hu ⊢
  cases hw:(yy a a.2.2.2.2.1).2
  · exact h
  · rw [hw]at hu
    have hwv:=yR8 h.xc.1 h.xk h.xe h.xv hb0 hb
    have hw1:(yy a a.2.2.2.2.1).1=vlist V a.2.1.1 a.2.2.2.2.1:=by
      rw [hwv]at hw ⊢
      cases hm:ydQ (fun (i:Nat)=>ydC a a.2.2.2.2.1 i) a.2.1.1.toNat
      · rfl
      · rw [hm]at hw; cases hw
    have hx:nth (yy a a.2.2.2.2.1).1 a.2.2.2.1 0=V a.2.2.2.2.1 a.2.2.2.1:=by rw [hw1]; exact yX1 V (by omega) (by omega)
    rw [hx]at hd e
    have hst:yR a=ydd a a.2.2.2.1 (dataAt a.2.2.2.2.1) [V a.2.2.2.2.1 a.2.2.2.1]:=by unfold yR; rw [hx]
    have hcc:yn (yR a)=yn a:=by rw [hst]; exact e
    rw [← hst]at hd
    generalize yR a=R at *
    simp only [cond_true]at hu ⊢
    cases hr:downA R
    · rw [hr]at hu
      obtain ⟨_,_,⟨_,hdd⟩ | ⟨hdd,_⟩⟩:=hd
      · obtain ⟨d1,d2,d3⟩:=yu0 h.xk (i:=a.2.2.2.1) (by omega) (by omega)
        have hf':(dsk a a.2.2.2.1).2.2.1=false:=hf
        have hxw:=h.xe.ew a.2.2.2.2.1 a.2.2.2.1 hb0 hb (by omega) (by omega)
        have hcn:=h.xn a.2.2.2.1 (by omega) (by omega)
        rw [beq_self_eq_true,cond_true]at hcn
        have hcw:ybj (dsk a a.2.2.2.1) (a.2.2.2.2.1+6) [V a.2.2.2.2.1 a.2.2.2.1]=true:=yKP d1 hf' (zjP.2 (by omega)) (yoc.2 ⟨by simp,fun x hx=>by rw [List.mem_singleton.1 hx]; exact yu1.1 hxw⟩) (by omega)
        have e4:IntKind.i64.wrap (R.2.2.2.2.1+1)=a.2.2.2.2.1+1:=by rw [e1]; exact wr (by omega) (by omega)
        have hRL:dsk R a.2.2.2.1=(yF (dsk a a.2.2.2.1) (a.2.2.2.2.1+6) [V a.2.2.2.2.1 a.2.2.2.1]).1:=by
          rw [hdd _ (by omega),beq_self_eq_true,cond_true,hda]
          unfold ygE
          rw [hf']; rfl
        have hRo: ∀ i,0≤i→i≠a.2.2.2.1→dsk R i=dsk a i:=fun i i0 hi=>by rw [hdd i i0,show (a.2.2.2.1==i)=false from beq_eq_false_iff_ne.2 (fun e=>hi e.symm)]; rfl
        have hco:=yII hcc h.xc
        refine ⟨?_,hkp,hr,(yLp hcc).trans h.xb,by show R.2.2.2.2.2.2.2.1≤k; rw [yy2 hcc]; exact h.xg,by show R.2.2.2.2.2.1≤k; rw [ykx hcc]; exact h.xs,by show EvV R.2.1 V; rw [e2]; exact h.xe,?_,?_⟩
        · obtain ⟨c1,c2,c3,c4,c5,c6,c7,c8,c9,c10,c11⟩:=hco
          refine ⟨c1,c2,c3,c4,⟨?_,?_⟩,fun e=> ?_,c7,c8,c9,c10,c11⟩
          · show 0≤IntKind.i64.wrap (R.2.2.2.2.1+1); omega
          · show IntKind.i64.wrap (R.2.2.2.2.1+1)≤R.2.1.2; rw [e4,e2]; omega
          · have:R.2.2.2.1= -1:=e
            omega
        · intro i t i0 i1 t0 t1 hh
          have i1:i < R.2.1.1:=i1
          have t1:t < R.2.1.2:=t1
          rw [e2]at i1 t1
          unfold ydC at hh
          have hh:(yaK R.2.2.2.1 (IntKind.i64.wrap (R.2.2.2.2.1+1)) i t (dsk R i)&& !(yrr (dsk R i) (t+6)))=true:=hh
          show ynU (dsk R i) (t+6)= [V t i]
          rw [e3,e4]at hh
          by_cases hi:i=a.2.2.2.1
          · subst hi
            rw [hRL]at hh ⊢
            rw [yBZ hcw]
            by_cases ht:a.2.2.2.2.1+6=t+6
            · rw [show (a.2.2.2.2.1+6==t+6)=true from beq_iff_eq.2 ht,show a.2.2.2.2.1=t by omega]; rfl
            · rw [show (a.2.2.2.2.1+6==t+6)=false from beq_eq_false_iff_ne.2 ht,cond_false]
              refine h.xv _ t i0 i1 t0 t1 ?_
              rw [yHt hcw,show (t+6 !=a.2.2.2.2.1+6)=true from bne_iff_ne.2 (fun e=>ht e.symm),Bool.and_true,Bool.and_eq_true]at hh
              have h2:=hh.1
              simp only [yaK,Bool.and_eq_true,Bool.or_eq_true,bne_self_eq_false,Bool.false_eq_true,false_or,zjT]at h2
              unfold ydC yaK
              rw [hf',hh.2,zjI (show t < a.2.2.2.2.1 by omega),Bool.or_true]; rfl
          · rw [hRo i i0 hi]at hh ⊢
            refine h.xv i t i0 i1 t0 t1 ?_
            rw [Bool.and_eq_true]at hh
            have h2:=hh.1
            simp only [yaK,Bool.and_eq_true]at h2
            unfold ydC yaK
            rw [h2.1,hh.2,show (i !=a.2.2.2.1)=true from bne_iff_ne.2 hi]; rfl
        · intro i i0 i1
          have i1:i < R.2.1.1:=i1
          rw [e2]at i1
          show ((dsk R i).2.1.length:Int)≤1+(bif i==R.2.2.2.1 then IntKind.i64.wrap (R.2.2.2.2.1+1) else 0)
          rw [e3,e4]
          by_cases hi:i=a.2.2.2.1
          · subst hi
            rw [hRL,yE9 hcw,beq_self_eq_true,cond_true]
            show (((dsk a a.2.2.2.1).2.1++ [(a.2.2.2.2.1+6,[V a.2.2.2.2.1 a.2.2.2.1])]).length:Int)≤_
            rw [List.length_append]
            simp only [List.length_cons,List.length_nil]
            omega
          · rw [hRo i i0 hi,show (i==a.2.2.2.1)=false from beq_eq_false_iff_ne.2 hi]
            have:=h.xn i i0 i1
            rw [show (i==a.2.2.2.1)=false from beq_eq_false_iff_ne.2 hi]at this
            exact this
      · rw [hr]at hdd; cases hdd
    · rw [hr]at hu
      exact absurd (hr.symm.trans hu) (by simp)
theorem yYl {id i:Int} {g:dG} (hg:ye g=true): ∀ n:Nat,n≤g.2.toNat→ ∀ k:Int,0≤k→nth ((List.range n).foldl ysp (yj5 id g i)).1 k []=bif leb 6 k&&ltb k (6+n) then [0] else bif k==0 then yH (yXE id g i) else []:=by
  have hge:=yg.1 hg
  intro n
  induction n with
  | zero =>
    intro _ k hk
    show nth (yj5 id g i).1 k []=_
    unfold yj5
    rw [ywf hge.2]
    have h0:inb 0 (List.replicate (6+g.2).toNat ([]:List Int)).length=true:=by rw [List.length_replicate]; exact zjP.2 (by omega)
    have:=yzN (x:=yH (yXE id g i)) (d:=([]:List Int)) h0 hk
    rw [show (0:Int).toNat=0 from rfl]at this
    rw [this]
    have e1:(leb 6 k&&ltb k (6+((0:Nat):Int)))=false:=by
      cases h:(leb 6 k&&ltb k (6+((0:Nat):Int)))
      · rfl
      · rw [Bool.and_eq_true,zjQ,zjT]at h; omega
    rw [e1,cond_false]
    by_cases h:k=0
    · rw [show ((0:Int)==k)=true from beq_iff_eq.2 h.symm,show (k==0)=true from beq_iff_eq.2 h]; rfl
    · rw [show ((0:Int)==k)=false from beq_eq_false_iff_ne.2 (fun e=>h e.symm),show (k==0)=false from beq_eq_false_iff_ne.2 h,cond_false,cond_false]
      unfold nth
      rw [List.getD_eq_getElem?_getD,List.getElem?_replicate]
      split<;>rfl
  | succ n ih =>
    intro hn k hk
    rw [List.range_succ,List.foldl_append,List.foldl_cons,List.foldl_nil]
    have hlen:((List.range n).foldl ysp (yj5 id g i)).1.length=(6+g.2).toNat:=by
      rw [yKU]
      show ((ya0 (6+g.2)).1.set 0 _).length=_
      rw [List.length_set,ywf hge.2]
      show (List.replicate (6+g.2).toNat ([]:List Int)).length=_
      rw [List.length_replicate]
    have h1:=ih (by omega) k hk
    generalize (List.range n).foldl ysp (yj5 id g i)=M at h1 hlen ⊢
    show nth (M.1.set (n+6) [0]) k []=_
    have:=yzN (l:=M.1) (i:=((n+6:Nat):Int)) (x:= [0]) (d:=([]:List Int)) (zkO (by omega)) hk
    rw [Int.toNat_natCast]at this
    rw [this,h1]
    by_cases h:((n+6:Nat):Int)=k
    · rw [show (((n+6:Nat):Int)==k)=true from beq_iff_eq.2 h,zk0 (show 6≤k by omega),zjI (show k < 6+((n+1:Nat):Int) by omega)]; rfl
    · rw [show (((n+6:Nat):Int)==k)=false from beq_eq_false_iff_ne.2 h,cond_false,show ltb k (6+((n+1:Nat):Int))=ltb k (6+(n:Int)) by rw [Bool.eq_iff_iff,zjT,zjT]; omega]
theorem yZH (g:dG):EvV g (fun _ _=>0):=by
  refine ⟨fun s _ _=> ?_,fun _ _ _ _ _ _=>rfl⟩
  unfold vlist
  rw [ykW]
  have: ∀ l:List Nat,yde (l.map (fun (_:Nat)=>(0:Int)))=0#64:=by
    intro l
    induction l with
    | nil=>rfl
    | cons x t ih=>rw [List.map_cons,yih,ih]; decide
  rw [this]; rfl
theorem y0I {id:Int} {g:dG} (hg:ye g=true) (h1:1≤id) (h2:id≤60000) {i:Int} (i0:0≤i) (i1:i < g.1):dsk (ylv id g) i=yv id g i:=by
  rw [yHs hg h1 h2]
  show nth ((List.range g.1.toNat).map (fun (i:Nat)=>yv id g i)) i noMem=_
  unfold nth
  rw [zcq (by rw [List.length_map,List.length_range]; omega),List.getElem_map,List.getElem_range,Int.toNat_of_nonneg i0]
theorem y0F {id:Int} {g:dG} (hg:ye g=true) (h1:1≤id) (h2:id≤60000):Ix 0 (fun _ _=>0) (ylv id g):=by
  have hw:=yX5 hg h1 h2
  have hge:=yg.1 hg
  have e:=yHs hg h1 h2
  have eg:(ylv id g).2.1=g:=by rw [e]
  have ed: ∀ i,0≤i→i < g.1→dsk (ylv id g) i=yv id g i:=fun i i0 i1=>y0I hg h1 h2 i0 i1
  refine ⟨hw.1,hw.2.1,hw.2.2.1.1,hw.2.2.2.1,hw.2.2.2.2,by rw [e]; exact Int.le_refl _,yZH _,fun i s i0 i1 s0 s1 _=> ?_,fun i i0 i1=> ?_⟩
  · rw [eg]at i1 s1
    rw [ed i i0 i1]
    obtain ⟨_,_,n3⟩:=yEX id i hg
    unfold ynU
    rw [n3]
    show nth (yv id g i).1 (s+6) []=_
    unfold yv
    rw [yYl hg g.2.toNat (Nat.le_refl _) (s+6) (by omega),zk0 (show 6≤s+6 by omega),zjI (show s+6 < 6+(g.2.toNat:Int) by omega)]; rfl
  · rw [eg]at i1
    rw [ed i i0 i1,(yEX id i hg).2.2,e]
    show ((([]:List dW).length:Nat):Int)≤1+(bif i== -1 then 0 else 0)
    rw [List.length_nil]
    cases (i== -1)<;>decide
theorem yZg {k:Int} {V:Int→Int→Int} {a b:dA} (h:Ix k V a) (ht:Turned a b) (hk:k+16≤60000) (hu:downA b=false): ∃ V',Ix (k+16) V' b:=by
  cases ht with
  | same=>exact ⟨V,ydD h (by omega)⟩
  | put b x hb hx=>exact ⟨V,ydD (y0H h hb hx) (by omega)⟩
  | flush s=>obtain ⟨V',h'⟩:=yMn s h (by omega) hu; exact ⟨V',ydD h' (by omega)⟩
  | all=>exact y0D h hk hu
  | fail m hl hm=>exact ⟨V,ydD (y0i h (.inl hl) hm (by omega) hu) (by omega)⟩
  | spare hl _=>exact ⟨V,ydD (yZM h hl (by omega) hu) (by omega)⟩
  | step hl hf hb=>exact ⟨V,ydD (y0k h hl hf hb hu) (by omega)⟩
  | check=>exact ⟨V,ydD (yXu h (by omega) hu) (by omega)⟩
  | spoil m s hm _ _=>exact ⟨V,ydD (yZN h hm) (by omega)⟩
theorem yZV {N p:Int} {l:List Int} (h:3≤N∧N≤5) (hp:0≤p∧p≤N - 1) (hl:(l.length:Int)=N):(nth l p 0::(List.range (N - 1).toNat).map (fun (i:Nat)=>nth l ((p+1+i).tmod N) 0)).Perm l:=by
  have:N=3∨N=4∨N=5:=by omega
  rcases this with rfl | rfl | rfl
  · match l,hl with
    | [a,b,c],_ =>
      have:p=0∨p=1∨p=2:=by omega
      rcases this with rfl | rfl | rfl<;>simp [nth,List.range_succ,List.perm_iff_count,List.count_cons]<;>(try (intro z; omega))
    | [],hl=>simp at hl
    | [_],hl=>simp at hl
    | [_,_],hl=>simp at hl
    | _::_::_::_::_,hl=>simp only [List.length_cons]at hl; omega
  · match l,hl with
    | [a,b,c,d],_ =>
      have:p=0∨p=1∨p=2∨p=3:=by omega
      rcases this with rfl | rfl | rfl | rfl<;>simp [nth,List.range_succ,List.perm_iff_count,List.count_cons]<;>(try (intro z; omega))
    | [],hl=>simp at hl
    | [_],hl=>simp at hl
    | [_,_],hl=>simp at hl
    | [_,_,_],hl=>simp at hl
    | _::_::_::_::_::_,hl=>simp only [List.length_cons]at hl; omega
  · match l,hl with
    | [a,b,c,d,e],_ =>
      have:p=0∨p=1∨p=2∨p=3∨p=4:=by omega
      rcases this with rfl | rfl | rfl | rfl | rfl<;>simp [nth,List.range_succ,List.perm_iff_count,List.count_cons]<;>(try (intro z; omega))
    | [],hl=>simp at hl
    | [_],hl=>simp at hl
    | [_,_],hl=>simp at hl
    | [_,_,_],hl=>simp at hl
    | [_,_,_,_],hl=>simp at hl
    | _::_::_::_::_::_::_,hl=>simp only [List.length_cons]at hl; omega
theorem yYo {N p:Int} {l:List Int} (h:3≤N∧N≤5) (hp:0≤p∧p≤N - 1) (hl:(l.length:Int)=N) (hw:l.all isW=true) (hx:yde l=0#64):xorOf ((List.range (N - 1).toNat).map (fun (i:Nat)=>nth l ((p+1+i).tmod N) 0))=nth l p 0:=by
  have h1:=yVj (yZV h hp hl)
  rw [yih,hx]at h1
  have h2:=yu1.1 (yIQ (i:=p) hw)
  rw [ykW]
  have:yde ((List.range (N - 1).toNat).map (fun (i:Nat)=>nth l ((p+1+i).tmod N) 0))=bv (nth l p 0):=by
    have ab: ∀ u v:BitVec 64,u ^^^ v=0#64→v=u:=fun u v h=>by
      have h3:u ^^^ (u ^^^ v)=u ^^^ 0#64:=by rw [h]
      rw [← BitVec.xor_assoc,BitVec.xor_self,BitVec.zero_xor,BitVec.xor_zero]at h3
      exact h3
    exact ab _ _ h1
  rw [this]
  exact yXY (by omega) (by omega)
theorem yZs {V:Int→Int→Int} {g:dG} {s:Int} (h:EvV g V) (s0:0≤s) (s1:s < g.2):(vlist V g.1 s).all isW=true:=by
  rw [yDM]
  intro x hx
  unfold vlist at hx
  obtain ⟨i,hi,rfl⟩:=List.mem_map.1 hx
  have:=List.mem_range.1 hi
  exact h.ew s i s0 s1 (by omega) (by omega)
def ydO (a:dA) (s:Int):Nat:=yaS (fun (i:Nat)=>ydC a s i) a.2.1.1.toNat
theorem yZP {k:Int} {V:Int→Int→Int} {a:dA} {s:Int} (h:Ix k V a) (s0:0≤s) (s1:s < a.2.1.2):yy a s=bif decide (ydO a s < 2) then (vlist V a.2.1.1 s,true) else ([],false):=by
  rw [yR8 h.xc.1 h.xk h.xe h.xv s0 s1,(yQf _ _).2]
  show (bif decide (2≤ydO a s) then ([],false) else (vlist V a.2.1.1 s,true))=_
  by_cases h2:ydO a s < 2
  · rw [decide_eq_true h2,decide_eq_false (by omega)]; rfl
  · rw [decide_eq_false h2,decide_eq_true (by omega)]; rfl
theorem y0j {k:Int} {V:Int→Int→Int} {a:dA} {s:Int} (h:Ix k V a) (s0:0≤s) (s1:s < a.2.1.2):yQe a s=(ydO a s:Nat):=by
  unfold yQe ydO
  rw [yQa h,zk0 s0,zk0 (show s≤a.2.1.2 - 1 by omega)]
  have: ∀ n,n≤a.2.1.1.toNat→yaS (fun (i:Nat)=>yl a i s) n=yaS (fun (i:Nat)=>ydC a s i) n:=by
    intro n
    induction n with
    | zero=>intro _; rfl
    | succ n ih=>intro hn; rw [ydP,ydP,ih (by omega),(yom h.xc.1 h.xk h.xv (show (0:Int)≤(n:Int) by omega) (by omega) s0 s1).1]
  rw [this _ (Nat.le_refl _)]; rfl
def yx6 (V:Int→Int→Int) (g:dG) (s:Int):List Int:=(List.range (g.1 - 1).toNat).map (fun (i:Nat)=>nth (vlist V g.1 s) (yb1 g s i) 0)
theorem yZO {k:Int} {V:Int→Int→Int} {a:dA} {s:Int} (h:Ix k V a) (s0:0≤s) (s1:s < a.2.1.2):yO a.2.1 s=true:=yao.2 ⟨h.xc.1,s0,by omega⟩
theorem y0Z {k:Int} {V:Int→Int→Int} {a:dA} {s:Int} (h:Ix k V a) (s0:0≤s) (s1:s < a.2.1.2):yY a s=bif decide (ydO a s < 2) then (yx6 V a.2.1 s,true) else ([],false):=by
  unfold yY yqZ
  rw [yQa h,h.xb,yZO h s0 s1,yZP h s0 s1]
  cases decide (ydO a s < 2)<;>rfl
theorem y0y {V:Int→Int→Int} {g:dG} {s:Int} (hs:yO g s=true) (h:EvV g V):xorOf (yx6 V g s)=nth (vlist V g.1 s) (yj g s) 0:=by
  have h1:=yao.1 hs
  have hg:=yg.1 h1.1
  have hd:yx6 V g s=(List.range (g.1 - 1).toNat).map (fun (i:Nat)=>nth (vlist V g.1 s) ((yj g s+1+i).tmod g.1) 0):=by
    unfold yx6
    refine List.map_congr_left fun i hi=> ?_
    have:=List.mem_range.1 hi
    unfold yb1
    rw [hs,zk0 (show (0:Int)≤i by omega),zk0 (show (i:Int)≤g.1 - 2 by omega)]; rfl
  rw [hd]
  exact yYo hg.1 (ykh hs) (by rw [yCA]; omega) (yZs h h1.2.1 (by omega)) (yR9 (h.ev s h1.2.1 (by omega)))
theorem y0V (V:Int→Int→Int) (g:dG) (s:Int):(yx6 V g s).length=(g.1 - 1).toNat:=by unfold yx6; rw [List.length_map,List.length_range]
theorem yEM (p:Nat→Bool): ∀ n,decide (yaS p n=0)=(List.range n).all p
  | 0=>rfl
  | n+1=>by
    rw [List.range_succ,List.all_append,← yEM p n,ydP]
    cases hp:p n
    · simp [hp]
    · simp [hp]
theorem yXx {k:Int} {V:Int→Int→Int} {a:dA} {s:Int} (h:Ix k V a) (s0:0≤s) (s1:s < a.2.1.2):yal a s=(0,decide (ydO a s=0)):=by
  have hlen:=h.xk.1.2
  have hN:a.2.2.1.length=a.2.1.1.toNat:=by omega
  have hw:yrq a s=decide (ydO a s=0):=by
    unfold yrq ydO
    rw [yEM,hN,Bool.eq_iff_iff,List.all_eq_true,List.all_eq_true]
    constructor
    · intro g i hi
      have hi':=List.mem_range.1 hi
      have:=g i hi
      rwa [(yom h.xc.1 h.xk h.xv (show (0:Int)≤(i:Int) by omega) (by omega) s0 s1).1]at this
    · intro g i hi
      have hi':=List.mem_range.1 hi
      rw [(yom h.xc.1 h.xk h.xv (show (0:Int)≤(i:Int) by omega) (by omega) s0 s1).1]
      exact g i hi
  unfold yal
  rw [hw]
  cases hd:decide (ydO a s=0)
  · rfl
  · rw [cond_true,hN]
    congr 1
    have:(List.range a.2.1.1.toNat).map (fun (i:Nat)=>ygx a i s)=vlist V a.2.1.1 s:=by
      unfold vlist
      refine List.map_congr_left fun i hi=> ?_
      have hi':=List.mem_range.1 hi
      refine (yom h.xc.1 h.xk h.xv (show (0:Int)≤(i:Int) by omega) (by omega) s0 s1).2 ?_
      unfold ydO at hd
      rw [yEM,List.all_eq_true]at hd
      exact hd i hi
    rw [this]
    exact h.xe.ev s s0 s1
theorem y0h {k:Int} {V:Int→Int→Int} {a:dA} (h:Ix k V a):yIM a=true:=by
  unfold yIM
  rw [List.all_eq_true]
  intro s hs
  have:=List.mem_range.1 hs
  rw [yXx h (by omega) (by omega)]
  simp
theorem y0f {k:Int} {V:Int→Int→Int} {a:dA} (h:Ix k V a):ySx a=(yaS (fun (s:Nat)=>decide (ydO a s=0)) a.2.1.2.toNat:Nat):=by
  unfold ySx
  rw [yQa h,cond_true]
  have: ∀ n,n≤a.2.1.2.toNat→yaS (fun (s:Nat)=>(yal a s).2) n=yaS (fun (s:Nat)=>decide (ydO a s=0)) n:=by
    intro n
    induction n with
    | zero=>intro _; rfl
    | succ n ih=>intro hn; rw [ydP,ydP,ih (by omega),yXx h (show (0:Int)≤(n:Int) by omega) (by omega)]
  rw [this _ (Nat.le_refl _)]
end
section
def yFq:Code:=(Tryz.f271.body).getD .skip
def yF1:Env:=zki TT [(239,yDX)] []
theorem yLU:FrOk Tryz.prog ⟨yF1,18,fun _=>none⟩ yFq:=zkp yc yd ⟨yWy,trivial⟩
def yOm:Nat→Option Seg:=fun _=>none
abbrev ygQ:List Par:= [.rd tN]
abbrev yqJ:List OT:= [⟨false,tL,(.ow .fz)⟩]
def ym9 (a0:dN):Option (ResD yqJ×MutD ygQ) :=
  let r1:=yeb a0
  bif (!r1) then
    some ((([]:List Int),()),())
  else
    bif (zj4 ([21322,a0.1,a0.2.1,(a0.2.2.length:Int)]:List Int).length a0.2.2.length 8) then
      some (((([21322,a0.1,a0.2.1,(a0.2.2.length:Int)]:List Int)++a0.2.2),()),())
    else none
theorem yVG (x:InD ygQ):zjH ⟨yF1,18,yOm⟩ Tryz.f271.results.toList yFq ygQ yqJ x=ym9 x.1:=by kernel_rfl
theorem yRa:ConOk Tryz.prog 271 ⟨ygQ,yqJ,fun x=>ym9 x.1⟩:=zkh (yLU) Tryz.func271 (by kernel_rfl) (by kernel_rfl) Tryz.ntmps271.symm (by decide) (fun x r h=>(yVG x).trans h)
def ylH (a0:dN):List Int:=yzZ a0
theorem yTy (a0:dN) (hk:zi9 ygQ (a0,())):ym9 a0=(fun n=>some ((n,()),())) (ylH a0):=by
  unfold ym9 ylH yzZ
  cases hr:yeb a0
  · rfl
  · have:=(yZm.1 hr).2.2.1
    rw [zkw.2 (show (([21322,a0.1,a0.2.1,(a0.2.2.length:Int)]:List Int).length+a0.2.2.length) * 8≤140737488355328 by simp only [List.length_cons,List.length_nil]; omega)]; rfl
def yBP:Con:=⟨ygQ,yqJ,fun x=>(fun n=>some ((n,()),())) (ylH x.1)⟩
theorem yUq:ConOk Tryz.prog 271 yBP:=(yRa).mono (fun x r hk h=>(yTy x.1 hk).trans h)
end
section
def yns:Code:=(Tryz.f229.body).getD .skip
def ysH:Env:=zki TT [(160,yBQ),(207,yjP),(261,ymV),(271,yBP)] []
theorem yP1:FrOk Tryz.prog ⟨ysH,24,fun _=>none⟩ yns:=zkp yc yd ⟨yUr,yq8,yu9,yUq,trivial⟩
def yDq:Nat→Option Seg:=fun _=>none
def ycy:Shape:=⟨[(0,false,[.ptr 1000000000 0]),(3,false,[.ptr 0 0]),(4,false,[.int .i64])],[(0,[.int .i64,.int .i64,.br tI]),(1000000000,[.int .i64,.int .i64,.int .i64,.at 800000000,.int .i64,.int .i64,.int .i64,.int .i64,.int .i64,.at 800000001,.int .i64,.bool,.bool])],[(800000000,tM,(.pr (.ow .fz) (.pr (.ow (.pr .fz .fz)) (.pr .fz (.ow .fz))))),(800000001,tW,(.pr .fz .fz))]⟩
def yhI:Shape:=⟨[(0,false,[.ptr 1000000000 0]),(3,false,[.ptr 0 0]),(4,false,[.ci .i64 0])],[(0,[.int .i64,.int .i64,.br tI]),(1000000000,[.int .i64,.int .i64,.int .i64,.at 800000000,.int .i64,.int .i64,.int .i64,.int .i64,.int .i64,.at 800000001,.int .i64,.bool,.bool])],[(800000000,tM,(.pr (.ow .fz) (.pr (.ow (.pr .fz .fz)) (.pr .fz (.ow .fz))))),(800000001,tW,(.pr .fz .fz))]⟩
def yhr:Shape:=⟨[(0,false,[.ptr 1000000000 0])],[(1000000000,[.int .i64,.int .i64,.int .i64,.at 800000000,.int .i64,.int .i64,.int .i64,.int .i64,.int .i64,.at 800000001,.int .i64,.bool,.bool])],[(800000000,tM,(.pr (.ow .fz) (.pr (.ow (.pr .fz .fz)) (.pr .fz (.ow .fz))))),(800000001,tW,(.pr .fz .fz))]⟩
def ymM:Shape:=⟨[],[],[]⟩
abbrev yrO (v0:Int) (v1:dN) (v2:dA):(ycy).X:=((((),()),((),()),(v0,()),()),((v1.1,v1.2.1,v1.2.2,()),(v2.1,v2.2.1.1,v2.2.1.2,(),v2.2.2.2.1,v2.2.2.2.2.1,v2.2.2.2.2.2.1,v2.2.2.2.2.2.2.1,v2.2.2.2.2.2.2.2.1,(),v2.2.2.2.2.2.2.2.2.2.1,v2.2.2.2.2.2.2.2.2.2.2.1,v2.2.2.2.2.2.2.2.2.2.2.2,()),()),(v2.2.2.1,v2.2.2.2.2.2.2.2.2.1,()))
abbrev yML (v0:dN) (v1:dA):(yhI).X:=((((),()),((),()),((),()),()),((v0.1,v0.2.1,v0.2.2,()),(v1.1,v1.2.1.1,v1.2.1.2,(),v1.2.2.2.1,v1.2.2.2.2.1,v1.2.2.2.2.2.1,v1.2.2.2.2.2.2.1,v1.2.2.2.2.2.2.2.1,(),v1.2.2.2.2.2.2.2.2.2.1,v1.2.2.2.2.2.2.2.2.2.2.1,v1.2.2.2.2.2.2.2.2.2.2.2,()),()),(v1.2.2.1,v1.2.2.2.2.2.2.2.2.1,()))
abbrev yzK (v0:dA):(yhr).X:=((((),()),()),((v0.1,v0.2.1.1,v0.2.1.2,(),v0.2.2.2.1,v0.2.2.2.2.1,v0.2.2.2.2.2.1,v0.2.2.2.2.2.2.1,v0.2.2.2.2.2.2.2.1,(),v0.2.2.2.2.2.2.2.2.2.1,v0.2.2.2.2.2.2.2.2.2.2.1,v0.2.2.2.2.2.2.2.2.2.2.2,()),()),(v0.2.2.1,v0.2.2.2.2.2.2.2.2.1,()))
def ysa (v0:Int) (v1:Int) (v2:Int) (v3:List Int) (v4:Int) (v5:Int) (v6:Int) (v7:Int) (v8:Int) (v9:Int) (v10:Int) (v11:Int) (v12:Int) (v13:Bool) (v14:Bool) (v15:List dM) (v16:List dW):Option ((ycy).X ⊕ ((yhr).X ⊕ (ymM).X)) :=
  bif (ltb v0 (v15.length:Int)) then
    let r4:=yab v1
    let r5:=ylH (v1,v2,v3)
    bnd (yec (v4,(v5,v6),v15,v7,v8,v9,v10,v11,v16,v12,v13,v14) v0 r4 r5) fun r6 =>
    some (.inl ((((),()),((),()),((IntKind.i64.wrap (v0+1)),()),()),((v1,v2,v3,()),(r6.2.1.1,r6.2.1.2.1.1,r6.2.1.2.1.2,(),r6.2.1.2.2.2.1,r6.2.1.2.2.2.2.1,r6.2.1.2.2.2.2.2.1,r6.2.1.2.2.2.2.2.2.1,r6.2.1.2.2.2.2.2.2.2.1,(),r6.2.1.2.2.2.2.2.2.2.2.2.1,r6.2.1.2.2.2.2.2.2.2.2.2.2.1,r6.2.1.2.2.2.2.2.2.2.2.2.2.2,()),()),(r6.2.1.2.2.1,r6.2.1.2.2.2.2.2.2.2.2.1,())))
  else
    some (.inr (.inl ((((),()),()),((v4,v5,v6,(),v7,v8,v9,v10,v11,(),v12,v13,v14,()),()),(v15,v16,()))))
def yc4 (x:(ycy).X):=ysa x.1.2.2.1.1 x.2.1.1.1 x.2.1.1.2.1 x.2.1.1.2.2.1 x.2.1.2.1.1 x.2.1.2.1.2.1 x.2.1.2.1.2.2.1 x.2.1.2.1.2.2.2.2.1 x.2.1.2.1.2.2.2.2.2.1 x.2.1.2.1.2.2.2.2.2.2.1 x.2.1.2.1.2.2.2.2.2.2.2.1 x.2.1.2.1.2.2.2.2.2.2.2.2.1 x.2.1.2.1.2.2.2.2.2.2.2.2.2.2.1 x.2.1.2.1.2.2.2.2.2.2.2.2.2.2.2.1 x.2.1.2.1.2.2.2.2.2.2.2.2.2.2.2.2.1 x.2.2.1 x.2.2.2.1
def yzh (x:(yhI).X):(ycy).X:=((((),()),((),()),(0,()),()),((x.2.1.1.1,x.2.1.1.2.1,x.2.1.1.2.2.1,()),(x.2.1.2.1.1,x.2.1.2.1.2.1,x.2.1.2.1.2.2.1,(),x.2.1.2.1.2.2.2.2.1,x.2.1.2.1.2.2.2.2.2.1,x.2.1.2.1.2.2.2.2.2.2.1,x.2.1.2.1.2.2.2.2.2.2.2.1,x.2.1.2.1.2.2.2.2.2.2.2.2.1,(),x.2.1.2.1.2.2.2.2.2.2.2.2.2.2.1,x.2.1.2.1.2.2.2.2.2.2.2.2.2.2.2.1,x.2.1.2.1.2.2.2.2.2.2.2.2.2.2.2.2.1,()),()),(x.2.2.1,x.2.2.2.1,()))
def yBB:Code:=(zdI yns 64 52).getD .skip
theorem yON:zdI yns 64 13=some (.block 0 (.loop yBB)):=by kernel_rfl
theorem yR2 (x:(ycy).X):zg7 ⟨ysH,24,yDq⟩ 0 yBB 52 ycy yhr ymM x=yc4 x:=by kernel_rfl
def yzz (x:(yhI).X):Nat:=(fun (u0:Int) (u1:Int) (u2:List Int) (u3:Int) (u4:Int) (u5:Int) (u6:Int) (u7:Int) (u8:Int) (u9:Int) (u10:Int) (u11:Int) (u12:Bool) (u13:Bool) (u14:List dM) (u15:List dW)=>18446744073709551616) x.2.1.1.1 x.2.1.1.2.1 x.2.1.1.2.2.1 x.2.1.2.1.1 x.2.1.2.1.2.1 x.2.1.2.1.2.2.1 x.2.1.2.1.2.2.2.2.1 x.2.1.2.1.2.2.2.2.2.1 x.2.1.2.1.2.2.2.2.2.2.1 x.2.1.2.1.2.2.2.2.2.2.2.1 x.2.1.2.1.2.2.2.2.2.2.2.2.1 x.2.1.2.1.2.2.2.2.2.2.2.2.2.2.1 x.2.1.2.1.2.2.2.2.2.2.2.2.2.2.2.1 x.2.1.2.1.2.2.2.2.2.2.2.2.2.2.2.2.1 x.2.2.1 x.2.2.2.1
def ysY (x:(yhI).X):Option ((yhr).X ⊕ (ymM).X):=zr yc4 (yzz x) (yzh x)
def yAk:Seg:=⟨yhI,yhr,ymM,ysY⟩
def yDr:Nat→Option Seg:=fun q=>bif Nat.beq q 13 then some yAk else yDq q
theorem yP2:FrOk Tryz.prog ⟨ysH,24,yDr⟩ yns:=(yP1).loop (sg:=yAk) ycy yzh (by decide) yON yc4 yzz (by decide) (fun _=>rfl) (fun x r _ h=>h) yR2
abbrev yjo:List Par:= [.pt tA (.pr .fz (.pr (.pr .fz .fz) (.pr (.ow (.pr (.ow .fz) (.pr (.ow (.pr .fz .fz)) (.pr .fz (.ow .fz))))) (.pr .fz (.pr .fz (.pr .fz (.pr .fz (.pr .fz (.pr (.ow (.pr .fz .fz)) (.pr .fz (.pr .fz .fz))))))))))),.rd tN]
abbrev ytr:List OT:= []
def ypb (a0:dA) (a1:dN):Option (ResD ytr×MutD yjo) :=
  zjw (ysY ((((),()),((),()),((),()),()),((a1.1,a1.2.1,a1.2.2,()),(a0.1,a0.2.1.1,a0.2.1.2,(),a0.2.2.2.1,a0.2.2.2.2.1,a0.2.2.2.2.2.1,a0.2.2.2.2.2.2.1,a0.2.2.2.2.2.2.2.1,(),a0.2.2.2.2.2.2.2.2.2.1,a0.2.2.2.2.2.2.2.2.2.2.1,a0.2.2.2.2.2.2.2.2.2.2.2,()),()),(a0.2.2.1,a0.2.2.2.2.2.2.2.2.1,()))) (fun y6 =>
    let r8:=ydc (y6.2.1.1.1,(y6.2.1.1.2.1,y6.2.1.1.2.2.1),y6.2.2.1,y6.2.1.1.2.2.2.2.1,y6.2.1.1.2.2.2.2.2.1,y6.2.1.1.2.2.2.2.2.2.1,y6.2.1.1.2.2.2.2.2.2.2.1,y6.2.1.1.2.2.2.2.2.2.2.2.1,y6.2.2.2.1,y6.2.1.1.2.2.2.2.2.2.2.2.2.2.1,y6.2.1.1.2.2.2.2.2.2.2.2.2.2.2.1,y6.2.1.1.2.2.2.2.2.2.2.2.2.2.2.2.1)
    some ((),(r8,()))) (fun y6 =>
    none)
theorem yXn (x:InD yjo):zjH ⟨ysH,24,yDr⟩ Tryz.f229.results.toList yns yjo ytr x=ypb x.1 x.2.1:=by kernel_rfl
theorem yUc:ConOk Tryz.prog 229 ⟨yjo,ytr,fun x=>ypb x.1 x.2.1⟩:=zkh (yP2) Tryz.func229 (by kernel_rfl) (by kernel_rfl) Tryz.ntmps229.symm (by decide) (fun x r h=>(yXn x).trans h)
def yj2 (a0:dA) (a1:dN):dA:=ybQ a0 a1
theorem yWk (a0:dA) (a1:dN) (hk:zi9 yjo (a0,a1,())):ypb a0 a1=(fun n=>some ((),(n,()))) (yj2 a0 a1):=by
  have hb:a0.2.2.1.length * 80≤2 ^ 47:=hk.1.2.2.1.1
  have h1:ysY (yML a1 a0)=some (.inl (yzK ((List.range a0.2.2.1.length).foldl (ykd a1) a0))) :=
    zks (step:=yc4) a0.2.2.1.length (fun i s=>yrO i a1 s) (ykd a1) (fun _ s=>s.2.2.1.length=a0.2.2.1.length) (fun s=> .inl (yzK s)) (fun i s hi hs=>⟨by
      simp only [yc4,yrO,ysa,hs,zjI (show (i:Int) < a0.2.2.1.length by omega),cond_true,wr (show -9223372036854775808≤(i:Int)+1 by omega) (by omega),Int.natCast_add,Int.natCast_one,Int.toNat_natCast,zkV,ylH]
      rw [ylQ s i (yab a1.1) (yzZ a1) (zkO (by rw [hs]; exact hi))]
      rfl,(ypf a1 s i).trans hs⟩) (fun s hs=>by simp only [yc4,yrO,ysa,hs,zkm (Int.le_refl _),cond_false]) a0 rfl _ (by show _ < 18446744073709551616; omega)
  unfold ypb yj2 ybQ
  exact (congrArg (fun z=>zjw z _ _) h1).trans rfl
def yD3:Con:=⟨yjo,ytr,fun x=>(fun n=>some ((),(n,()))) (yj2 x.1 x.2.1)⟩
theorem yWE:ConOk Tryz.prog 229 yD3:=(yUc).mono (fun x r hk h=>(yWk x.1 x.2.1 hk).trans h)
end
section
def ynn:Code:=(Tryz.f289.body).getD .skip
def ysC:Env:=zki TT [] []
theorem yPK:FrOk Tryz.prog ⟨ysC,18,fun _=>none⟩ ynn:=zkp yc yd trivial
def yDg:Nat→Option Seg:=fun _=>none
def ycu:Shape:=⟨[(0,false,[.br tI]),(3,false,[.int .i64]),(4,false,[.int .i64])],[],[]⟩
def yhE:Shape:=⟨[(0,false,[.br tI]),(3,false,[.ci .i64 0]),(4,false,[.ci .i64 0])],[],[]⟩
def yhn:Shape:=⟨[(3,false,[.int .i64])],[],[]⟩
def ymI:Shape:=⟨[],[],[]⟩
abbrev yrK (v0:List Int) (v1:Int) (v2:Int):(ycu).X:=(((v0,()),(v1,()),(v2,()),()),(),())
abbrev yMH (v0:List Int):(yhE).X:=(((v0,()),((),()),((),()),()),(),())
abbrev yzI (v0:Int):(yhn).X:=(((v0,()),()),(),())
def yr6 (v0:List Int) (v1:Int) (v2:Int):Option ((ycu).X ⊕ ((yhn).X ⊕ (ymI).X)) :=
  bif (ltb v2 (v0.length:Int)) then
    bif (inb v2 v0.length) then
      some (.inl (((v0,()),((IntKind.i64.wrap ((BitVec.ofInt IntKind.i64.bits v1 ^^^ BitVec.ofInt IntKind.i64.bits (nth v0 v2 0)).toNat:Int)),()),((IntKind.i64.wrap (v2+1)),()),()),(),()))
    else none
  else
    some (.inr (.inl (((v1,()),()),(),())))
def yc0 (x:(ycu).X):=yr6 x.1.1.1 x.1.2.1.1 x.1.2.2.1.1
def yzc (x:(yhE).X):(ycu).X:=(((x.1.1.1,()),(0,()),(0,()),()),(),())
def yBw:Code:=(zdI ynn 64 116).getD .skip
theorem yOI:zdI ynn 64 29=some (.block 0 (.loop yBw)):=by kernel_rfl
theorem yRX (x:(ycu).X):zg7 ⟨ysC,18,yDg⟩ 0 yBw 116 ycu yhn ymI x=yc0 x:=by kernel_rfl
def yzu (x:(yhE).X):Nat:=(fun (u0:List Int)=>18446744073709551616) x.1.1.1
def ysT (x:(yhE).X):Option ((yhn).X ⊕ (ymI).X):=zr yc0 (yzu x) (yzc x)
def yAf:Seg:=⟨yhE,yhn,ymI,ysT⟩
def yDh:Nat→Option Seg:=fun q=>bif Nat.beq q 29 then some yAf else yDg q
theorem yPL:FrOk Tryz.prog ⟨ysC,18,yDh⟩ ynn:=(yPK).loop (sg:=yAf) ycu yzc (by decide) yOI yc0 yzu (by decide) (fun _=>rfl) (fun x r _ h=>h) yRX
abbrev yjj:List Par:= [.rd tL]
abbrev ytg:List OT:= [⟨false,tI,.fz⟩]
def yo8 (a0:List Int):Option (ResD ytg×MutD yjj) :=
  zjw (ysT (((a0,()),((),()),((),()),()),(),())) (fun y0 =>
    some ((y0.1.1.1,()),())) (fun y0 =>
    none)
theorem yXb (x:InD yjj):zjH ⟨ysC,18,yDh⟩ Tryz.f289.results.toList ynn yjj ytg x=yo8 x.1:=by kernel_rfl
theorem yT0:ConOk Tryz.prog 289 ⟨yjj,ytg,fun x=>yo8 x.1⟩:=zkh (yPL) Tryz.func289 (by kernel_rfl) (by kernel_rfl) Tryz.ntmps289.symm (by decide) (fun x r h=>(yXb x).trans h)
def yj0 (a0:List Int):Int:=xorOf a0
theorem yWg (a0:List Int) (hk:zi9 yjj (a0,())):yo8 a0=(fun n=>some ((n,()),())) (yj0 a0):=by
  have hb:a0.length * 8≤2 ^ 47:=hk.1.1
  have h1:ysT (yMH a0)=some (.inl (yzI (xorOf a0))) :=
    zkk (step:=yc0) a0 0 (fun i s=>yrK a0 s i) xw (fun _ _=>True) (fun s=> .inl (yzI s)) (fun i s hi _=>⟨by
      simp only [yc0,yrK,yr6,zjI (show (i:Int) < a0.length by omega),cond_true,wr (show -9223372036854775808≤(i:Int)+1 by omega) (by omega),Int.natCast_add,Int.natCast_one,Int.toNat_natCast,zkO hi,zjW]; rfl,trivial⟩) (fun s _=>by simp only [yc0,yrK,yr6,zkm (Int.le_refl _),cond_false]) 0 trivial _ (by show _ < 18446744073709551616; omega)
  unfold yo8 yj0
  rw [h1]; rfl
def yDY:Con:=⟨yjj,ytg,fun x=>(fun n=>some ((n,()),())) (yj0 x.1)⟩
theorem yWz:ConOk Tryz.prog 289 yDY:=(yT0).mono (fun x r hk h=>(yWg x.1 hk).trans h)
end
section
def ywJ:Code:=(Tryz.f273.body).getD .skip
def ywW:Env:=zki TT [(289,yDY)] []
theorem yEJ:FrOk Tryz.prog ⟨ywW,5,fun _=>none⟩ ywJ:=zkp yc yd ⟨yWz,trivial⟩
def yGq:Nat→Option Seg:=fun _=>none
abbrev yeP:List Par:= [.rd tL]
abbrev yiu:List OT:= [⟨false,tI,.fz⟩]
def yma (a0:List Int):Option (ResD yiu×MutD yeP) :=
  let r1:=yj0 a0
  some ((r1,()),())
theorem yJj (x:InD yeP):zjH ⟨ywW,5,yGq⟩ Tryz.f273.results.toList ywJ yeP yiu x=yma x.1:=by kernel_rfl
theorem yGJ:ConOk Tryz.prog 273 ⟨yeP,yiu,fun x=>yma x.1⟩:=zkh (yEJ) Tryz.func273 (by kernel_rfl) (by kernel_rfl) Tryz.ntmps273.symm (by decide) (fun x r h=>(yJj x).trans h)
def yiC (a0:List Int):Int :=
  let r1:=yj0 a0
  r1
def yuq:Con:=⟨yeP,yiu,fun x=>(fun n=>some ((n,()),())) (yiC x.1)⟩
theorem yIp (a0:List Int):yma a0=(fun n=>some ((n,()),())) (yiC a0):=zkS (p:=fun (n:Int)=>((n,()),())) rfl
theorem yIu:ConOk Tryz.prog 273 yuq:=(yGJ).mono (fun x r _ h=>(yIp x.1).trans h)
end
section
def yk4:Code:=(Tryz.f230.body).getD .skip
def yqo:Env:=zki TT [(48,ytz),(141,ycD),(207,yjP),(272,yps),(273,yuq)] []
theorem yMg:FrOk Tryz.prog ⟨yqo,61,fun _=>none⟩ yk4:=zkp yc yd ⟨yEn,yfH,yq8,yzR,yIu,trivial⟩
def yA1:Nat→Option Seg:=fun _=>none
def ycx:Shape:=⟨[(0,false,[.ptr 1000000000 0]),(1,false,[.int .i64]),(2,false,[.br tI]),(6,false,[.int .i64]),(7,false,[.int .i64])],[(1000000000,[.int .i64,.int .i64,.int .i64,.at 800000000,.int .i64,.int .i64,.int .i64,.int .i64,.int .i64,.at 800000001,.int .i64,.bool,.bool])],[(800000000,tM,(.pr (.ow .fz) (.pr (.ow (.pr .fz .fz)) (.pr .fz (.ow .fz))))),(800000001,tW,(.pr .fz .fz))]⟩
def yhH:Shape:=⟨[(0,false,[.ptr 1000000000 0]),(1,false,[.int .i64]),(2,false,[.br tI]),(6,false,[.int .i64]),(7,false,[.ci .i64 0])],[(1000000000,[.int .i64,.int .i64,.int .i64,.at 800000000,.int .i64,.int .i64,.int .i64,.int .i64,.int .i64,.at 800000001,.int .i64,.bool,.bool])],[(800000000,tM,(.pr (.ow .fz) (.pr (.ow (.pr .fz .fz)) (.pr .fz (.ow .fz))))),(800000001,tW,(.pr .fz .fz))]⟩
def yhq:Shape:=⟨[],[(1000000000,[.int .i64,.int .i64,.int .i64,.at 800000000,.int .i64,.int .i64,.int .i64,.int .i64,.int .i64,.at 800000001,.int .i64,.bool,.bool])],[(800000000,tM,(.pr (.ow .fz) (.pr (.ow (.pr .fz .fz)) (.pr .fz (.ow .fz))))),(800000001,tW,(.pr .fz .fz))]⟩
def ymL:Shape:=⟨[],[],[]⟩
abbrev yrN (v0:Int) (v1:List Int) (v2:Int) (v3:Int) (v4:dA):(ycx).X:=((((),()),(v0,()),(v1,()),(v2,()),(v3,()),()),((v4.1,v4.2.1.1,v4.2.1.2,(),v4.2.2.2.1,v4.2.2.2.2.1,v4.2.2.2.2.2.1,v4.2.2.2.2.2.2.1,v4.2.2.2.2.2.2.2.1,(),v4.2.2.2.2.2.2.2.2.2.1,v4.2.2.2.2.2.2.2.2.2.2.1,v4.2.2.2.2.2.2.2.2.2.2.2,()),()),(v4.2.2.1,v4.2.2.2.2.2.2.2.2.1,()))
abbrev yMK (v0:Int) (v1:List Int) (v2:Int) (v3:dA):(yhH).X:=((((),()),(v0,()),(v1,()),(v2,()),((),()),()),((v3.1,v3.2.1.1,v3.2.1.2,(),v3.2.2.2.1,v3.2.2.2.2.1,v3.2.2.2.2.2.1,v3.2.2.2.2.2.2.1,v3.2.2.2.2.2.2.2.1,(),v3.2.2.2.2.2.2.2.2.2.1,v3.2.2.2.2.2.2.2.2.2.2.1,v3.2.2.2.2.2.2.2.2.2.2.2,()),()),(v3.2.2.1,v3.2.2.2.2.2.2.2.2.1,()))
abbrev yzJ (v0:dA):(yhq).X:=((),((v0.1,v0.2.1.1,v0.2.1.2,(),v0.2.2.2.1,v0.2.2.2.2.1,v0.2.2.2.2.2.1,v0.2.2.2.2.2.2.1,v0.2.2.2.2.2.2.2.1,(),v0.2.2.2.2.2.2.2.2.2.1,v0.2.2.2.2.2.2.2.2.2.2.1,v0.2.2.2.2.2.2.2.2.2.2.2,()),()),(v0.2.2.1,v0.2.2.2.2.2.2.2.2.1,()))
def yr9 (v0:Int) (v1:List Int) (v2:Int) (v3:Int) (v4:Int) (v5:Int) (v6:Int) (v7:Int) (v8:Int) (v9:Int) (v10:Int) (v11:Int) (v12:Int) (v13:Bool) (v14:Bool) (v15:List dM) (v16:List dW):Option ((ycx).X ⊕ ((yhq).X ⊕ (ymL).X)) :=
  bif (ltb v3 (v15.length:Int)) then
    let r9:=yiC v1
    bif (v3 !=v2) then
      bif (v5 !=0) then
        bif (inb ((IntKind.i64.wrap ((IntKind.i64.wrap ((IntKind.i64.wrap (v3 - v2)) - 1))+v5)).tmod v5) v1.length) then
          let r10:=ydb (v4,(v5,v6),v15,v7,v8,v9,v10,v11,v16,v12,v13,v14) v3 v0
          bif r10 then
            let r11:=yaw v0
            bnd (yec (v4,(v5,v6),v15,v7,v8,v9,v10,v11,v16,v12,v13,v14) v3 r11 ([(nth v1 ((IntKind.i64.wrap ((IntKind.i64.wrap ((IntKind.i64.wrap (v3 - v2)) - 1))+v5)).tmod v5) 0)]:List Int)) fun r12 =>
            some (.inl ((((),()),(v0,()),(v1,()),(v2,()),((IntKind.i64.wrap (v3+1)),()),()),((r12.2.1.1,r12.2.1.2.1.1,r12.2.1.2.1.2,(),r12.2.1.2.2.2.1,r12.2.1.2.2.2.2.1,r12.2.1.2.2.2.2.2.1,r12.2.1.2.2.2.2.2.2.1,r12.2.1.2.2.2.2.2.2.2.1,(),r12.2.1.2.2.2.2.2.2.2.2.2.1,r12.2.1.2.2.2.2.2.2.2.2.2.2.1,r12.2.1.2.2.2.2.2.2.2.2.2.2.2,()),()),(r12.2.1.2.2.1,r12.2.1.2.2.2.2.2.2.2.2.1,())))
          else
            some (.inl ((((),()),(v0,()),(v1,()),(v2,()),((IntKind.i64.wrap (v3+1)),()),()),((v4,v5,v6,(),v7,v8,v9,v10,v11,(),v12,v13,v14,()),()),(v15,v16,())))
        else none
      else none
    else
      let r13:=ydb (v4,(v5,v6),v15,v7,v8,v9,v10,v11,v16,v12,v13,v14) v3 v0
      bif r13 then
        let r14:=yaw v0
        bnd (yec (v4,(v5,v6),v15,v7,v8,v9,v10,v11,v16,v12,v13,v14) v3 r14 ([r9]:List Int)) fun r15 =>
        some (.inl ((((),()),(v0,()),(v1,()),(v2,()),((IntKind.i64.wrap (v3+1)),()),()),((r15.2.1.1,r15.2.1.2.1.1,r15.2.1.2.1.2,(),r15.2.1.2.2.2.1,r15.2.1.2.2.2.2.1,r15.2.1.2.2.2.2.2.1,r15.2.1.2.2.2.2.2.2.1,r15.2.1.2.2.2.2.2.2.2.1,(),r15.2.1.2.2.2.2.2.2.2.2.2.1,r15.2.1.2.2.2.2.2.2.2.2.2.2.1,r15.2.1.2.2.2.2.2.2.2.2.2.2.2,()),()),(r15.2.1.2.2.1,r15.2.1.2.2.2.2.2.2.2.2.1,())))
      else
        some (.inl ((((),()),(v0,()),(v1,()),(v2,()),((IntKind.i64.wrap (v3+1)),()),()),((v4,v5,v6,(),v7,v8,v9,v10,v11,(),v12,v13,v14,()),()),(v15,v16,())))
  else
    some (.inr (.inl ((),((v4,v5,v6,(),v7,v8,v9,v10,v11,(),v12,v13,v14,()),()),(v15,v16,()))))
def yc3 (x:(ycx).X):=yr9 x.1.2.1.1 x.1.2.2.1.1 x.1.2.2.2.1.1 x.1.2.2.2.2.1.1 x.2.1.1.1 x.2.1.1.2.1 x.2.1.1.2.2.1 x.2.1.1.2.2.2.2.1 x.2.1.1.2.2.2.2.2.1 x.2.1.1.2.2.2.2.2.2.1 x.2.1.1.2.2.2.2.2.2.2.1 x.2.1.1.2.2.2.2.2.2.2.2.1 x.2.1.1.2.2.2.2.2.2.2.2.2.2.1 x.2.1.1.2.2.2.2.2.2.2.2.2.2.2.1 x.2.1.1.2.2.2.2.2.2.2.2.2.2.2.2.1 x.2.2.1 x.2.2.2.1
def yzg (x:(yhH).X):(ycx).X:=((((),()),(x.1.2.1.1,()),(x.1.2.2.1.1,()),(x.1.2.2.2.1.1,()),(0,()),()),((x.2.1.1.1,x.2.1.1.2.1,x.2.1.1.2.2.1,(),x.2.1.1.2.2.2.2.1,x.2.1.1.2.2.2.2.2.1,x.2.1.1.2.2.2.2.2.2.1,x.2.1.1.2.2.2.2.2.2.2.1,x.2.1.1.2.2.2.2.2.2.2.2.1,(),x.2.1.1.2.2.2.2.2.2.2.2.2.2.1,x.2.1.1.2.2.2.2.2.2.2.2.2.2.2.1,x.2.1.1.2.2.2.2.2.2.2.2.2.2.2.2.1,()),()),(x.2.2.1,x.2.2.2.1,()))
def yBA:Code:=(zdI yk4 64 28).getD .skip
theorem yOM:zdI yk4 64 7=some (.block 0 (.loop yBA)):=by kernel_rfl
theorem yR1 (x:(ycx).X):zg7 ⟨yqo,61,yA1⟩ 0 yBA 28 ycx yhq ymL x=yc3 x:=by kernel_rfl
def yzy (x:(yhH).X):Nat:=(fun (u0:Int) (u1:List Int) (u2:Int) (u3:Int) (u4:Int) (u5:Int) (u6:Int) (u7:Int) (u8:Int) (u9:Int) (u10:Int) (u11:Int) (u12:Bool) (u13:Bool) (u14:List dM) (u15:List dW)=>18446744073709551616) x.1.2.1.1 x.1.2.2.1.1 x.1.2.2.2.1.1 x.2.1.1.1 x.2.1.1.2.1 x.2.1.1.2.2.1 x.2.1.1.2.2.2.2.1 x.2.1.1.2.2.2.2.2.1 x.2.1.1.2.2.2.2.2.2.1 x.2.1.1.2.2.2.2.2.2.2.1 x.2.1.1.2.2.2.2.2.2.2.2.1 x.2.1.1.2.2.2.2.2.2.2.2.2.2.1 x.2.1.1.2.2.2.2.2.2.2.2.2.2.2.1 x.2.1.1.2.2.2.2.2.2.2.2.2.2.2.2.1 x.2.2.1 x.2.2.2.1
def ysX (x:(yhH).X):Option ((yhq).X ⊕ (ymL).X):=zr yc3 (yzy x) (yzg x)
def yAj:Seg:=⟨yhH,yhq,ymL,ysX⟩
def yA2:Nat→Option Seg:=fun q=>bif Nat.beq q 7 then some yAj else yA1 q
theorem yMh:FrOk Tryz.prog ⟨yqo,61,yA2⟩ yk4:=(yMg).loop (sg:=yAj) ycx yzg (by decide) yOM yc3 yzy (by decide) (fun _=>rfl) (fun x r _ h=>h) yR1
abbrev yeJ:List Par:= [.pt tA (.pr .fz (.pr (.pr .fz .fz) (.pr (.ow (.pr (.ow .fz) (.pr (.ow (.pr .fz .fz)) (.pr .fz (.ow .fz))))) (.pr .fz (.pr .fz (.pr .fz (.pr .fz (.pr .fz (.pr (.ow (.pr .fz .fz)) (.pr .fz (.pr .fz .fz))))))))))),.rd tI,.rd tL]
abbrev ylu:List OT:= []
def yne (a0:dA) (a1:Int) (a2:List Int):Option (ResD ylu×MutD yeJ) :=
  let r1:=ycI a0.2.1 a1
  zjw (ysX ((((),()),(a1,()),(a2,()),(r1,()),((),()),()),((a0.1,a0.2.1.1,a0.2.1.2,(),a0.2.2.2.1,a0.2.2.2.2.1,a0.2.2.2.2.2.1,a0.2.2.2.2.2.2.1,a0.2.2.2.2.2.2.2.1,(),a0.2.2.2.2.2.2.2.2.2.1,a0.2.2.2.2.2.2.2.2.2.2.1,a0.2.2.2.2.2.2.2.2.2.2.2,()),()),(a0.2.2.1,a0.2.2.2.2.2.2.2.2.1,()))) (fun y15 =>
    some ((),((y15.2.1.1.1,(y15.2.1.1.2.1,y15.2.1.1.2.2.1),y15.2.2.1,y15.2.1.1.2.2.2.2.1,y15.2.1.1.2.2.2.2.2.1,y15.2.1.1.2.2.2.2.2.2.1,y15.2.1.1.2.2.2.2.2.2.2.1,y15.2.1.1.2.2.2.2.2.2.2.2.1,y15.2.2.2.1,y15.2.1.1.2.2.2.2.2.2.2.2.2.2.1,y15.2.1.1.2.2.2.2.2.2.2.2.2.2.2.1,y15.2.1.1.2.2.2.2.2.2.2.2.2.2.2.2.1),()))) (fun y15 =>
    none)
theorem yVW (x:InD yeJ):zjH ⟨yqo,61,yA2⟩ Tryz.f230.results.toList yk4 yeJ ylu x=yne x.1 x.2.1 x.2.2.1:=by kernel_rfl
theorem yRq:ConOk Tryz.prog 230 ⟨yeJ,ylu,fun x=>yne x.1 x.2.1 x.2.2.1⟩:=zkh (yMh) Tryz.func230 (by kernel_rfl) (by kernel_rfl) Tryz.ntmps230.symm (by decide) (fun x r h=>(yVW x).trans h)
def yq3 (a0:dA) (a1:Int) (a2:List Int):dA:=yaN a0 a1 a2
def ylR (a0:dA) (a1:Int) (a2:List Int):Bool:=yO a0.2.1 a1&&((a2.length:Int)==a0.2.1.1 - 1&&(a0.2.2.1.length:Int)==a0.2.1.1)
theorem yTI (a0:dA) (a1:Int) (a2:List Int) (hk:zi9 yeJ (a0,a1,a2,())) (hq:ylR a0 a1 a2=true):yne a0 a1 a2=(fun n=>some ((),(n,()))) (yq3 a0 a1 a2):=by
  simp only [ylR,Bool.and_eq_true,beq_iff_eq]at hq
  have hg:=yg.1 (yao.1 hq.1).1
  have hp:=ykh hq.1
  have h1:ysX (yMK a1 a2 (yj a0.2.1 a1) a0)=some (.inl (yzJ (yaN a0 a1 a2))) :=
    zks (step:=yc3) a0.2.2.1.length (fun i s=>yrN a1 a2 (yj a0.2.1 a1) i s) (ycO (yj a0.2.1 a1) a0.2.1.1 a1 a2) (fun _ s=>s.2.2.1.length=a0.2.2.1.length∧s.2.1=a0.2.1) (fun s=> .inl (yzJ s)) (fun i s hi hs=>⟨by
      have hN:s.2.1.1=a0.2.1.1:=by rw [hs.2]
      simp only [yc3,yrN,yr9,hs.1,zjI (show (i:Int) < a0.2.2.1.length by omega),cond_true,wr (show -9223372036854775808≤(i:Int)+1 by omega) (by omega),Int.natCast_add,Int.natCast_one,Int.toNat_natCast,zkV,yj0,yiC,ydb,ydG,ycO,yfi]
      rw [← hN]
      by_cases he:(i:Int)=yj a0.2.1 a1
      · rw [show ((i:Int) !=yj a0.2.1 a1)=false by simp [he],show ((i:Int)==yj a0.2.1 a1)=true from beq_iff_eq.2 he]
        rw [ylQ s i (dataAt a1) [xorOf a2] (zkO (by rw [hs.1]; exact hi))]
        cases yby s i a1<;>rfl
      · have hd:=y1n (N:=s.2.1.1) (i:=i) (p:=yj a0.2.1 a1) ⟨by omega,by omega⟩ ⟨by omega,by omega⟩ ⟨hp.1,by omega⟩ he
        rw [show ((i:Int) !=yj a0.2.1 a1)=true from bne_iff_ne.2 he,show ((i:Int)==yj a0.2.1 a1)=false from beq_eq_false_iff_ne.2 he,show (s.2.1.1 !=0)=true from bne_iff_ne.2 (by omega),
          wr (show -9223372036854775808≤(i:Int) - yj a0.2.1 a1 by omega) (by omega),wr (show -9223372036854775808≤(i:Int) - yj a0.2.1 a1 - 1 by omega) (by omega),wr (show -9223372036854775808≤(i:Int) - yj a0.2.1 a1 - 1+s.2.1.1 by omega) (by omega),zjP.2 (show 0≤((i:Int) - yj a0.2.1 a1 - 1+s.2.1.1).tmod s.2.1.1∧((i:Int) - yj a0.2.1 a1 - 1+s.2.1.1).tmod s.2.1.1 < a2.length by omega)]
        rw [ylQ s i (dataAt a1) [nth a2 (((i:Int) - yj a0.2.1 a1 - 1+s.2.1.1).tmod s.2.1.1) 0] (zkO (by rw [hs.1]; exact hi))]
        cases yby s i a1<;>rfl,(yp4 _ _ _ _ s i).trans hs.1,(yaF (yHv _ _ _ _ s i)).trans hs.2⟩) (fun s hs=>by simp only [yc3,yrN,yr9,hs.1,zkm (Int.le_refl _),cond_false]) a0 ⟨rfl,rfl⟩ _ (by show _ < 18446744073709551616; omega)
  unfold yne yq3 ycI
  exact (congrArg (fun z=>zjw z _ _) h1).trans rfl
def ygY (a0:dA) (a1:Int) (a2:List Int):Option (ResD ylu×MutD yeJ):=bif ylR a0 a1 a2 then (fun n=>some ((),(n,()))) (yq3 a0 a1 a2) else none
theorem yUB (a0:dA) (a1:Int) (a2:List Int) (h:ylR a0 a1 a2=true):ygY a0 a1 a2=(fun n=>some ((),(n,()))) (yq3 a0 a1 a2):=by unfold ygY; rw [h]; rfl
def yBX:Con:=⟨yeJ,ylu,fun x=>ygY x.1 x.2.1 x.2.2.1⟩
theorem yUy:ConOk Tryz.prog 230 yBX:=(yRq).mono (fun x r hk h=>zkW h (fun hq=>yTI x.1 x.2.1 x.2.2.1 hk hq))
end
end
end Go.Tf
