/- Functions of the program, and what they come to. -/
import Derived.Test.YtgmadfpnljibhaaGreatArrsF0
namespace Go.Tf
noncomputable section
open Go.Proofs
set_option synthInstance.maxHeartbeats 400000
set_option synthInstance.maxSize 10000
set_option linter.unusedVariables false
set_option linter.unusedSimpArgs false
set_option maxRecDepth 100000
section
def yJs:Code:=(Tryz.f134.body).getD .skip
def yJL:Env:=zj2 TT [(135,yr)] []
theorem ySJ:FrOk Tryz.prog ⟨yJL,11,fun _=>none⟩ yJs:=zj6 yc yd ⟨yx,trivial⟩
def yVa:Nat→Option Seg:=fun _=>none
abbrev ypf:List Par:= [.rd tG]
abbrev yuJ:List OT:= [⟨false,tB,.fz⟩]
def yxk (a0:dG):Option (ResD yuJ×MutD ypf) :=
 let r1:=ya a0.1 3 5
 bif r1 then
 let r2:=ya a0.2 1 8
 some ((r2,()),())
 else
 some ((false,()),())
theorem yZE (x:InD ypf):zjx ⟨yJL,11,yVa⟩ Tryz.f134.results.toList yJs ypf yuJ x=yxk x.1:=by kernel_rfl
theorem yWH:ConOk Tryz.prog 134 ⟨ypf,yuJ,fun x=>yxk x.1⟩:=zj1 (ySJ) Tryz.func134 (by kernel_rfl) (by kernel_rfl) Tryz.ntmps134.symm (by decide) (fun x r h=>(yZE x).trans h)
def yb (a0:dG):Bool :=
 let r1:=ya a0.1 3 5
 bif r1 then
 let r2:=ya a0.2 1 8
 r2
 else
 false
def ygp:Con:=⟨ypf,yuJ,fun x=>(fun n=>some ((n,()),())) (yb x.1)⟩
theorem yYM (a0:dG):yxk a0=(fun n=>some ((n,()),())) (yb a0):=zkp (p:=fun (n:Bool)=>((n,()),())) (zkb (p:=fun (n:Bool)=>((n,()),())) rfl rfl)
theorem ym4:ConOk Tryz.prog 134 ygp:=(yWH).mono (fun x r _ h=>(yYM x.1).trans h)
theorem yi {a:Int×Int}:yb a=true↔(3≤a.1∧a.1≤5)∧1≤a.2∧a.2≤8:=by
 unfold yb
 cases h:ya a.1 3 5
 ·have: ¬ (3≤a.1∧a.1≤5):=fun e=>by rw [yvo.2 e]at h; simp at h
  simp [this]
 ·simp only [cond_true,yvo]
  exact ⟨fun e=>⟨yvo.1 h,e⟩,fun e=>e.2⟩
def yhe (a:dA) (i:Nat):Bool:= !(yq (nth a.2.2.1 i noMem))||((((nth a.2.2.1 i noMem).1.length:Int) !=6+a.2.1.2)||((nth a.2.2.1 i noMem).2.2.1&&(((i:Int) !=a.2.2.2.1)&& !a.2.2.2.2.2.2.2.2.2.2.2)))
def ymM (a:dA):Bool:= !((List.range a.2.2.1.length).any (yhe a))&&(a.2.2.1.length:Int)==a.2.1.1
def yhT (g:dG) (l:List dW) (i:Nat):Bool:= !(leb 0 (nth l i (0,[])).1&&leb (nth l i (0,[])).1 (g.2 - 1))||(((nth l i (0,[])).2.length:Int) !=g.1 - 1||(!((nth l i (0,[])).2.all isW)||(decide (0 < i)&&leb (nth l i (0,[])).1 (nth l ((i - 1:Nat):Int) (0,[])).1)))
def yaO (g:dG) (l:List dW):Bool:= !((List.range l.length).any (yhT g l))
def yV (a:dA):Bool :=
 yb a.2.1&&((leb 1 a.1&&leb a.1 60000)&&(ymM a&&(yaO a.2.1 a.2.2.2.2.2.2.2.2.1&&((leb (-1) a.2.2.2.1&&leb a.2.2.2.1 (a.2.1.1 - 1))&&((leb 0 a.2.2.2.2.1&&leb a.2.2.2.2.1 a.2.1.2)&&(!(a.2.2.2.1== -1&&a.2.2.2.2.1 !=0) &&
 ((leb 0 a.2.2.2.2.2.2.1&&leb a.2.2.2.2.2.2.1 60000)&&((leb a.2.2.2.2.2.2.1 a.2.2.2.2.2.1&&leb a.2.2.2.2.2.1 60000)&&(leb a.2.2.2.2.2.1 (a.2.2.2.2.2.2.1+4)&&((leb 0 a.2.2.2.2.2.2.2.1&&leb a.2.2.2.2.2.2.2.1 60000)&&(leb (-1) a.2.2.2.2.2.2.2.2.2.1&&leb a.2.2.2.2.2.2.2.2.2.1 1000)))))))))))
theorem ypu {a:dA} (h:yV a=true):yb a.2.1=true:=(Bool.and_eq_true_iff.1 h).1
theorem yRX {a:dA} (h:yV a=true):ymM a=true:=by simp only [yV,Bool.and_eq_true]at h; exact h.2.2.1
theorem yD2 {a:dA} (h:yV a=true):(a.2.2.1.length:Int)=a.2.1.1:=by have:=yRX h; simp only [ymM,Bool.and_eq_true,beq_iff_eq]at this; exact this.2
theorem yXI {a:dA} (h:ymM a=true) {i:Nat} (hi:i < a.2.2.1.length):yq (nth a.2.2.1 i noMem)=true∧((nth a.2.2.1 i noMem).1.length:Int)=6+a.2.1.2∧((nth a.2.2.1 i noMem).2.2.1=true→(i:Int)=a.2.2.2.1∨a.2.2.2.2.2.2.2.2.2.2.2=true):=by
 simp only [ymM,Bool.and_eq_true,Bool.not_eq_true',List.any_eq_false,List.mem_range]at h
 have:=h.1 i hi
 simp only [yhe,Bool.not_eq_true,Bool.or_eq_false_iff,Bool.not_eq_false',bne_eq_false_iff_eq,Bool.and_eq_false_iff]at this
 refine ⟨this.1,this.2.1,fun hf=> ?_⟩
 rcases this.2.2 with h1 | h1 | h1
 ·rw [hf]at h1; cases h1
 ·exact .inl h1
 ·exact .inr h1
theorem yLy: ∀ {l:List Int} {lo n:Int},l.Pairwise (· < ·)→(∀ x∈l,lo≤x∧x < n)→lo≤n→(l.length:Int)≤n - lo
 | [],lo,n,_,_,h=>by simp; omega
 | x::l,lo,n,hp,hx,h=>by
  cases hp with
  | cons h1 h2 =>
   have h3:=hx x List.mem_cons_self
   have:=yLy (l:=l) (lo:=x+1) (n:=n) h2 (fun y hy=>⟨h1 y hy,(hx y (List.mem_cons_of_mem _ hy)).2⟩) (by omega)
   rw [List.length_cons]; omega
theorem ylh {n:Nat} {l:List Int}:yqw n l=true↔(∀ x∈l,0≤x∧x < n)∧l.Pairwise (· < ·):=by
 simp only [yqw,Bool.and_eq_true,List.all_eq_true,zjD,decide_eq_true_eq]
theorem ytd {m:dM} (h1:m.1.all yS=true) (h2:m.2.1.all (yrL m.1.length)=true) (h3:yqw m.1.length m.2.2.2=true) (h4:1≤m.1.length) (h5:m.1.length≤20) (h6:m.2.1.length≤60):yq m=true:=by
 simp only [yq,h1,h2,h3,Bool.true_and,Bool.and_eq_true,zjE]
 omega
theorem y06 {m:dM} (b:Nat→Bool) (h:yq m=true):(yde b m.2.1 m.1).all yS=true:=by
 obtain ⟨h1,h2,_⟩:=ya9 h
 rw [List.all_eq_true]
 exact y0D (P:=fun x=>yS x=true) (fun x hx=>List.all_eq_true.1 h1 x hx) (fun w hw=>(Bool.and_eq_true_iff.1 (List.all_eq_true.1 h2 w hw)).2)
theorem y0v {m:dM} (n:Int) (s:List Int) (h:yq m=true):yq (ya8 m n s).1=true:=by
 unfold ya8
 cases hc:yjl m n s
 ·exact h
 ·simp only [yjl,Bool.and_eq_true,Bool.not_eq_true',zjH]at hc
  obtain ⟨h1,h2,h3,h4,h5,h6⟩:=ya9 h
  refine ytd h1 ?_ ?_ h4 h5 (by show (m.2.1++ [(n,s)]).length≤60; rw [List.length_append]; simp only [List.length_cons,List.length_nil]; omega)
  ·show (m.2.1++ [(n,s)]).all (yrL m.1.length)=true
   rw [List.all_append,h2]
   simp [yrL,hc.2.2.1,hc.2.2.2.1]
  ·show yqw m.1.length (yXt m.2.2.2 n)=true
   obtain ⟨b1,b2⟩:=ylh.1 h3
   exact ylh.2 ⟨fun x hx=>b1 x (List.mem_filter.1 hx).1,b2.filter _⟩
theorem yXR (m:dM) (n:Int) (s:List Int):(ya8 m n s).1.1=m.1∧(ya8 m n s).1.2.2.1=m.2.2.1:=by
 unfold ya8
 cases yjl m n s<;>exact ⟨rfl,rfl⟩
theorem yZY {m:dM} (h:yq m=true):yq (ybx m)=true:=by
 unfold ybx
 cases hc:(yq m&& !m.2.2.1)
 ·exact h
 ·obtain ⟨h1,h2,h3,h4,h5,h6⟩:=ya9 h
  refine ytd (y06 _ h) rfl ?_ ?_ ?_ (Nat.zero_le _)
  ·show yqw (yde _ m.2.1 m.1).length m.2.2.2=true; rw [yxy]; exact h3
  ·show 1≤(yde _ m.2.1 m.1).length; rw [yxy]; exact h4
  ·show (yde _ m.2.1 m.1).length≤20; rw [yxy]; exact h5
theorem yXF (m:dM):(ybx m).1.length=m.1.length∧(ybx m).2.2.1=m.2.2.1:=by
 unfold ybx
 cases (yq m&& !m.2.2.1)
 ·exact ⟨rfl,rfl⟩
 ·exact ⟨yxy,rfl⟩
theorem y2B {m:dM} (h:yq m=true):yq (yAO m)=true:=by
 obtain ⟨h1,h2,h3,h4,h5,h6⟩:=ya9 h
 exact ytd h1 rfl h3 h4 h5 (Nat.zero_le _)
def y1A (l:List dM):Prop:= ∀ m∈l,yq m=true
theorem y0X {a:dA} (h:yV a=true):y1A a.2.2.1:=fun m hm=>by
 obtain ⟨i,hi,rfl⟩:=List.getElem_of_mem hm
 have:=(yXI (yRX h) hi).1
 rwa [zkm,zkd hi]at this
def yi4 (p:Nat→Bool) (n:Nat):Nat:=((List.range n).filter (fun i=> !p i)).length
theorem y2b (p:Nat→Bool) (n:Nat):yi4 p n≤n:=by
 have:=List.length_filter_le (fun i=> !p i) (List.range n)
 rwa [List.length_range]at this
theorem yvp (p:Nat→Bool) (n:Nat):yi4 p (n+1)=bif p n then yi4 p n else yi4 p n+1:=by
 unfold yi4
 rw [List.range_succ,List.filter_append,List.length_append,List.filter_cons]
 cases p n<;>simp
def yZn (a:dA):Int:=bif yV a then (yi4 (fun (s:Nat)=>(yga a s).2) a.2.1.2.toNat:Nat) else 0
theorem y0R {α:Type} (A:List α) (y:α) (t:List α) (d:α):(A++y::t).getD A.length d=y:=by
 rw [List.getD_eq_getElem?_getD,List.getElem?_append_right (Nat.le_refl _),Nat.sub_self]; rfl
theorem y0U {α:Type} (A:List α) (y z:α) (t:List α):(A++y::t).set A.length z=A++z::t:=by
 rw [List.set_append_right _ _ (Nat.le_refl _),Nat.sub_self]; rfl
def yTf (l:List Int) (n:Int):List Int:=l.filter (fun x=>ltb x n)++n::l.filter (fun x=>ltb n x)
def spoil (m:dM) (n:Int):dM:=bif yq m&&(inb n m.1.length&& !(m.2.2.2.any (· ==n))) then (m.1,m.2.1,m.2.2.1,yTf m.2.2.2 n) else m
theorem y0m {l:List Int} {n:Int} (h:l.Pairwise (· < ·)) (hn:n∉l):l=l.filter (fun x=>ltb x n)++l.filter (fun x=>ltb n x):=by
 induction l with
 | nil=>rfl
 | cons x t ih =>
  obtain ⟨hx,ht⟩:=List.pairwise_cons.1 h
  simp only [List.mem_cons,not_or]at hn
  rw [List.filter_cons,List.filter_cons]
  by_cases hlt:x < n
  ·rw [zj4 hlt,zkx (show x≤n by omega)]
   simp only [if_true,Bool.false_eq_true,if_false,List.cons_append]
   rw [← ih ht hn.2]
  ·have h3:t.filter (fun x=>ltb x n)= []:=List.filter_eq_nil_iff.2 (fun y hy=>by rw [zkx (by have:=hx y hy; omega)]; simp)
   have h4:t.filter (fun x=>ltb n x)=t:=List.filter_eq_self.2 (fun y hy=>zj4 (by have:=hx y hy; omega))
   rw [zkx (show n≤x by omega),zj4 (show n < x by omega),h3,h4]; rfl
theorem y0n {m:dM} (n:Int) (h:yq m=true):yq (spoil m n)=true:=by
 unfold spoil
 cases hc:(yq m&&(inb n m.1.length&& !(m.2.2.2.any (· ==n))))
 ·exact h
 ·simp only [Bool.and_eq_true]at hc
  have hi:=zjD.1 hc.2.1
  obtain ⟨h1,h2,h3,h4,h5,h6⟩:=ya9 h
  rw [ylh]at h3
  refine ytd h1 h2 ?_ h4 h5 h6
  show yqw m.1.length (yTf m.2.2.2 n)=true
  rw [ylh]
  unfold yTf
  refine ⟨fun x hx=> ?_,?_⟩
  ·rcases List.mem_append.1 hx with g | g
   ·exact h3.1 x (List.mem_filter.1 g).1
   ·rcases List.mem_cons.1 g with rfl | g
    ·exact hi
    ·exact h3.1 x (List.mem_filter.1 g).1
  ·rw [List.pairwise_append,List.pairwise_cons]
   refine ⟨h3.2.filter _,⟨fun y hy=>zjH.1 (List.mem_filter.1 hy).2,h3.2.filter _⟩,fun x hx y hy=> ?_⟩
   have g1:=zjH.1 (List.mem_filter.1 hx).2
   rcases List.mem_cons.1 hy with rfl | hy
   ·exact g1
   ·exact Int.lt_trans g1 (zjH.1 (List.mem_filter.1 hy).2)
theorem yXN (m:dM) (n:Int):(spoil m n).1=m.1∧(spoil m n).2.2.1=m.2.2.1:=by
 unfold spoil
 cases (yq m&&(inb n m.1.length&& !(m.2.2.2.any (· ==n))))<;>exact ⟨rfl,rfl⟩
def yaM (g:dG) (s:Int):Bool:=yb g&&(leb 0 s&&leb s (g.2 - 1))
def yn (g:dG) (s:Int):Int:=bif yaM g s then g.1 - 1 - s.tmod g.1 else -1
def yc1 (g:dG) (s i:Int):Int:=bif yaM g s&&(leb 0 i&&leb i (g.1 - 2)) then (yn g s+1+i).tmod g.1 else -1
theorem ybC {g:dG} {s:Int}:yaM g s=true↔yb g=true∧0≤s∧s≤g.2 - 1:=by simp [yaM,zjE]
theorem ytW {g:dG} {s:Int} (h:yaM g s=true):0≤yn g s∧yn g s≤g.1 - 1:=by
 have h1:=ybC.1 h
 have h2:=yi.1 h1.1
 unfold yn
 rw [h,cond_true,Int.tmod_eq_emod_of_nonneg h1.2.1]
 have:=Int.emod_nonneg s (show g.1≠0 by omega)
 have:=Int.emod_lt_of_pos s (show 0 < g.1 by omega)
 omega
theorem y0N {g:dG} {s i:Int} (h:yaM g s=true) (h1:0≤i) (h2:i≤g.1 - 2):0≤yc1 g s i∧yc1 g s i≤g.1 - 1:=by
 have h3:=yi.1 (ybC.1 h).1
 have h4:=ytW h
 unfold yc1
 rw [h,zkw h1,zkw h2,Bool.and_self,Bool.and_self,cond_true,Int.tmod_eq_emod_of_nonneg (by omega)]
 have:=Int.emod_nonneg (yn g s+1+i) (show g.1≠0 by omega)
 have:=Int.emod_lt_of_pos (yn g s+1+i) (show 0 < g.1 by omega)
 omega
def yo (p:Nat→Bool):Nat→Int
 | 0=> -1
 | n+1=>bif p n then yo p n else n
def yfa (p:Nat→Bool) (n:Nat):Bool:=(List.range n).any (fun i=> !p i&&leb 0 (yo p i))
theorem yKP (p:Nat→Bool): ∀ n,yo p n= -1∨(0≤yo p n∧yo p n < n∧p (yo p n).toNat=false)
 | 0=> .inl rfl
 | n+1=>by
  unfold yo
  cases h:p n
  ·exact .inr ⟨by show (0:Int)≤n; omega,by show (n:Int) < _; omega,h⟩
  ·rcases yKP p n with h1 | h1
   ·exact .inl h1
   ·exact .inr ⟨h1.1,by show yo p n < _; omega,h1.2.2⟩
def yE (a:dA) (s:Int) (n:Nat):List Int:=(List.range n).map (fun (i:Nat)=>yjr a i s)
theorem yeM (a:dA) (s:Int) (n:Nat):(yE a s n).length=n:=by unfold yE; rw [List.length_map,List.length_range]
theorem yIz (a:dA) (s:Int) (n:Nat):yE a s n++ [yjr a n s]=yE a s (n+1):=by unfold yE; rw [List.range_succ,List.map_append]; rfl
theorem y0J (a:dA) (s:Int) {i n:Nat} (h:i < n):nth (yE a s n) i 0=yjr a i s:=by
 unfold yE
 rw [zkm,zkd (by rw [List.length_map,List.length_range]; exact h)]; simp
def yN (a:dA) (s:Int):List Int×Bool :=
 bif yfa (fun (i:Nat)=>ym a i s) a.2.1.1.toNat then ([],false)
 else bif leb 0 (yo (fun (i:Nat)=>ym a i s) a.2.1.1.toNat) then ((yE a s a.2.1.1.toNat).set (yo (fun (i:Nat)=>ym a i s) a.2.1.1.toNat).toNat (xorOf (yE a s a.2.1.1.toNat)),true)
 else (yE a s a.2.1.1.toNat,true)
theorem yLw {a:dA} {s:Int} (h:(yN a s).2=true):(yN a s).1.length=a.2.1.1.toNat:=by
 unfold yN at h ⊢
 cases h1:yfa (fun (i:Nat)=>ym a i s) a.2.1.1.toNat
 ·cases leb 0 (yo (fun (i:Nat)=>ym a i s) a.2.1.1.toNat)
  ·exact yeM _ _ _
  ·simp only [cond_false,cond_true,List.length_set]; exact yeM _ _ _
 ·rw [h1]at h; cases h
theorem yXL (a:dA) (s:Int) (n:Nat) (h:leb 0 (yo (fun (i:Nat)=>ym a i s) n)=true):inb (yo (fun (i:Nat)=>ym a i s) n) (yE a s n).length=true∧ypB (yE a s n) (yo (fun (i:Nat)=>ym a i s) n)=xorOf (yE a s n):=by
 rcases yKP (fun (i:Nat)=>ym a i s) n with h1 | h1
 ·rw [h1]at h; cases h
 ·have h2:inb (yo (fun (i:Nat)=>ym a i s) n) (yE a s n).length=true:=by rw [yeM,zjD]; exact ⟨h1.1,h1.2.1⟩
  refine ⟨h2,y1w h2 ?_⟩
  have h3:=y0J a s (show (yo (fun (i:Nat)=>ym a i s) n).toNat < n by omega)
  rw [show (((yo (fun (i:Nat)=>ym a i s) n).toNat:Nat):Int)=yo (fun (i:Nat)=>ym a i s) n by omega]at h3
  rw [h3]
  unfold yjr
  have h4:ym a (yo (fun (i:Nat)=>ym a i s) n) s=false:=by
   have:=h1.2.2
   have this:ym a ((yo (fun (i:Nat)=>ym a i s) n).toNat:Nat) s=false:=h1.2.2
   rwa [show (((yo (fun (i:Nat)=>ym a i s) n).toNat:Nat):Int)=yo (fun (i:Nat)=>ym a i s) n by omega]at this
  rw [h4]; rfl
def yAE (a:dA) (s:Int):List Int×Bool:=bif (yN a s).2 then ((List.range (a.2.1.1 - 1).toNat).map (fun (i:Nat)=>nth (yN a s).1 (yc1 a.2.1 s i) 0),true) else ([],false)
def yBK (a:dA) (s:Int):List Int×Bool:=bif yV a&&(!a.2.2.2.2.2.2.2.2.2.2.2&&yaM a.2.1 s) then yAE a s else ([],false)
theorem yTh (p:Nat→Bool): ∀ n,leb 0 (yo p n)=decide (1≤yi4 p n)∧yfa p n=decide (2≤yi4 p n)
 | 0=>⟨rfl,rfl⟩
 | n+1=>by
  obtain ⟨h1,h2⟩:=yTh p n
  have e:yfa p (n+1)=(yfa p n||(!p n&&leb 0 (yo p n))):=by
   unfold yfa
   rw [List.range_succ,List.any_append]; simp
  have e2:yo p (n+1)=bif p n then yo p n else n:=rfl
  rw [e,e2,yvp,h2,h1]
  cases hp:p n
  ·simp only [cond_false,Bool.not_false,Bool.true_and]
   refine ⟨by rw [zkw (show (0:Int)≤n by omega)]; simp,?_⟩
   rw [Bool.eq_iff_iff,Bool.or_eq_true,decide_eq_true_eq,decide_eq_true_eq,decide_eq_true_eq]; omega
  ·simp [h1]
def yZq (m:dM) (n:Int):List Int:=yCq n m.2.1 (nth m.1 n [])
def yOr (m:dM) (n:Int):Bool:=m.2.2.2.any (· ==n)
theorem y2f {m:dM} {n:Int} (h:yq m=true) (h1:m.2.2.1=false) (h2:inb n m.1.length=true):yU m n=bif yOr m n then ([],false) else (yZq m n,true):=by
 unfold yU yqx
 rw [h,h1,h2]
 show (bif !(yOr m n) then (yZq m n,true) else ([],false))=_
 cases yOr m n<;>rfl
theorem y0g {α:Type} {l:List α} {i k:Int} {x d:α} (hi:inb i l.length=true) (hk:0≤k):nth (l.set i.toNat x) k d=bif i==k then x else nth l k d:=by
 have h1:=zjD.1 hi
 unfold nth
 rw [List.getD_eq_getElem?_getD,List.getD_eq_getElem?_getD,List.getElem?_set]
 by_cases h:i=k
 ·subst h; simp [show i.toNat < l.length by omega]
 ·rw [if_neg (by omega),show (i==k)=false from beq_eq_false_iff_ne.2 h]; rfl
theorem y2R {x:Int} (h:isW x=true):(bv x).toNat < 2 ^ 16:=by
 have:=yLD.1 h
 unfold bv
 rw [BitVec.toNat_ofInt]
 omega
theorem y2T {v:BitVec 64} (h:v.toNat < 2 ^ 16):isW v.toInt=true:=by
 rw [BitVec.toInt_eq_toNat_of_lt (by omega)]
 exact yLD.2 (by omega)
theorem y2P: ∀ (l:List Int),l.all isW=true→(yhp l).toNat < 2 ^ 16:=by
 intro l h
 have: ∀ (l:List Int) (v:BitVec 64),v.toNat < 2 ^ 16→l.all isW=true→(l.foldl (fun v x=>v ^^^ bv x) v).toNat < 2 ^ 16:=by
  intro l
  induction l with
  | nil=>intro v hv _; exact hv
  | cons x t ih =>
   intro v hv h
   simp only [List.all_cons,Bool.and_eq_true]at h
   refine ih _ ?_ h.2
   rw [BitVec.toNat_xor]
   exact Nat.xor_lt_two_pow hv (y2R h.1)
 exact this l 0#64 (by decide) h
theorem y1Q {l:List Int} (h:l.all isW=true):isW (xorOf l)=true:=by
 rw [yxo]; exact y2T (y2P l h)
theorem yLx {l:List Int}:l.all isW=true↔ ∀ x∈l,isW x=true:=by simp
theorem y0S {l:List Int} {i:Int} (h:l.all isW=true):isW (nth l i 0)=true:=by
 unfold nth
 rw [List.getD_eq_getElem?_getD]
 cases e:l[i.toNat]? with
 | none=>rfl
 | some x=>exact yLx.1 h x (List.mem_of_getElem? e)
theorem y0V {l:List Int} {i:Nat} {x:Int} (h:l.all isW=true) (hx:isW x=true):(l.set i x).all isW=true:=by
 rw [yLx]at h ⊢
 intro y hy
 rcases List.mem_or_eq_of_mem_set hy with h1 | rfl
 ·exact h y h1
 ·exact hx
theorem y1c {m:dM} {n:Int} (h:(yU m n).2=true):yS (yU m n).1=true:=by
 unfold yU at h ⊢
 cases hc:yqx m n
 ·rw [hc]at h; cases h
 ·simp only [yqx,Bool.and_eq_true]at hc
  obtain ⟨h1,h2,h3,_,_,_⟩:=ya9 hc.1
  refine yHf (P:=fun s=>yS s=true) ?_ fun w hw=> ?_
  ·exact yAP (P:=fun s=>yS s=true) hc.2.2.1 (fun x hx=>List.all_eq_true.1 h1 x hx)
  ·have:=List.all_eq_true.1 h2 w hw
   simp only [yrL,Bool.and_eq_true]at this
   exact this.2
theorem y2r (a:dA) (m s:Int):isW (yjr a m s)=true:=by
 unfold yjr
 cases h:ym a m s
 ·rfl
 ·simp only [ym,Bool.and_eq_true]at h
  have:=y1c (m:=nth a.2.2.1 m noMem) (n:=dataAt s) h.2.1
  simp only [yS,Bool.and_eq_true]at this
  exact y0S this.2
theorem yC0 (a:dA) (s:Int) (n:Nat):(yE a s n).all isW=true:=by
 rw [yLx]
 unfold yE
 intro x hx
 obtain ⟨i,_,rfl⟩:=List.mem_map.1 hx
 exact y2r a i s
theorem y1O (a:dA) (s:Int):(yN a s).1.all isW=true:=by
 unfold yN
 cases yfa (fun (i:Nat)=>ym a i s) a.2.1.1.toNat
 ·cases leb 0 (yo (fun (i:Nat)=>ym a i s) a.2.1.1.toNat)
  ·exact yC0 _ _ _
  ·exact y0V (yC0 _ _ _) (y1Q (yC0 _ _ _))
 ·rfl
theorem y1l (a:dA) (s:Int):(yAE a s).1.all isW=true:=by
 unfold yAE
 cases (yN a s).2
 ·rfl
 ·rw [yLx]
  intro x hx
  obtain ⟨i,_,rfl⟩:=List.mem_map.1 hx
  exact y0S (y1O a s)
end
section
def yFq:Code:=(Tryz.f226.body).getD .skip
def yF8:Env:=zj2 TT [(134,ygp),(135,yr)] []
theorem yMA:FrOk Tryz.prog ⟨yF8,60,fun _=>none⟩ yFq:=zj6 yc yd ⟨ym4,yx,trivial⟩
def yN7:Nat→Option Seg:=fun _=>none
abbrev ykz:List Par:= [.rd tS]
abbrev yqr:List OT:= [⟨false,tB,.fz⟩]
def ytA (a0:dS):Option (ResD yqr×MutD ykz) :=
 let r1:=yb (a0.2.2.2.1,a0.2.2.2.2.1)
 bif (!(!r1)) then
 let r2:=ya a0.1 1 60000
 bif (!(!r2)) then
 let r3:=ya a0.2.1 0 60000
 bif (!(!r3)) then
 let r4:=ya a0.2.2.1 0 (IntKind.i64.wrap (a0.2.2.2.1 - 1))
 bif (!(!r4)) then
 let r5:=ya a0.2.2.2.2.2.1 0 60000
 bif (!r5) then
 some ((false,()),())
 else
 let r6:=ya a0.2.2.2.2.2.2.1 (-1) (IntKind.i64.wrap (a0.2.2.2.1 - 1))
 bif r6 then
 let r7:=ya a0.2.2.2.2.2.2.2 0 a0.2.2.2.2.1
 bif r7 then
 bif (!(leb 0 a0.2.2.2.2.2.2.1)) then
 some (((a0.2.2.2.2.2.2.2==0),()),())
 else
 some ((true,()),())
 else
 some ((false,()),())
 else
 some ((false,()),())
 else
 some ((false,()),())
 else
 some ((false,()),())
 else
 some ((false,()),())
 else
 some ((false,()),())
theorem yVF (x:InD ykz):zjx ⟨yF8,60,yN7⟩ Tryz.f226.results.toList yFq ykz yqr x=ytA x.1:=by kernel_rfl
theorem yQC:ConOk Tryz.prog 226 ⟨ykz,yqr,fun x=>ytA x.1⟩:=zj1 (yMA) Tryz.func226 (by kernel_rfl) (by kernel_rfl) Tryz.ntmps226.symm (by decide) (fun x r h=>(yVF x).trans h)
def yA (a0:dS):Bool :=
 let r1:=yb (a0.2.2.2.1,a0.2.2.2.2.1)
 bif (!(!r1)) then
 let r2:=ya a0.1 1 60000
 bif (!(!r2)) then
 let r3:=ya a0.2.1 0 60000
 bif (!(!r3)) then
 let r4:=ya a0.2.2.1 0 (IntKind.i64.wrap (a0.2.2.2.1 - 1))
 bif (!(!r4)) then
 let r5:=ya a0.2.2.2.2.2.1 0 60000
 bif (!r5) then
 false
 else
 let r6:=ya a0.2.2.2.2.2.2.1 (-1) (IntKind.i64.wrap (a0.2.2.2.1 - 1))
 bif r6 then
 let r7:=ya a0.2.2.2.2.2.2.2 0 a0.2.2.2.2.1
 bif r7 then
 bif (!(leb 0 a0.2.2.2.2.2.2.1)) then
 (a0.2.2.2.2.2.2.2==0)
 else
 true
 else
 false
 else
 false
 else
 false
 else
 false
 else
 false
 else
 false
def yBF:Con:=⟨ykz,yqr,fun x=>(fun n=>some ((n,()),())) (yA x.1)⟩
theorem yTF (a0:dS):ytA a0=(fun n=>some ((n,()),())) (yA a0):=zkp (p:=fun (n:Bool)=>((n,()),())) (zkb (p:=fun (n:Bool)=>((n,()),())) (zkb (p:=fun (n:Bool)=>((n,()),())) (zkb (p:=fun (n:Bool)=>((n,()),())) (zkb (p:=fun (n:Bool)=>((n,()),())) (zkb (p:=fun (n:Bool)=>((n,()),())) rfl (zkb (p:=fun (n:Bool)=>((n,()),())) (zkb (p:=fun (n:Bool)=>((n,()),())) (zkb (p:=fun (n:Bool)=>((n,()),())) rfl rfl) rfl) rfl)) rfl) rfl) rfl) rfl)
theorem yUA:ConOk Tryz.prog 226 yBF:=(yQC).mono (fun x r _ h=>(yTF x.1).trans h)
abbrev yfe:dS:=(0,0,0,0,0,0,0,0)
theorem yFg {s:dS}:yA s=true↔yb (s.2.2.2.1,s.2.2.2.2.1)=true∧(1≤s.1∧s.1≤60000)∧(0≤s.2.1∧s.2.1≤60000)∧(0≤s.2.2.1∧s.2.2.1≤s.2.2.2.1 - 1)∧(0≤s.2.2.2.2.2.1∧s.2.2.2.2.2.1≤60000)∧(-1≤s.2.2.2.2.2.2.1∧s.2.2.2.2.2.2.1≤s.2.2.2.1 - 1)∧(0≤s.2.2.2.2.2.2.2∧s.2.2.2.2.2.2.2≤s.2.2.2.2.1)∧(0≤s.2.2.2.2.2.2.1∨s.2.2.2.2.2.2.2=0):=by
 unfold yA
 cases hg:yb (s.2.2.2.1,s.2.2.2.2.1)
 ·simp
 have hg2:=yi.1 hg
 simp only at hg2
 rw [wr (show -9223372036854775808≤s.2.2.2.1 - 1 by omega) (by omega)]
 simp only [Bool.not_not,cond_true,true_and]
 simp only [← yvo]
 cases ya s.1 1 60000
 ·simp
 cases ya s.2.1 0 60000
 ·simp
 cases ya s.2.2.1 0 (s.2.2.2.1 - 1)
 ·simp
 cases ya s.2.2.2.2.2.1 0 60000
 ·simp
 cases ya s.2.2.2.2.2.2.1 (-1) (s.2.2.2.1 - 1)
 ·simp
 cases ya s.2.2.2.2.2.2.2 0 s.2.2.2.2.1
 ·simp
 cases hl:leb 0 s.2.2.2.2.2.2.1
 ·have:=mt zkw (by rw [hl]; simp: ¬ leb 0 s.2.2.2.2.2.2.1=true)
  simp [this]
 ·simp [zjE.1 hl]
def yGQ (l:List Int):dS:=(nth l 1 0,nth l 2 0,nth l 3 0,nth l 4 0,nth l 5 0,nth l 6 0,IntKind.i64.wrap (nth l 7 0 - 1),nth l 8 0)
def yfm (l:List Int):dS×Bool:=bif (l.length:Int)==9&&(nth l 0 0==21317&&yA (yGQ l)) then (yGQ l,true) else (yfe,false)
def yGT (m:dM) (i:Int):dS:=(yfm (yU m i).1).1
def ypw (m:dM) (id i:Int):Bool:=(yU m i).2&&((yfm (yU m i).1).2&&((yGT m i).1==id&&(yGT m i).2.1.tmod 2==i))
def ymG (b:dS×Bool) (ok:Bool) (s:dS):dS×Bool:=bif ok&&(!b.2||ltb b.1.2.1 s.2.1) then (s,true) else b
def ya5 (m:dM) (id:Int):dS×Bool:=(List.range 2).foldl (fun s (i:Nat)=>ymG s (ypw m id i) (yGT m i)) (yfe,false)
def ysO (m:dM) (i id:Int):Bool:= !m.2.2.1&&((ya5 m id).2&&(ya5 m id).1.2.2.1==i)
def ye8 (l:List dM) (id:Int):dS×Bool:=(List.range l.length).foldl (fun s (i:Nat)=>ymG s (ysO (nth l i noMem) i id) (ya5 (nth l i noMem) id).1) (yfe,false)
def yne (l:List dM) (id:Int) (s:Int×Int×Bool) (i:Nat):Int×Int×Bool:=bif ysO (nth l i noMem) i id then s else bif s.1== -1||s.1==i then ((i:Int),0,s.2.2) else (s.1,s.2.1,true)
def yuZ (b:dS) (l:List dM) (id:Int) (s:Int×Int×Bool):dA:=(id,(b.2.2.2.1,b.2.2.2.2.1),l,s.1,s.2.1,b.2.2.2.2.2.1,b.2.2.2.2.2.1,b.2.1,[],-1,false,s.2.2)
def yJ4 (l:List dM) (id:Int):dA:=yuZ (ye8 l id).1 l id ((List.range l.length).foldl (yne l id) ((ye8 l id).1.2.2.2.2.2.2.1,(ye8 l id).1.2.2.2.2.2.2.2,false))
def yGS (l:List dM) (id:Int):dA×Bool:=bif (ye8 l id).2&&((l.length:Int)==(ye8 l id).1.2.2.2.1&&yV (yJ4 l id)) then (yJ4 l id,true) else (yZ,false)
theorem y1V (b:dS×Bool) (s:dS):ymG b false s=b:=rfl
theorem y0H {m:dM} {i:Int} (h:(yU m i).2=true):yq m=true:=by
 unfold yU at h
 cases hc:yqx m i
 ·rw [hc]at h; cases h
 ·exact (Bool.and_eq_true_iff.1 hc).1
theorem y1W {m:dM} {id i:Int} (h:yq m=false):ypw m id i=false:=by
 unfold ypw
 cases hr:(yU m i).2
 ·rfl
 ·rw [y0H hr]at h; cases h
theorem y1U {m:dM} {id:Int} (h:(ya5 m id).2=true):yq m=true:=by
 cases hm:yq m
 ·unfold ya5 at h
  simp only [y1W hm,y1V]at h
  exact h
 ·rfl
end
section
def yDi:Code:=(Tryz.f140.body).getD .skip
def yDW:Env:=zj2 TT [(226,yBF)] []
theorem yKB:FrOk Tryz.prog ⟨yDW,25,fun _=>none⟩ yDi:=zj6 yc yd ⟨yUA,trivial⟩
def yLQ:Nat→Option Seg:=fun _=>none
abbrev yh9:List Par:= [.rd tS]
abbrev yn4:List OT:= [⟨false,tL,(.ow .fz)⟩]
def yry (a0:dS):Option (ResD yn4×MutD yh9) :=
 let r1:=yA a0
 bif (!r1) then
 some ((([]:List Int),()),())
 else
 some ((([21317,a0.1,a0.2.1,a0.2.2.1,a0.2.2.2.1,a0.2.2.2.2.1,a0.2.2.2.2.2.1,(IntKind.i64.wrap (a0.2.2.2.2.2.2.1+1)),a0.2.2.2.2.2.2.2]:List Int),()),())
theorem ySj (x:InD yh9):zjx ⟨yDW,25,yLQ⟩ Tryz.f140.results.toList yDi yh9 yn4 x=yry x.1:=by kernel_rfl
theorem yNs:ConOk Tryz.prog 140 ⟨yh9,yn4,fun x=>yry x.1⟩:=zj1 (yKB) Tryz.func140 (by kernel_rfl) (by kernel_rfl) Tryz.ntmps140.symm (by decide) (fun x r h=>(ySj x).trans h)
def yl (a0:dS):(List Int) :=
 let r1:=yA a0
 bif (!r1) then
 ([]:List Int)
 else
 ([21317,a0.1,a0.2.1,a0.2.2.1,a0.2.2.2.1,a0.2.2.2.2.1,a0.2.2.2.2.2.1,(IntKind.i64.wrap (a0.2.2.2.2.2.2.1+1)),a0.2.2.2.2.2.2.2]:List Int)
def yri:Con:=⟨yh9,yn4,fun x=>(fun n=>some ((n,()),())) (yl x.1)⟩
theorem yQg (a0:dS):yry a0=(fun n=>some ((n,()),())) (yl a0):=zkp (p:=fun (n:(List Int))=>((n,()),())) (zkb (p:=fun (n:(List Int))=>((n,()),())) rfl rfl)
theorem yCy:ConOk Tryz.prog 140 yri:=(yNs).mono (fun x r _ h=>(yQg x.1).trans h)
abbrev downA (a:dA):Bool:=a.2.2.2.2.2.2.2.2.2.2.1
def y2w (a:dA) (f:Int) (d:Bool):dA:=(a.1,a.2.1,a.2.2.1,a.2.2.2.1,a.2.2.2.2.1,a.2.2.2.2.2.1,a.2.2.2.2.2.2.1,a.2.2.2.2.2.2.2.1,a.2.2.2.2.2.2.2.2.1,f,d,a.2.2.2.2.2.2.2.2.2.2.2)
def opA (a:dA):Bool×dA:=bif downA a then (false,a) else bif a.2.2.2.2.2.2.2.2.2.1==0 then (false,y2w a (-1) true) else bif ltb 0 a.2.2.2.2.2.2.2.2.2.1 then (true,y2w a (IntKind.i64.wrap (a.2.2.2.2.2.2.2.2.2.1 - 1)) (downA a)) else (true,a)
def setMem (a:dA) (m:Int) (x:dM):dA:=(a.1,a.2.1,a.2.2.1.set m.toNat x,a.2.2.2)
def ypQ (a:dA) (m n:Int) (s:List Int):dA:=bif (nth a.2.2.1 m noMem).2.2.1 then a else bif (opA a).1 then setMem (opA a).2 m (ya8 (nth a.2.2.1 m noMem) n s).1 else (opA a).2
def yee (a:dA) (i:Nat):dA:=bif (nth a.2.2.1 i noMem).2.2.1 then a else bif (opA a).1 then setMem (opA a).2 i (ybx (nth a.2.2.1 i noMem)) else (opA a).2
def ycI (a:dA):dA:=(List.range a.2.2.1.length).foldl yee a
def y24 (a:dA) (i:Int):dS:=(a.1,a.2.2.2.2.2.2.2.1,i,a.2.1.1,a.2.1.2,a.2.2.2.2.2.2.1,a.2.2.2.1,a.2.2.2.2.1)
def yqB (a:dA) (i:Nat):dA:=ypQ a i (a.2.2.2.2.2.2.2.1.tmod 2) (yl (y24 a i))
def ysI (a:dA):dA:=(a.1,a.2.1,a.2.2.1,a.2.2.2.1,a.2.2.2.2.1,a.2.2.2.2.2.1,a.2.2.2.2.2.2.1,IntKind.i64.wrap (a.2.2.2.2.2.2.2.1+1),a.2.2.2.2.2.2.2.2)
def markA (a:dA):dA:=ycI ((List.range a.2.2.1.length).foldl yqB (ysI a))
theorem ygv (a:dA):(opA a).2.2.2.1=a.2.2.1:=by
 unfold opA
 cases downA a
 ·cases (a.2.2.2.2.2.2.2.2.2.1==0)
  ·cases ltb 0 a.2.2.2.2.2.2.2.2.2.1<;>rfl
  ·rfl
 ·rfl
theorem yAQ (a:dA) (m n:Int) (s:List Int):(ypQ a m n s).2.2.1.length=a.2.2.1.length:=by
 unfold ypQ
 cases (nth a.2.2.1 m noMem).2.2.1
 ·cases (opA a).1
  ·show (opA a).2.2.2.1.length=_; rw [ygv]
  ·show ((opA a).2.2.2.1.set m.toNat _).length=_; rw [List.length_set,ygv]
 ·rfl
theorem yxA (a:dA) (i:Nat):(yee a i).2.2.1.length=a.2.2.1.length:=by
 unfold yee
 cases (nth a.2.2.1 i noMem).2.2.1
 ·cases (opA a).1
  ·show (opA a).2.2.2.1.length=_; rw [ygv]
  ·show ((opA a).2.2.2.1.set _ _).length=_; rw [List.length_set,ygv]
 ·rfl
theorem yB1 {one:dA→Nat→dA} (h: ∀ a i,(one a i).2.2.1.length=a.2.2.1.length): ∀ (l:List Nat) (a:dA),(l.foldl one a).2.2.1.length=a.2.2.1.length
 | [],_=>rfl
 | x::l,a=>by rw [List.foldl_cons,yB1 h l,h]
theorem yHm (a:dA):(ycI a).2.2.1.length=a.2.2.1.length:=yB1 yxA _ _
def yGV (a:dA) (m:Int):dA:=(a.1,a.2.1,a.2.2.1.set m.toNat (yAO (nth a.2.2.1 m noMem)),m,0,a.2.2.2.2.2)
def ySq (a:dA) (m:Int):dA:=(a.1,a.2.1,a.2.2.1.set m.toNat (yAO (nth a.2.2.1 m noMem)),a.2.2.2.1,a.2.2.2.2.1,a.2.2.2.2.2.1,a.2.2.2.2.2.2.1,a.2.2.2.2.2.2.2.1,a.2.2.2.2.2.2.2.2.1,a.2.2.2.2.2.2.2.2.2.1,a.2.2.2.2.2.2.2.2.2.2.1,true)
def failOne (a:dA) (m:Int):dA:=bif a.2.2.2.1== -1||a.2.2.2.1==m then (bif !(downA a)&&(!a.2.2.2.2.2.2.2.2.2.2.2&&ltb a.2.2.2.2.2.2.2.1 60000) then markA (yGV a m) else yGV a m) else ySq a m
theorem y2d (a:dA):(markA a).2.2.1.length=a.2.2.1.length:=(yHm _).trans (yB1 (one:=yqB) (fun _ _=>yAQ _ _ _ _) _ (ysI a))
theorem yHj (a:dA):(opA a).2.2.2.2.2.2.2.2.2.1=a.2.2.2.2.2.2.2.2.1:=by
 unfold opA
 cases downA a
 ·cases (a.2.2.2.2.2.2.2.2.2.1==0)
  ·cases ltb 0 a.2.2.2.2.2.2.2.2.2.1<;>rfl
  ·rfl
 ·rfl
theorem y1C (a:dA) (m n:Int) (s:List Int):(ypQ a m n s).2.2.2.2.2.2.2.2.1=a.2.2.2.2.2.2.2.2.1:=by
 unfold ypQ
 cases (nth a.2.2.1 m noMem).2.2.1
 ·cases (opA a).1
  ·exact yHj a
  ·exact yHj a
 ·rfl
theorem yZi (a:dA) (i:Nat):(yee a i).2.2.2.2.2.2.2.2.1=a.2.2.2.2.2.2.2.2.1:=by
 unfold yee
 cases (nth a.2.2.1 i noMem).2.2.1
 ·cases (opA a).1
  ·exact yHj a
  ·exact yHj a
 ·rfl
theorem yGW {one:dA→Nat→dA} (h: ∀ a i,(one a i).2.2.2.2.2.2.2.2.1=a.2.2.2.2.2.2.2.2.1): ∀ (l:List Nat) (a:dA),(l.foldl one a).2.2.2.2.2.2.2.2.1=a.2.2.2.2.2.2.2.2.1
 | [],_=>rfl
 | x::l,a=>by rw [List.foldl_cons,yGW h l,h]
theorem yHl (a:dA):(ycI a).2.2.2.2.2.2.2.2.1=a.2.2.2.2.2.2.2.2.1:=yGW yZi _ _
theorem y08 (a:dA):(markA a).2.2.2.2.2.2.2.2.1=a.2.2.2.2.2.2.2.2.1:=(yHl _).trans (yGW (one:=yqB) (fun _ _=>y1C _ _ _ _) _ (ysI a))
theorem y1T {a:dA} (h:yV a=true):a.2.2.1.length≤5:=by
 have h1:=yi.1 (ypu h)
 have h2:=yD2 h
 omega
def yO (n:Int):dM:=bif leb 1 n&&leb n 20 then (List.replicate n.toNat [],[],false,[]) else noMem
theorem yKN {n:Int} (h1:1≤n) (h2:n≤20):yq (yO n)=true:=by
 unfold yO
 rw [zkw h1,zkw h2]
 refine ytd ?_ rfl rfl ?_ ?_ (Nat.zero_le _)
 ·show (List.replicate n.toNat ([]:List Int)).all yS=true
  rw [List.all_eq_true]
  intro x hx
  rw [(List.mem_replicate.1 hx).2]; rfl
 ·show 1≤(List.replicate n.toNat ([]:List Int)).length; rw [List.length_replicate]; omega
 ·show (List.replicate n.toNat ([]:List Int)).length≤20; rw [List.length_replicate]; omega
def spareNew (a:dA):dA:=(a.1,a.2.1,a.2.2.1.set a.2.2.2.1.toNat (yO (6+a.2.1.2)),a.2.2.2.1,0,a.2.2.2.2.2)
def yv7 (a:dA):dA:=(a.1,a.2.1,a.2.2.1,a.2.2.2.1,a.2.2.2.2.1,a.2.2.2.2.2.1,a.2.2.2.2.2.1,a.2.2.2.2.2.2.2)
def checkA (a:dA):dA:=bif downA (ycI a) then ycI a else markA (yv7 (ycI a))
theorem y1j (a:dA):(checkA a).2.2.1.length=a.2.2.1.length:=by
 unfold checkA
 cases downA (ycI a)
 ·exact (y2d (yv7 (ycI a))).trans (yHm a)
 ·exact yHm a
theorem y0w (a:dA):(checkA a).2.2.2.2.2.2.2.2.1=a.2.2.2.2.2.2.2.2.1:=by
 unfold checkA
 cases downA (ycI a)
 ·exact (y08 (yv7 (ycI a))).trans (yHl a)
 ·exact yHl a
def ybU (id:Int) (g:dG) (i:Int):dS:=(id,0,i,g.1,g.2,0,-1,0)
def yqG (m:dM) (s:Nat):dM:=(m.1.set (s+6) [0],m.2)
def yjf (id:Int) (g:dG) (i:Int):dM:=((yO (6+g.2)).1.set 0 (yl (ybU id g i)),(yO (6+g.2)).2)
def yh (id:Int) (g:dG) (i:Int):dM:=(List.range g.2.toNat).foldl yqG (yjf id g i)
def yBg (a:dA) (m:dM):dA:=(a.1,a.2.1,a.2.2.1++ [m],a.2.2.2)
def yBi (id:Int) (g:dG):dA:=(id,g,[],-1,0,0,0,0,[],-1,false,false)
def yw (id:Int) (g:dG):dA:=bif yb g&&(leb 1 id&&leb id 60000) then (List.range g.1.toNat).foldl (fun a (i:Nat)=>yBg a (yh id g i)) (yBi id g) else yZ
theorem yNU (l:List Nat) (m:dM):(l.foldl yqG m).1.length=m.1.length:=by
 induction l generalizing m with
 | nil=>rfl
 | cons x t ih=>rw [List.foldl_cons,ih]; show (m.1.set _ _).length=_; rw [List.length_set]
def yF (a:dA):Int×(Int×Int)×Int×Int×Int×Int×Int×List dW×Bool:=(a.1,a.2.1,a.2.2.2.1,a.2.2.2.2.1,a.2.2.2.2.2.1,a.2.2.2.2.2.2.1,a.2.2.2.2.2.2.2.1,a.2.2.2.2.2.2.2.2.1,a.2.2.2.2.2.2.2.2.2.2.2)
theorem yGL (a:dA):yF (opA a).2=yF a:=by
 unfold opA
 cases downA a
 ·cases (a.2.2.2.2.2.2.2.2.2.1==0)
  ·cases ltb 0 a.2.2.2.2.2.2.2.2.2.1<;>rfl
  ·rfl
 ·rfl
theorem yCC (a:dA) (m n:Int) (s:List Int):yF (ypQ a m n s)=yF a:=by
 unfold ypQ
 cases (nth a.2.2.1 m noMem).2.2.1
 ·cases (opA a).1
  ·exact yGL a
  ·exact yGL a
 ·rfl
theorem y0o (a:dA) (i:Nat):yF (yee a i)=yF a:=by
 unfold yee
 cases (nth a.2.2.1 i noMem).2.2.1
 ·cases (opA a).1
  ·exact yGL a
  ·exact yGL a
 ·rfl
theorem yya {one:dA→Nat→dA} (h: ∀ a i,yF (one a i)=yF a): ∀ (l:List Nat) (a:dA),yF (l.foldl one a)=yF a
 | [],_=>rfl
 | x::l,a=>by rw [List.foldl_cons,yya h l,h]
theorem ytX (a:dA):yF (ycI a)=yF a:=yya y0o _ _
theorem yKM (a:dA):yF (markA a)=yF (ysI a):=(ytX _).trans (yya (one:=yqB) (fun _ _=>yCC _ _ _ _) _ _)
theorem ypz {a b:dA} (h:yF a=yF b):a.2.1=b.2.1:=congrArg (fun x=>x.2.1) h
theorem y0Y {a b:dA} (h:yF a=yF b):a.2.2.2.2.1=b.2.2.2.2.1:=congrArg (fun x=>x.2.2.2.1) h
theorem yR1 {a b:dA} (h:yF a=yF b):a.2.2.2.2.2.2.2.2.1=b.2.2.2.2.2.2.2.2.1:=congrArg (fun x=>x.2.2.2.2.2.2.2.1) h
def y2Q (d:List dW) (x:dA):Prop:=x.2.2.1.length≤5∧y1A x.2.2.1∧x.2.2.2.2.2.2.2.2.1=d
theorem yZ7 {a:dA} (h:yV a=true):y2Q a.2.2.2.2.2.2.2.2.1 a:=⟨y1T h,y0X h,rfl⟩
def y1G (b:dA):dA:=(b.1,b.2.1,b.2.2.1,b.2.2.2.1,IntKind.i64.wrap (b.2.2.2.2.1+1),b.2.2.2.2.2)
def yhW (a:dA):dA:=ypQ a a.2.2.2.1 (dataAt a.2.2.2.2.1) [nth (yN a a.2.2.2.2.1).1 a.2.2.2.1 0]
def stepOne (a:dA):Int×dA:=bif (yN a a.2.2.2.2.1).2 then (bif downA (yhW a) then (6,yhW a) else (0,y1G (yhW a))) else (5,a)
def yyP (lost:Int) (br:Bool) (S:Int) (i:Nat) (m:dM):Prop:=yq m=true∧(m.1.length:Int)=6+S∧(m.2.2.1=true→(i:Int)=lost∨br=true)
def yLF (lost:Int) (br:Bool) (S:Int) (l:List dM):Prop:= ∀ i,i < l.length→yyP lost br S i (nth l i noMem)
theorem yKO {lost S:Int} {br:Bool} {l:List dM} {i:Nat} {x:dM} (h:yLF lost br S l) (hx:i < l.length→yyP lost br S i x):yLF lost br S (l.set i x):=fun j hj=>by
 rw [List.length_set]at hj
 by_cases e:j=i
 ·subst e
  rw [zkm,zkd (by rw [List.length_set]; exact hj),List.getElem_set_self]; exact hx hj
 ·have:=h j hj
  rw [zkm,zkd hj]at this
  rw [zkm,zkd (by rw [List.length_set]; exact hj),List.getElem_set_ne (fun e'=>e e'.symm)]; exact this
theorem y1b {a:dA}:ymM a=true↔yLF a.2.2.2.1 a.2.2.2.2.2.2.2.2.2.2.2 a.2.1.2 a.2.2.1∧(a.2.2.1.length:Int)=a.2.1.1:=by
 constructor
 ·intro h
  refine ⟨fun i hi=>yXI h hi,?_⟩
  simp only [ymM,Bool.and_eq_true,beq_iff_eq]at h; exact h.2
 ·rintro ⟨h1,h2⟩
  simp only [ymM,Bool.and_eq_true,beq_iff_eq,Bool.not_eq_true',List.any_eq_false,List.mem_range]
  refine ⟨fun i hi=> ?_,h2⟩
  obtain ⟨g1,g2,g3⟩:=h1 i hi
  unfold yhe
  rw [g1,show (((nth a.2.2.1 i noMem).1.length:Int) !=6+a.2.1.2)=false from bne_eq_false_iff_eq.2 g2]
  cases hf:(nth a.2.2.1 i noMem).2.2.1
  ·simp
  ·rcases g3 hf with e | e
   ·rw [show ((i:Int) !=a.2.2.2.1)=false from bne_eq_false_iff_eq.2 e]; simp
   ·rw [e]; simp
def fuz (a:dA):Int:=a.2.2.2.2.2.2.2.2.2.1
def Keep (a:dA):Prop:=(yLF a.2.2.2.1 a.2.2.2.2.2.2.2.2.2.2.2 a.2.1.2 a.2.2.1∧(a.2.2.1.length:Int)=a.2.1.1)∧ -1≤fuz a∧fuz a≤1000
def coreOk (a:dA):Prop:=yb a.2.1=true∧(1≤a.1∧a.1≤60000)∧yaO a.2.1 a.2.2.2.2.2.2.2.2.1=true∧(-1≤a.2.2.2.1∧a.2.2.2.1≤a.2.1.1 - 1)∧(0≤a.2.2.2.2.1∧a.2.2.2.2.1≤a.2.1.2)∧(a.2.2.2.1= -1→a.2.2.2.2.1=0) ∧
 (0≤a.2.2.2.2.2.2.1∧a.2.2.2.2.2.2.1≤60000)∧(a.2.2.2.2.2.2.1≤a.2.2.2.2.2.1∧a.2.2.2.2.2.1≤60000)∧a.2.2.2.2.2.1≤a.2.2.2.2.2.2.1+4∧0≤a.2.2.2.2.2.2.2.1∧a.2.2.2.2.2.2.2.1≤60000
theorem yVp {a:dA}:yV a=true↔coreOk a∧Keep a:=by
 unfold yV coreOk Keep fuz
 simp only [Bool.and_eq_true,zjE,y1b,Bool.not_eq_true',Bool.and_eq_false_iff,beq_eq_false_iff_ne,bne_eq_false_iff_eq]
 constructor
 ·rintro ⟨h1,h2,h3,h4,h5,h6,h7,h8,h9,h10,h11,h12⟩
  exact ⟨⟨h1,h2,h4,h5,h6,fun e=>h7.resolve_left (fun g=>g e),h8,h9,h10,h11.1,h11.2⟩,h3,h12⟩
 ·rintro ⟨⟨h1,h2,h4,h5,h6,h7,h8,h9,h10,h11,h11'⟩,h3,h12⟩
  exact ⟨h1,h2,h3,h4,h5,h6,(Decidable.em (a.2.2.2.1= -1)).elim (fun e=> .inr (h7 e)) (fun e=> .inl e),h8,h9,h10,⟨h11,h11'⟩,h12⟩
theorem y2y {a b:dA} (h:yF b=yF a) (ha:coreOk a):coreOk b:=by
 unfold yF at h
 simp only [Prod.mk.injEq]at h
 obtain ⟨h1,h2,h3,h4,h5,h6,h7,h8,h9⟩:=h
 unfold coreOk at *
 rw [h1,h2,h3,h4,h5,h6,h7,h8]; exact ha
theorem y2E {a b:dA} (h:yF b=yF a) (hl:b.2.2.1.length=a.2.2.1.length) (hm:yLF a.2.2.2.1 a.2.2.2.2.2.2.2.2.2.2.2 a.2.1.2 b.2.2.1) (hn:(a.2.2.1.length:Int)=a.2.1.1) (hf: -1≤fuz b∧fuz b≤1000):Keep b:=by
 unfold yF at h
 simp only [Prod.mk.injEq]at h
 obtain ⟨h1,h2,h3,h4,h5,h6,h7,h8,h9⟩:=h
 unfold Keep
 rw [h2,h3,h9,hl]; exact ⟨⟨hm,hn⟩,hf⟩
theorem y2U {a:dA} (h: -1≤fuz a∧fuz a≤1000): -1≤fuz (opA a).2∧fuz (opA a).2≤1000:=by
 unfold opA
 cases downA a
 ·cases h0:(a.2.2.2.2.2.2.2.2.2.1==0)
  ·cases h1:ltb 0 a.2.2.2.2.2.2.2.2.2.1
   ·exact h
   ·have:=zjH.1 h1
    unfold fuz at h
    show -1≤IntKind.i64.wrap (a.2.2.2.2.2.2.2.2.2.1 - 1)∧IntKind.i64.wrap (a.2.2.2.2.2.2.2.2.2.1 - 1)≤1000
    rw [wr (by omega) (by omega)]; omega
  ·show -1≤(-1:Int)∧(-1:Int)≤1000; omega
 ·exact h
theorem yLE {a:dA} (h:Keep a):Keep (opA a).2:=y2E (yGL a) (by rw [ygv]) (by rw [ygv]; exact h.1.1) h.1.2 (y2U h.2)
theorem yE8 {a:dA} {m:Int} {x:dM} (h:Keep a) (hm:inb m a.2.2.1.length=true) (hx:yyP a.2.2.2.1 a.2.2.2.2.2.2.2.2.2.2.2 a.2.1.2 m.toNat (nth a.2.2.1 m noMem)→yyP a.2.2.2.1 a.2.2.2.2.2.2.2.2.2.2.2 a.2.1.2 m.toNat x):Keep (setMem a m x):=by
 have hm:=zjD.1 hm
 refine ⟨⟨yKO h.1.1 (fun hi=>hx ?_),by show ((a.2.2.1.set m.toNat x).length:Int)=_; rw [List.length_set]; exact h.1.2⟩,h.2⟩
 have:=h.1.1 m.toNat hi
 rwa [Int.toNat_of_nonneg hm.1]at this
theorem y1a {lost S:Int} {br:Bool} {i:Nat} {m:dM} (n:Int) (s:List Int) (h:yyP lost br S i m):yyP lost br S i (ya8 m n s).1 :=
 ⟨y0v n s h.1,by rw [(yXR m n s).1]; exact h.2.1,by rw [(yXR m n s).2]; exact h.2.2⟩
theorem y09 {lost S:Int} {br:Bool} {i:Nat} {m:dM} (h:yyP lost br S i m):yyP lost br S i (ybx m) :=
 ⟨yZY h.1,by rw [(yXF m).1]; exact h.2.1,by rw [(yXF m).2]; exact h.2.2⟩
theorem yG3 {a:dA} {m n:Int} {s:List Int} (h:Keep a) (hm:inb m a.2.2.1.length=true):Keep (ypQ a m n s):=by
 unfold ypQ
 cases (nth a.2.2.1 m noMem).2.2.1
 ·cases (opA a).1
  ·exact yLE h
  ·exact yE8 (yLE h) (by rw [ygv]; exact hm) (fun g=>by rw [ygv]at g; exact y1a _ _ g)
 ·exact h
theorem yZ3 {a:dA} {i:Nat} (h:Keep a) (hi:i < a.2.2.1.length):Keep (yee a i):=by
 unfold yee
 cases (nth a.2.2.1 i noMem).2.2.1
 ·cases (opA a).1
  ·exact yLE h
  ·exact yE8 (yLE h) (by rw [ygv]; exact zkl hi) (fun g=>by rw [ygv]at g; exact y09 g)
 ·exact h
theorem ylF {P:dA→Prop} {one:dA→Nat→dA} (hl: ∀ a i,(one a i).2.2.1.length=a.2.2.1.length) (ho: ∀ a i,P a→i < a.2.2.1.length→P (one a i)): ∀ (n:Nat) (a:dA),n≤a.2.2.1.length→P a→P ((List.range n).foldl one a)
 | 0,_,_,h=>h
 | n+1,a,hn,h=>by
  rw [List.range_succ,List.foldl_append]
  exact ho _ _ (ylF hl ho n a (by omega) h) (by rw [yB1 hl]; exact hn)
theorem yKK {a:dA} (h:Keep a):Keep (ycI a):=ylF (P:=Keep) (one:=yee) yxA (fun _ _=>yZ3) _ a (Nat.le_refl _) h
theorem y1v {a:dA} (h:Keep a):Keep (markA a) :=
 yKK (ylF (P:=Keep) (one:=yqB) (fun _ _=>yAQ _ _ _ _) (fun _ _ h hi=>yG3 h (zkl hi)) _ (ysI a) (Nat.le_refl _) h)
def yjk (a:dA):Prop:=downA a=false∧fuz a= -1
theorem y0T {a:dA} (h:yjk a):opA a=(true,a):=by
 unfold opA
 rw [h.1,show a.2.2.2.2.2.2.2.2.2.1= -1 from h.2]; rfl
theorem yG2 {a:dA} (h:yjk a) (m n:Int) (s:List Int):yjk (ypQ a m n s):=by
 unfold ypQ
 rw [y0T h]
 cases (nth a.2.2.1 m noMem).2.2.1<;>exact h
theorem yZZ {a:dA} (h:yjk a) (i:Nat):yjk (yee a i):=by
 unfold yee
 rw [y0T h]
 cases (nth a.2.2.1 i noMem).2.2.1<;>exact h
theorem yEJ {a:dA} (h:yjk a):yjk (ycI a):=ylF (P:=yjk) (one:=yee) yxA (fun _ i h _=>yZZ h i) _ a (Nat.le_refl _) h
theorem y1t {a:dA} (h:yjk a):yjk (markA a) :=
 yEJ (ylF (P:=yjk) (one:=yqB) (fun _ _=>yAQ _ _ _ _) (fun _ _ h _=>yG2 h _ _ _) _ (ysI a) (Nat.le_refl _) h)
theorem yRZ {a:dA} (h:yjk a):checkA a=markA (yv7 (ycI a)):=by
 unfold checkA
 rw [(yEJ h).1]; rfl
def Wk (k:Int) (a:dA):Prop:=coreOk a∧Keep a∧yjk a∧a.2.2.2.2.2.2.2.2.2.2.2=false∧a.2.2.2.2.2.2.2.1≤k
theorem yU3 {k:Int} {a:dA} (h:Wk k a):yV a=true:=yVp.2 ⟨h.1,h.2.1⟩
theorem ydw {k j:Int} {a:dA} (h:Wk k a) (hj:k≤j):Wk j a:=⟨h.1,h.2.1,h.2.2.1,h.2.2.2.1,Int.le_trans h.2.2.2.2 hj⟩
theorem yAR {k:Int} {a b:dA} (hc:yF b=yF a) (hk:Keep b) (hf:yjk b) (h:Wk k a):Wk k b:=by
 refine ⟨y2y hc h.1,hk,hf,?_⟩
 unfold yF at hc
 simp only [Prod.mk.injEq]at hc
 obtain ⟨_,_,_,_,_,_,h7,_,h9⟩:=hc
 rw [h7,h9]; exact h.2.2.2
theorem y21 {k:Int} {a:dA} {m n:Int} {s:List Int} (h:Wk k a) (hm:inb m a.2.2.1.length=true):Wk k (ypQ a m n s):=yAR (yCC _ _ _ _) (yG3 h.2.1 hm) (yG2 h.2.2.1 _ _ _) h
theorem y2O {k:Int} {a:dA} (h:Wk k a):Wk k (ycI a):=yAR (ytX _) (yKK h.2.1) (yEJ h.2.2.1) h
theorem y2m {k:Int} {a:dA} (h:Wk k a) (hk:k+1≤60000):Wk (k+1) (ysI a):=by
 obtain ⟨⟨c1,c2,c3,c4,c5,c6,c7,c8,c9,c10,c11⟩,h2,h3,h4,h5⟩:=h
 have e:IntKind.i64.wrap (a.2.2.2.2.2.2.2.1+1)=a.2.2.2.2.2.2.2.1+1:=wr (by omega) (by omega)
 refine ⟨⟨c1,c2,c3,c4,c5,c6,c7,c8,c9,?_,?_⟩,h2,h3,h4,?_⟩
 ·show 0≤IntKind.i64.wrap (a.2.2.2.2.2.2.2.1+1); omega
 ·show IntKind.i64.wrap (a.2.2.2.2.2.2.2.1+1)≤_; omega
 ·show IntKind.i64.wrap (a.2.2.2.2.2.2.2.1+1)≤_; omega
theorem yXu {k:Int} {a:dA} (h:Wk k a) (hk:k+1≤60000):Wk (k+1) (markA a):=yAR (yKM _) (y1v h.2.1) (y1t h.2.2.1) (y2m h hk)
theorem y1M {k:Int} {a:dA} (h:Wk k a):Wk k (yv7 a):=by
 obtain ⟨⟨c1,c2,c3,c4,c5,c6,c7,c8,c9,c10,c11⟩,h2,h3,h4,h5⟩:=h
 refine ⟨⟨c1,c2,c3,c4,c5,c6,⟨?_,?_⟩,⟨Int.le_refl _,c8.2⟩,?_,c10,c11⟩,h2,h3,h4,h5⟩
 ·show 0≤a.2.2.2.2.2.1; omega
 ·show a.2.2.2.2.2.1≤60000; omega
 ·show a.2.2.2.2.2.1≤a.2.2.2.2.2.1+4; omega
theorem y0s {k:Int} {a:dA} (h:Wk k a) (hk:k+1≤60000):Wk (k+1) (checkA a):=by
 rw [yRZ h.2.2.1]; exact yXu (y1M (y2O h)) hk
theorem y1L {k:Int} {a:dA} {m:Int} {x:dM} (h:Wk k a) (hm:inb m a.2.2.1.length=true) (hx:yyP a.2.2.2.1 a.2.2.2.2.2.2.2.2.2.2.2 a.2.1.2 m.toNat (nth a.2.2.1 m noMem)→yyP a.2.2.2.1 a.2.2.2.2.2.2.2.2.2.2.2 a.2.1.2 m.toNat x):Wk k (setMem a m x) :=
 yAR (a:=a) (b:=setMem a m x) rfl (yE8 h.2.1 hm hx) h.2.2.1 h
theorem y2M {k m:Int} {a:dA} (h:Wk k a) (hl:a.2.2.2.1= -1) (hm:inb m a.2.2.1.length=true) (hk:k+1≤60000):Wk (k+1) (failOne a m):=by
 have hmi:=zjD.1 hm
 have hw:Wk k (yGV a m):=by
  obtain ⟨⟨c1,c2,c3,c4,c5,c6,c7,c8,c9,c10,c11⟩,⟨⟨g1,g2⟩,g3⟩,f,b,t⟩:=h
  refine ⟨⟨c1,c2,c3,⟨?_,?_⟩,⟨Int.le_refl _,by show (0:Int)≤a.2.1.2; omega⟩,fun e=>rfl,c7,c8,c9,c10,c11⟩,⟨⟨?_,?_⟩,g3⟩,f,b,t⟩
  ·show -1≤m; omega
  ·show m≤a.2.1.1 - 1; omega
  ·show yLF m a.2.2.2.2.2.2.2.2.2.2.2 a.2.1.2 (a.2.2.1.set m.toNat (yAO (nth a.2.2.1 m noMem)))
   refine yKO (fun i hi=> ?_) (fun hi=> ?_)
   ·obtain ⟨e1,e2,e3⟩:=g1 i hi
    refine ⟨e1,e2,fun e=> ?_⟩
    rcases e3 e with e | e
    ·omega
    ·exact .inr e
   ·have:=g1 m.toNat hi
    rw [Int.toNat_of_nonneg hmi.1]at this
    exact ⟨y2B this.1,this.2.1,fun _=> .inl (Int.toNat_of_nonneg hmi.1)⟩
  ·show ((a.2.2.1.set m.toNat (yAO (nth a.2.2.1 m noMem))).length:Int)=a.2.1.1
   rw [List.length_set]; exact g2
 unfold failOne
 rw [show (a.2.2.2.1== -1)=true from beq_iff_eq.2 hl,h.2.2.1.1,h.2.2.2.1]
 cases ltb a.2.2.2.2.2.2.2.1 60000
 ·exact ydw hw (by omega)
 ·exact yXu hw hk
theorem y2o {k:Int} {a:dA} (h:Wk k a) (hl:inb a.2.2.2.1 a.2.2.1.length=true) (hk:k+1≤60000):Wk (k+1) (markA (spareNew a)):=by
 have hmi:=zjD.1 hl
 refine yXu ?_ hk
 obtain ⟨⟨c1,c2,c3,c4,c5,c6,c7,c8,c9,c10,c11⟩,⟨⟨g1,g2⟩,g3⟩,f,b,t⟩:=h
 have hg:=yi.1 c1
 refine ⟨⟨c1,c2,c3,c4,⟨Int.le_refl _,by show (0:Int)≤a.2.1.2; omega⟩,fun e=>rfl,c7,c8,c9,c10,c11⟩,⟨⟨yKO g1 (fun hi=>⟨yKN (by omega) (by omega),?_,fun e=> ?_⟩),?_⟩,g3⟩,f,b,t⟩
 ·unfold yO
  rw [zkw (show 1≤6+a.2.1.2 by omega),zkw (show 6+a.2.1.2≤20 by omega)]
  show ((List.replicate (6+a.2.1.2).toNat ([]:List Int)).length:Int)=6+a.2.1.2
  rw [List.length_replicate]; omega
 ·unfold yO at e
  rw [zkw (show 1≤6+a.2.1.2 by omega),zkw (show 6+a.2.1.2≤20 by omega)] at e
  cases e
 ·show ((a.2.2.1.set a.2.2.2.1.toNat (yO (6+a.2.1.2))).length:Int)=a.2.1.1
  rw [List.length_set]; exact g2
theorem y2N {k:Int} {a:dA} (h:Wk k a) (hl:inb a.2.2.2.1 a.2.2.1.length=true) (hb:a.2.2.2.2.1 < a.2.1.2):Wk k (stepOne a).2:=by
 have hp:Wk k (yhW a):=y21 h hl
 have e:=yCC a a.2.2.2.1 (dataAt a.2.2.2.2.1) [nth (yN a a.2.2.2.2.1).1 a.2.2.2.1 0]
 have e1:(yhW a).2.2.2.2.1=a.2.2.2.2.1:=y0Y e
 have e2:(yhW a).2.1=a.2.1:=ypz e
 have e3:(yhW a).2.2.2.1=a.2.2.2.1:=congrArg (fun x=>x.2.2.1) e
 unfold stepOne
 cases (yN a a.2.2.2.2.1).2
 ·exact h
 ·generalize yhW a=R at hp e1 e2 e3 ⊢
  rw [hp.2.2.1.1]
  have hmi:=zjD.1 hl
  obtain ⟨⟨c1,c2,c3,c4,c5,c6,c7,c8,c9,c10,c11⟩,g2,g3,g4,g5⟩:=hp
  have hg:=yi.1 c1
  have e4:IntKind.i64.wrap (R.2.2.2.2.1+1)=R.2.2.2.2.1+1:=wr (by omega) (by omega)
  refine ⟨⟨c1,c2,c3,c4,⟨?_,?_⟩,fun e=> ?_,c7,c8,c9,c10,c11⟩,g2,g3,g4,g5⟩
  ·show 0≤IntKind.i64.wrap (R.2.2.2.2.1+1); omega
  ·show IntKind.i64.wrap (R.2.2.2.2.1+1)≤R.2.1.2; rw [e4,e1,e2]; omega
  ·have:R.2.2.2.1= -1:=e
   omega
def yxs (a:dA):Prop:=a.2.2.1.length≤1000000000∧(∀ m∈a.2.2.1,m.1.length≤1000000000∧m.2.1.length≤1000000000)∧a.2.2.2.2.2.2.2.2.1.length≤1000000000
theorem yZ5 {d:List dW} {a:dA} (h:y2Q d a) (hd:d.length≤1000000000):yxs a:=by
 refine ⟨by have:=h.1; omega,fun m hm=> ?_,by rw [h.2.2]; exact hd⟩
 obtain ⟨_,_,_,_,h5,h6⟩:=ya9 (h.2.1 m hm)
 omega
theorem yCD (s:dS):yS (yl s)=true:=by
 unfold yl
 cases h:yA s
 ·rfl
 ·unfold yA at h
  simp only [ybX]at h
  cases hg:yb (s.2.2.2.1,s.2.2.2.2.1)
  ·rw [hg]at h; cases h
  have hge:=yi.1 hg
  simp only at hge
  rw [hg,wr (show -9223372036854775808≤s.2.2.2.1 - 1 by omega) (by omega)] at h
  cases h2:(leb 1 s.1&&leb s.1 60000)
  ·rw [h2]at h; cases h
  cases h3:(leb 0 s.2.1&&leb s.2.1 60000)
  ·rw [h2,h3]at h; cases h
  cases h4:(leb 0 s.2.2.1&&leb s.2.2.1 (s.2.2.2.1 - 1))
  ·rw [h2,h3,h4]at h; cases h
  cases h5:(leb 0 s.2.2.2.2.2.1&&leb s.2.2.2.2.2.1 60000)
  ·rw [h2,h3,h4,h5]at h; cases h
  cases h6:(leb (-1) s.2.2.2.2.2.2.1&&leb s.2.2.2.2.2.2.1 (s.2.2.2.1 - 1))
  ·rw [h2,h3,h4,h5,h6]at h; cases h
  cases h7:(leb 0 s.2.2.2.2.2.2.2&&leb s.2.2.2.2.2.2.2 s.2.2.2.2.1)
  ·rw [h2,h3,h4,h5,h6,h7]at h; cases h
  simp only [Bool.and_eq_true,zjE]at h2 h3 h4 h5 h6 h7
  rw [y1F]
  refine ⟨by show (9:Nat)≤12; omega,?_⟩
  have hw:IntKind.i64.wrap (s.2.2.2.2.2.2.1+1)=s.2.2.2.2.2.2.1+1:=wr (by omega) (by omega)
  simp only [Bool.not_true,cond_false,hw,List.mem_cons,List.not_mem_nil,or_false]
  rintro x (rfl | rfl | rfl | rfl | rfl | rfl | rfl | rfl | rfl)<;>omega
theorem ylN {g:dG} (id i:Int) (hg:yb g=true):yq (yh id g i)=true∧((yh id g i).1.length:Int)=6+g.2∧(yh id g i).2=([],false,[]):=by
 have hge:=yi.1 hg
 have hm:yO (6+g.2)=(List.replicate (6+g.2).toNat [],[],false,[]):=by
  unfold yO
  rw [zkw (show 1≤6+g.2 by omega),zkw (show 6+g.2≤20 by omega)]; rfl
 have key: ∀ (l:List Nat) (m:dM),m.1.all yS=true∧m.2=([],false,[])→(l.foldl yqG m).1.all yS=true∧(l.foldl yqG m).2=([],false,[]):=by
  intro l
  induction l with
  | nil=>intro m h; exact h
  | cons x t ih =>
   intro m h
   refine ih _ ⟨?_,h.2⟩
   rw [List.all_eq_true]
   intro y hy
   rcases List.mem_or_eq_of_mem_set hy with h1 | rfl
   ·exact List.all_eq_true.1 h.1 y h1
   ·rfl
 have ht:(yjf id g i).1.all yS=true∧(yjf id g i).2=([],false,[]):=by
  unfold yjf
  rw [hm]
  refine ⟨?_,rfl⟩
  rw [List.all_eq_true]
  intro y hy
  rcases List.mem_or_eq_of_mem_set hy with h1 | rfl
  ·rw [List.eq_of_mem_replicate h1]; rfl
  ·exact yCD _
 have hl:((yh id g i).1.length:Int)=6+g.2:=by
  unfold yh
  rw [yNU]
  unfold yjf
  rw [hm]
  show (((List.replicate (6+g.2).toNat ([]:List Int)).set 0 _).length:Int)=_
  rw [List.length_set,List.length_replicate]; omega
 obtain ⟨h1,h2⟩:=key (List.range g.2.toNat) _ ht
 refine ⟨ytd h1 ?_ ?_ ?_ ?_ ?_,hl,h2⟩
 ·show List.all ((yh id g i).2).1 _=true
  rw [show (yh id g i).2=([],false,[]) from h2]; rfl
 ·show yqw _ ((yh id g i).2).2.2=true
  rw [show (yh id g i).2=([],false,[]) from h2,ylh]
  exact ⟨fun x hx=>absurd hx List.not_mem_nil,List.Pairwise.nil⟩
 ·show 1≤(yh id g i).1.length; omega
 ·show (yh id g i).1.length≤20; omega
 ·show ((yh id g i).2).1.length≤60
  rw [show (yh id g i).2=([],false,[]) from h2]; exact Nat.zero_le _
theorem ygb {id:Int} {g:dG} (hg:yb g=true) (h1:1≤id) (h2:id≤60000):yw id g=(id,g,(List.range g.1.toNat).map (fun (i:Nat)=>yh id g i),-1,0,0,0,0,[],-1,false,false):=by
 unfold yw
 rw [hg,zkw h1,zkw h2]
 have: ∀ (n:Nat),(List.range n).foldl (fun a (i:Nat)=>yBg a (yh id g i)) (yBi id g)=(id,g,(List.range n).map (fun (i:Nat)=>yh id g i),-1,0,0,0,0,[],-1,false,false):=by
  intro n
  induction n with
  | zero=>rfl
  | succ n ih=>rw [List.range_succ,List.foldl_append,ih,List.map_append]; rfl
 exact this _
theorem yU4 {id:Int} {g:dG} (hg:yb g=true) (h1:1≤id) (h2:id≤60000):Wk 0 (yw id g):=by
 have hge:=yi.1 hg
 rw [ygb hg h1 h2]
 have hl:((List.range g.1.toNat).map (fun (i:Nat)=>yh id g i)).length=g.1.toNat:=by rw [List.length_map,List.length_range]
 refine ⟨⟨hg,⟨h1,h2⟩,?_,⟨Int.le_refl _,?_⟩,⟨Int.le_refl _,?_⟩,fun _=>rfl,?_,?_,?_,?_,?_⟩,⟨⟨fun i hi=> ?_,?_⟩,?_,?_⟩,⟨rfl,rfl⟩,rfl,Int.le_refl _⟩
 ·rfl
 ·show (-1:Int)≤g.1 - 1; omega
 ·show (0:Int)≤g.2; omega
 ·show (0:Int)≤0∧(0:Int)≤60000; omega
 ·show (0:Int)≤0∧(0:Int)≤60000; omega
 ·show (0:Int)≤0+4; omega
 ·show (0:Int)≤0; omega
 ·show (0:Int)≤60000; omega
 ·have hi':i < ((List.range g.1.toNat).map (fun (i:Nat)=>yh id g i)).length:=hi
  show yyP (-1) false g.2 i (nth ((List.range g.1.toNat).map (fun (i:Nat)=>yh id g i)) i noMem)
  rw [zkm,zkd hi',List.getElem_map,List.getElem_range]
  obtain ⟨k1,k2,k3⟩:=ylN id i hg
  refine ⟨k1,k2,fun e=> ?_⟩
  rw [show (yh id g i).2=([],false,[]) from k3]at e
  cases e
 ·show (((List.range g.1.toNat).map (fun (i:Nat)=>yh id g i)).length:Int)=g.1
  rw [hl]; omega
 ·show (-1:Int)≤ -1; omega
 ·show (-1:Int)≤1000; omega
theorem y2p {k m n:Int} {a:dA} (h:Wk k a) (hm:inb m a.2.2.1.length=true):Wk k (setMem a m (spoil (nth a.2.2.1 m noMem) n)) :=
 y1L h hm (fun g=>⟨y0n n g.1,by rw [(yXN _ _).1]; exact g.2.1,by rw [(yXN _ _).2]; exact g.2.2⟩)
end
section
def yFn:Code:=(Tryz.f25.body).getD .skip
def yF5:Env:=zj2 TT [(56,yxU),(71,yzR)] []
theorem yMs:FrOk Tryz.prog ⟨yF5,87,fun _=>none⟩ yFn:=zj6 yc yd ⟨yNB,yQW,trivial⟩
def yN4:Nat→Option Seg:=fun _=>none
abbrev yku:List Par:= [.rd tA,.rd tA]
abbrev yqm:List OT:= [⟨false,tB,.fz⟩]
def ycb (a0 a1:dA):Option (ResD yqm×MutD yku) :=
 bif (a0.1==a1.1) then
 bif ((a0.2.1.1==a1.2.1.1)&&((a0.2.1.2==a1.2.1.2)&&true)) then
 bnd (ydg a0.2.2.1 a1.2.2.1) fun r1 =>
 bif r1.1.1 then
 bif (a0.2.2.2.1==a1.2.2.2.1) then
 bif (a0.2.2.2.2.1==a1.2.2.2.2.1) then
 bif (a0.2.2.2.2.2.1==a1.2.2.2.2.2.1) then
 bif (a0.2.2.2.2.2.2.1==a1.2.2.2.2.2.2.1) then
 bif (a0.2.2.2.2.2.2.2.1==a1.2.2.2.2.2.2.2.1) then
 bnd (ycq a0.2.2.2.2.2.2.2.2.1 a1.2.2.2.2.2.2.2.2.1) fun r2 =>
 bif r2.1.1 then
 bif (a0.2.2.2.2.2.2.2.2.2.1==a1.2.2.2.2.2.2.2.2.2.1) then
 bif (a0.2.2.2.2.2.2.2.2.2.2.1==a1.2.2.2.2.2.2.2.2.2.2.1) then
 some (((a0.2.2.2.2.2.2.2.2.2.2.2==a1.2.2.2.2.2.2.2.2.2.2.2),()),())
 else
 some ((false,()),())
 else
 some ((false,()),())
 else
 some ((false,()),())
 else
 some ((false,()),())
 else
 some ((false,()),())
 else
 some ((false,()),())
 else
 some ((false,()),())
 else
 some ((false,()),())
 else
 some ((false,()),())
 else
 some ((false,()),())
 else
 some ((false,()),())
theorem yVA (x:InD yku):zjx ⟨yF5,87,yN4⟩ Tryz.f25.results.toList yFn yku yqm x=ycb x.1 x.2.1:=by kernel_rfl
theorem yQx:ConOk Tryz.prog 25 ⟨yku,yqm,fun x=>ycb x.1 x.2.1⟩:=zj1 (yMs) Tryz.func25 (by kernel_rfl) (by kernel_rfl) Tryz.ntmps25.symm (by decide) (fun x r h=>(yVA x).trans h)
def yBB:Con:=⟨yku,yqm,fun x=>ycb x.1 x.2.1⟩
theorem yUw:ConOk Tryz.prog 25 yBB:=yQx
theorem y0l (a:dA) (h:yxs a):ycb a a=some ((true,()),()):=by
 unfold ycb
 rw [y1E _ h.1 h.2.1,y1d _ h.2.2]
 simp only [beq_self_eq_true,Bool.and_self,zkc,cond_true]
end
section
def yHy:Code:=(Tryz.f126.body).getD .skip
def yH5:Env:=zj2 TT [] []
theorem yOO:FrOk Tryz.prog ⟨yH5,15,fun _=>none⟩ yHy:=zj6 yc yd trivial
def yRo:Nat→Option Seg:=fun _=>none
abbrev ymp:List Par:= [.rd tI,.rd tI,.rd tI]
abbrev ysl:List OT:= [⟨false,tB,.fz⟩]
def yvO (a0 a1 a2:Int):Option (ResD ysl×MutD ymp) :=
 bif (leb a1 a0) then
 some (((leb a0 a2),()),())
 else
 some ((false,()),())
theorem yX8 (x:InD ymp):zjx ⟨yH5,15,yRo⟩ Tryz.f126.results.toList yHy ymp ysl x=yvO x.1 x.2.1 x.2.2.1:=by kernel_rfl
theorem yTZ:ConOk Tryz.prog 126 ⟨ymp,ysl,fun x=>yvO x.1 x.2.1 x.2.2.1⟩:=zj1 (yOO) Tryz.func126 (by kernel_rfl) (by kernel_rfl) Tryz.ntmps126.symm (by decide) (fun x r h=>(yX8 x).trans h)
def yf (a0 a1 a2:Int):Bool :=
 bif (leb a1 a0) then
 (leb a0 a2)
 else
 false
def yv:Con:=⟨ymp,ysl,fun x=>(fun n=>some ((n,()),())) (yf x.1 x.2.1 x.2.2.1)⟩
theorem yWb (a0 a1 a2:Int):yvO a0 a1 a2=(fun n=>some ((n,()),())) (yf a0 a1 a2):=zkp (p:=fun (n:Bool)=>((n,()),())) (zkb (p:=fun (n:Bool)=>((n,()),())) rfl rfl)
theorem yB:ConOk Tryz.prog 126 yv:=(yTZ).mono (fun x r _ h=>(yWb x.1 x.2.1 x.2.2.1).trans h)
theorem yP (a b c:Int):yf a b c=ya a b c:=by kernel_rfl
end
section
def yHs:Code:=(Tryz.f47.body).getD .skip
def yHZ:Env:=zj2 TT [(126,yv)] []
theorem yOI:FrOk Tryz.prog ⟨yHZ,34,fun _=>none⟩ yHs:=zj6 yc yd ⟨yB,trivial⟩
def yRi:Nat→Option Seg:=fun _=>none
abbrev yhH:List Par:= [.rd tA,.rd tI,.rd tI]
abbrev ysf:List OT:= [⟨false,tB,.fz⟩]
def yoz (a0:dA) (a1 a2:Int):Option (ResD ysf×MutD yhH) :=
 let r1:=yf a1 0 (IntKind.i64.wrap ((a0.2.2.1.length:Int) - 1))
 bif r1 then
 bif (inb a1 a0.2.2.1.length) then
 bif (!((((nth a0.2.2.1 a1 ([],[],false,[])).2).2).1)) then
 bif (!(a0.2.2.2.1 !=a1)) then
 some (((ltb a2 a0.2.2.2.2.1),()),())
 else
 some ((true,()),())
 else
 some ((false,()),())
 else none
 else
 some ((false,()),())
theorem yX2 (x:InD yhH):zjx ⟨yHZ,34,yRi⟩ Tryz.f47.results.toList yHs yhH ysf x=yoz x.1 x.2.1 x.2.2.1:=by kernel_rfl
theorem yTT:ConOk Tryz.prog 47 ⟨yhH,ysf,fun x=>yoz x.1 x.2.1 x.2.2.1⟩:=zj1 (yOI) Tryz.func47 (by kernel_rfl) (by kernel_rfl) Tryz.ntmps47.symm (by decide) (fun x r h=>(yX2 x).trans h)
def yfq (a0:dA) (a1 a2:Int):Bool:=yc3 a0 a1 a2
theorem yV5 (a0:dA) (a1 a2:Int) (hk:zi2 yhH (a0,a1,a2,())):yoz a0 a1 a2=(fun n=>some ((n,()),())) (yfq a0 a1 a2):=by
 have hb:a0.2.2.1.length * 80≤2 ^ 47:=hk.1.2.2.1.1
 unfold yoz yfq yc3 noMem
 rw [yP,ypA (show a0.2.2.1.length≤1152921504606846976 by omega),bne_comm]
 cases inb a1 a0.2.2.1.length
 ·rfl
 ·cases (nth a0.2.2.1 a1 ([],[],false,[])).2.2.1<;>cases (a1 !=a0.2.2.2.1)<;>rfl
def yu1:Con:=⟨yhH,ysf,fun x=>(fun n=>some ((n,()),())) (yfq x.1 x.2.1 x.2.2.1)⟩
theorem yGF:ConOk Tryz.prog 47 yu1:=(yTT).mono (fun x r hk h=>(yV5 x.1 x.2.1 x.2.2.1 hk).trans h)
end
end
end Go.Tf
