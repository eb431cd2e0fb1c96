/- Functions of the program, and what they come to. -/
import Derived.Test.YtgmadfpnljibhaaGreatStripesF0
namespace Go.Tf
noncomputable section
open Go.Proofs
set_option synthInstance.maxHeartbeats 400000
set_option synthInstance.maxSize 10000
set_option linter.unusedVariables false
set_option linter.unusedSimpArgs false
set_option maxRecDepth 100000
section
def yJs:Code:=(Tryz.f134.body).getD .skip
def yJG:Env:=zki TT [(135,yx)] []
theorem ySG:FrOk Tryz.prog ⟨yJG,11,fun _=>none⟩ yJs:=zkp yb yd ⟨yD,trivial⟩
def yU2:Nat→Option Seg:=fun _=>none
abbrev ypo:List Par:= [.rd tG]
abbrev yuX:List OT:= [⟨false,tB,.fz⟩]
def yxd (a0:dG):Option (ResD yuX×MutD ypo) :=
 let r1:=ya a0.1 3 5
 bif r1 then
 let r2:=ya a0.2 1 8
 some ((r2,()),())
 else
 some ((false,()),())
theorem yZx (x:InD ypo):zjH ⟨yJG,11,yU2⟩ Tryz.f134.results.toList yJs ypo yuX x=yxd x.1:=by kernel_rfl
theorem yWt:ConOk Tryz.prog 134 ⟨ypo,yuX,fun x=>yxd x.1⟩:=zkh (ySG) Tryz.func134 (by kernel_rfl) (by kernel_rfl) Tryz.ntmps134.symm (by decide) (fun x r h=>(yZx x).trans h)
def yc (a0:dG):Bool :=
 let r1:=ya a0.1 3 5
 bif r1 then
 let r2:=ya a0.2 1 8
 r2
 else
 false
def ygJ:Con:=⟨ypo,yuX,fun x=>(fun n=>some ((n,()),())) (yc x.1)⟩
theorem yYE (a0:dG):yxd a0=(fun n=>some ((n,()),())) (yc a0):=zkS (p:=fun (n:Bool)=>((n,()),())) (zkx (p:=fun (n:Bool)=>((n,()),())) rfl rfl)
theorem ynn:ConOk Tryz.prog 134 ygJ:=(yWt).mono (fun x r _ h=>(yYE x.1).trans h)
theorem yi {a:Int×Int}:yc a=true↔(3≤a.1∧a.1≤5)∧1≤a.2∧a.2≤8:=by
 unfold yc
 cases h:ya a.1 3 5
 ·have: ¬ (3≤a.1∧a.1≤5):=fun e=>by rw [yrY.2 e]at h; simp at h
  simp [this]
 ·simp only [cond_true,yrY]
  exact ⟨fun e=>⟨yrY.1 h,e⟩,fun e=>e.2⟩
def yhw (a:dA) (i:Nat):Bool:= !(yl (nth a.2.2.1 i noMem))||((((nth a.2.2.1 i noMem).1.length:Int) !=6+a.2.1.2)||((nth a.2.2.1 i noMem).2.2.1&&(((i:Int) !=a.2.2.2.1)&& !a.2.2.2.2.2.2.2.2.2.2.2)))
def ync (a:dA):Bool:= !((List.range a.2.2.1.length).any (yhw a))&&(a.2.2.1.length:Int)==a.2.1.1
def yh4 (g:dG) (l:List dW) (i:Nat):Bool:= !(leb 0 (nth l i (0,[])).1&&leb (nth l i (0,[])).1 (g.2 - 1))||(((nth l i (0,[])).2.length:Int) !=g.1 - 1||(!((nth l i (0,[])).2.all isW)||(decide (0 < i)&&leb (nth l i (0,[])).1 (nth l ((i - 1:Nat):Int) (0,[])).1)))
def yaI (g:dG) (l:List dW):Bool:= !((List.range l.length).any (yh4 g l))
def yw (a:dA):Bool :=
 yc a.2.1&&((leb 1 a.1&&leb a.1 60000)&&(ync a&&(yaI a.2.1 a.2.2.2.2.2.2.2.2.1&&((leb (-1) a.2.2.2.1&&leb a.2.2.2.1 (a.2.1.1 - 1))&&((leb 0 a.2.2.2.2.1&&leb a.2.2.2.2.1 a.2.1.2)&&(!(a.2.2.2.1== -1&&a.2.2.2.2.1 !=0) &&
 ((leb 0 a.2.2.2.2.2.2.1&&leb a.2.2.2.2.2.2.1 60000)&&((leb a.2.2.2.2.2.2.1 a.2.2.2.2.2.1&&leb a.2.2.2.2.2.1 60000)&&(leb a.2.2.2.2.2.1 (a.2.2.2.2.2.2.1+4)&&((leb 0 a.2.2.2.2.2.2.2.1&&leb a.2.2.2.2.2.2.2.1 60000)&&(leb (-1) a.2.2.2.2.2.2.2.2.2.1&&leb a.2.2.2.2.2.2.2.2.2.1 1000)))))))))))
theorem ydV {a:dA} (h:yw a=true):yc a.2.1=true:=(Bool.and_eq_true_iff.1 h).1
theorem y4i {a:Int×Int} (h: ¬ yc a=true):yc a=false:=by cases e:yc a<;>simp_all
theorem yRZ {a:dA} (h:yw a=true):ync a=true:=by simp only [yw,Bool.and_eq_true]at h; exact h.2.2.1
theorem ytV {a:dA} (h:yw a=true):(a.2.2.1.length:Int)=a.2.1.1:=by have:=yRZ h; simp only [ync,Bool.and_eq_true,beq_iff_eq]at this; exact this.2
theorem yXw {a:dA} (h:ync a=true) {i:Nat} (hi:i < a.2.2.1.length):yl (nth a.2.2.1 i noMem)=true∧((nth a.2.2.1 i noMem).1.length:Int)=6+a.2.1.2∧((nth a.2.2.1 i noMem).2.2.1=true→(i:Int)=a.2.2.2.1∨a.2.2.2.2.2.2.2.2.2.2.2=true):=by
 simp only [ync,Bool.and_eq_true,Bool.not_eq_true',List.any_eq_false,List.mem_range]at h
 have:=h.1 i hi
 simp only [yhw,Bool.not_eq_true,Bool.or_eq_false_iff,Bool.not_eq_false',bne_eq_false_iff_eq,Bool.and_eq_false_iff]at this
 refine ⟨this.1,this.2.1,fun hf=> ?_⟩
 rcases this.2.2 with h1 | h1 | h1
 ·rw [hf]at h1; cases h1
 ·exact .inl h1
 ·exact .inr h1
theorem yLy: ∀ {l:List Int} {lo n:Int},l.Pairwise (· < ·)→(∀ x∈l,lo≤x∧x < n)→lo≤n→(l.length:Int)≤n - lo
 | [],lo,n,_,_,h=>by simp; omega
 | x::l,lo,n,hp,hx,h=>by
  cases hp with
  | cons h1 h2 =>
   have h3:=hx x List.mem_cons_self
   have:=yLy (l:=l) (lo:=x+1) (n:=n) h2 (fun y hy=>⟨h1 y hy,(hx y (List.mem_cons_of_mem _ hy)).2⟩) (by omega)
   rw [List.length_cons]; omega
theorem ypx {n:Nat} {l:List Int}:yqE n l=true↔(∀ x∈l,0≤x∧x < n)∧l.Pairwise (· < ·):=by
 simp only [yqE,Bool.and_eq_true,List.all_eq_true,zjP,decide_eq_true_eq]
theorem ytf {m:dM} (h1:m.1.all yab=true) (h2:m.2.1.all (ytS m.1.length)=true) (h3:yqE m.1.length m.2.2.2=true) (h4:1≤m.1.length) (h5:m.1.length≤20) (h6:m.2.1.length≤60):yl m=true:=by
 simp only [yl,h1,h2,h3,Bool.true_and,Bool.and_eq_true,zjQ]
 omega
theorem y0B {m:dM} (h:yl m=true):yG7 m≤1041:=by
 obtain ⟨h1,h2,h3,h4,h5,h6⟩:=yar h
 have a1:=yUS (b:=12) h5 (fun x hx=>(ylM.1 (List.all_eq_true.1 h1 x hx)).1)
 have a2:=zi5 (f:=fun x:dW=>1+x.2.length) (c:=13) (l:=m.2.1) (fun w hw=>by have:=(ylM.1 (Bool.and_eq_true_iff.1 (List.all_eq_true.1 h2 w hw)).2).1; omega)
 have a3:=Nat.mul_le_mul_right 13 h6
 obtain ⟨b1,b2⟩:=ypx.1 h3
 have a4:=yLy (lo:=0) (n:=m.1.length) b2 b1 (by omega)
 unfold yG7
 omega
theorem yS7 {m:dM} (b:Nat→Bool) (h:yl m=true):(yez b m.2.1 m.1).all yab=true:=by
 obtain ⟨h1,h2,_⟩:=yar h
 rw [List.all_eq_true]
 exact yNZ (P:=fun x=>yab x=true) (fun x hx=>List.all_eq_true.1 h1 x hx) (fun w hw=>(Bool.and_eq_true_iff.1 (List.all_eq_true.1 h2 w hw)).2)
theorem yRf {m:dM} (n:Int) (s:List Int) (h:yl m=true):yl (yG m n s).1=true:=by
 unfold yG
 cases hc:yaC m n s
 ·exact h
 ·simp only [yaC,Bool.and_eq_true,Bool.not_eq_true',zjT]at hc
  obtain ⟨h1,h2,h3,h4,h5,h6⟩:=yar h
  refine ytf h1 ?_ ?_ h4 h5 (by show (m.2.1++ [(n,s)]).length≤60; rw [List.length_append]; simp only [List.length_cons,List.length_nil]; omega)
  ·show (m.2.1++ [(n,s)]).all (ytS m.1.length)=true
   rw [List.all_append,h2]
   simp [ytS,hc.2.2.1,hc.2.2.2.1]
  ·show yqE m.1.length (yHt m.2.2.2 n)=true
   obtain ⟨b1,b2⟩:=ypx.1 h3
   exact ypx.2 ⟨fun x hx=>b1 x (List.mem_filter.1 hx).1,b2.filter _⟩
theorem yyQ (m:dM) (n:Int) (s:List Int):(yG m n s).1.1=m.1∧(yG m n s).1.2.2.1=m.2.2.1:=by
 unfold yG
 cases yaC m n s<;>exact ⟨rfl,rfl⟩
theorem yZL {m:dM} (h:yl m=true):yl (yq m)=true:=by
 unfold yq
 cases hc:(yl m&& !m.2.2.1)
 ·exact h
 ·obtain ⟨h1,h2,h3,h4,h5,h6⟩:=yar h
  refine ytf (yS7 _ h) rfl ?_ ?_ ?_ (Nat.zero_le _)
  ·show yqE (yez _ m.2.1 m.1).length m.2.2.2=true; rw [ynv]; exact h3
  ·show 1≤(yez _ m.2.1 m.1).length; rw [ynv]; exact h4
  ·show (yez _ m.2.1 m.1).length≤20; rw [ynv]; exact h5
theorem ylJ (m:dM):(yq m).1.length=m.1.length∧(yq m).2.2.1=m.2.2.1:=by
 unfold yq
 cases (yl m&& !m.2.2.1)
 ·exact ⟨rfl,rfl⟩
 ·exact ⟨ynv,rfl⟩
theorem y0Q {m:dM} (h:yl m=true):yl (yle m)=true:=by
 obtain ⟨h1,h2,h3,h4,h5,h6⟩:=yar h
 exact ytf h1 rfl h3 h4 h5 (Nat.zero_le _)
def yat (l:List dM):Prop:= ∀ m∈l,yl m=true
theorem yHo {l:List dM} {i:Nat} {x:dM} (h:yat l) (hx:yl x=true):yat (l.set i x):=fun m hm=>by
 rcases List.mem_or_eq_of_mem_set hm with h1 | rfl
 ·exact h m h1
 ·exact hx
theorem yXB {l:List dM} {m:Int} (h:yat l) (hm:inb m l.length=true):yl (nth l m noMem)=true:=yub (P:=fun x=>yl x=true) hm h
theorem yLa {l:List dM} (h:yat l):yZe l≤l.length * 1041:=zi5 (f:=yG7) (fun x hx=>y0B (h x hx))
theorem yGQ {a:dA} (h:yw a=true):yat a.2.2.1:=fun m hm=>by
 obtain ⟨i,hi,rfl⟩:=List.getElem_of_mem hm
 have:=(yXw (yRZ h) hi).1
 rwa [zjW,zcq hi]at this
def ygs (p:Nat→Bool) (n:Nat):Nat:=((List.range n).filter (fun i=> !p i)).length
theorem y32 (p:Nat→Bool) (n:Nat):ygs p n≤n:=by
 have:=List.length_filter_le (fun i=> !p i) (List.range n)
 rwa [List.length_range]at this
theorem ygt (p:Nat→Bool) (n:Nat):ygs p (n+1)=bif p n then ygs p n else ygs p n+1:=by
 unfold ygs
 rw [List.range_succ,List.filter_append,List.length_append,List.filter_cons]
 cases p n<;>simp
def y1I (a:dA) (s:Int):Int:=bif yw a&&(leb 0 s&&leb s (a.2.1.2 - 1)) then (ygs (fun (i:Nat)=>ym a i s) a.2.1.1.toNat:Nat) else a.2.1.1
def y28 (a:dA):Int:=bif yw a then (ygs (fun (s:Nat)=>(yoZ a s).2) a.2.1.2.toNat:Nat) else 0
theorem y0U {α:Type} (A:List α) (y:α) (t:List α) (d:α):(A++y::t).getD A.length d=y:=by
 rw [List.getD_eq_getElem?_getD,List.getElem?_append_right (Nat.le_refl _),Nat.sub_self]; rfl
theorem y0Y {α:Type} (A:List α) (y z:α) (t:List α):(A++y::t).set A.length z=A++z::t:=by
 rw [List.set_append_right _ _ (Nat.le_refl _),Nat.sub_self]; rfl
def yGq (l:List Int) (n:Int):List Int:=l.filter (fun x=>ltb x n)++n::l.filter (fun x=>ltb n x)
def spoil (m:dM) (n:Int):dM:=bif yl m&&(inb n m.1.length&& !(m.2.2.2.any (· ==n))) then (m.1,m.2.1,m.2.2.1,yGq m.2.2.2 n) else m
theorem y0e {l:List Int} {n:Int} (h:l.Pairwise (· < ·)) (hn:n∉l):l=l.filter (fun x=>ltb x n)++l.filter (fun x=>ltb n x):=by
 induction l with
 | nil=>rfl
 | cons x t ih =>
  obtain ⟨hx,ht⟩:=List.pairwise_cons.1 h
  simp only [List.mem_cons,not_or]at hn
  rw [List.filter_cons,List.filter_cons]
  by_cases hlt:x < n
  ·rw [zjI hlt,zkm (show x≤n by omega)]
   simp only [if_true,Bool.false_eq_true,if_false,List.cons_append]
   rw [← ih ht hn.2]
  ·have h3:t.filter (fun x=>ltb x n)= []:=List.filter_eq_nil_iff.2 (fun y hy=>by rw [zkm (by have:=hx y hy; omega)]; simp)
   have h4:t.filter (fun x=>ltb n x)=t:=List.filter_eq_self.2 (fun y hy=>zjI (by have:=hx y hy; omega))
   rw [zkm (show n≤x by omega),zjI (show n < x by omega),h3,h4]; rfl
theorem y0f {m:dM} (n:Int) (h:yl m=true):yl (spoil m n)=true:=by
 unfold spoil
 cases hc:(yl m&&(inb n m.1.length&& !(m.2.2.2.any (· ==n))))
 ·exact h
 ·simp only [Bool.and_eq_true]at hc
  have hi:=zjP.1 hc.2.1
  obtain ⟨h1,h2,h3,h4,h5,h6⟩:=yar h
  rw [ypx]at h3
  refine ytf h1 h2 ?_ h4 h5 h6
  show yqE m.1.length (yGq m.2.2.2 n)=true
  rw [ypx]
  unfold yGq
  refine ⟨fun x hx=> ?_,?_⟩
  ·rcases List.mem_append.1 hx with g | g
   ·exact h3.1 x (List.mem_filter.1 g).1
   ·rcases List.mem_cons.1 g with rfl | g
    ·exact hi
    ·exact h3.1 x (List.mem_filter.1 g).1
  ·rw [List.pairwise_append,List.pairwise_cons]
   refine ⟨h3.2.filter _,⟨fun y hy=>zjT.1 (List.mem_filter.1 hy).2,h3.2.filter _⟩,fun x hx y hy=> ?_⟩
   have g1:=zjT.1 (List.mem_filter.1 hx).2
   rcases List.mem_cons.1 hy with rfl | hy
   ·exact g1
   ·exact Int.lt_trans g1 (zjT.1 (List.mem_filter.1 hy).2)
theorem yEP (m:dM) (n:Int):(spoil m n).1=m.1∧(spoil m n).2.2.1=m.2.2.1:=by
 unfold spoil
 cases (yl m&&(inb n m.1.length&& !(m.2.2.2.any (· ==n))))<;>exact ⟨rfl,rfl⟩
def yI (g:dG) (s:Int):Bool:=yc g&&(leb 0 s&&leb s (g.2 - 1))
def ye (g:dG) (s:Int):Int:=bif yI g s then g.1 - 1 - s.tmod g.1 else -1
def yao (g:dG) (s i:Int):Int:=bif yI g s&&(leb 0 i&&leb i (g.1 - 2)) then (ye g s+1+i).tmod g.1 else -1
theorem yN {g:dG} {s:Int}:yI g s=true↔yc g=true∧0≤s∧s≤g.2 - 1:=by simp [yI,zjQ]
theorem ygz {g:dG} {s:Int} (h:yI g s=true):0≤ye g s∧ye g s≤g.1 - 1:=by
 have h1:=yN.1 h
 have h2:=yi.1 h1.1
 unfold ye
 rw [h,cond_true,Int.tmod_eq_emod_of_nonneg h1.2.1]
 have:=Int.emod_nonneg s (show g.1≠0 by omega)
 have:=Int.emod_lt_of_pos s (show 0 < g.1 by omega)
 omega
theorem yLC {g:dG} {s i:Int} (h:yI g s=true) (h1:0≤i) (h2:i≤g.1 - 2):0≤yao g s i∧yao g s i≤g.1 - 1:=by
 have h3:=yi.1 (yN.1 h).1
 have h4:=ygz h
 unfold yao
 rw [h,zk0 h1,zk0 h2,Bool.and_self,Bool.and_self,cond_true,Int.tmod_eq_emod_of_nonneg (by omega)]
 have:=Int.emod_nonneg (ye g s+1+i) (show g.1≠0 by omega)
 have:=Int.emod_lt_of_pos (ye g s+1+i) (show 0 < g.1 by omega)
 omega
def yr (p:Nat→Bool):Nat→Int
 | 0=> -1
 | n+1=>bif p n then yr p n else n
def yeK (p:Nat→Bool) (n:Nat):Bool:=(List.range n).any (fun i=> !p i&&leb 0 (yr p i))
theorem yKC (p:Nat→Bool): ∀ n,yr p n= -1∨(0≤yr p n∧yr p n < n∧p (yr p n).toNat=false)
 | 0=> .inl rfl
 | n+1=>by
  unfold yr
  cases h:p n
  ·exact .inr ⟨by show (0:Int)≤n; omega,by show (n:Int) < _; omega,h⟩
  ·rcases yKC p n with h1 | h1
   ·exact .inl h1
   ·exact .inr ⟨h1.1,by show yr p n < _; omega,h1.2.2⟩
def yK (a:dA) (s:Int) (n:Nat):List Int:=(List.range n).map (fun (i:Nat)=>yjJ a i s)
theorem yfe (a:dA) (s:Int) (n:Nat):(yK a s n).length=n:=by unfold yK; rw [List.length_map,List.length_range]
theorem yIA (a:dA) (s:Int) (n:Nat):yK a s n++ [yjJ a n s]=yK a s (n+1):=by unfold yK; rw [List.range_succ,List.map_append]; rfl
theorem y0M (a:dA) (s:Int) {i n:Nat} (h:i < n):nth (yK a s n) i 0=yjJ a i s:=by
 unfold yK
 rw [zjW,zcq (by rw [List.length_map,List.length_range]; exact h)]; simp
def yE (a:dA) (s:Int):List Int×Bool :=
 bif yeK (fun (i:Nat)=>ym a i s) a.2.1.1.toNat then ([],false)
 else bif leb 0 (yr (fun (i:Nat)=>ym a i s) a.2.1.1.toNat) then ((yK a s a.2.1.1.toNat).set (yr (fun (i:Nat)=>ym a i s) a.2.1.1.toNat).toNat (xorOf (yK a s a.2.1.1.toNat)),true)
 else (yK a s a.2.1.1.toNat,true)
theorem yLv {a:dA} {s:Int} (h:(yE a s).2=true):(yE a s).1.length=a.2.1.1.toNat:=by
 unfold yE at h ⊢
 cases h1:yeK (fun (i:Nat)=>ym a i s) a.2.1.1.toNat
 ·cases leb 0 (yr (fun (i:Nat)=>ym a i s) a.2.1.1.toNat)
  ·exact yfe _ _ _
  ·simp only [cond_false,cond_true,List.length_set]; exact yfe _ _ _
 ·rw [h1]at h; cases h
theorem yXz (a:dA) (s:Int) (n:Nat) (h:leb 0 (yr (fun (i:Nat)=>ym a i s) n)=true):inb (yr (fun (i:Nat)=>ym a i s) n) (yK a s n).length=true∧ypE (yK a s n) (yr (fun (i:Nat)=>ym a i s) n)=xorOf (yK a s n):=by
 rcases yKC (fun (i:Nat)=>ym a i s) n with h1 | h1
 ·rw [h1]at h; cases h
 ·have h2:inb (yr (fun (i:Nat)=>ym a i s) n) (yK a s n).length=true:=by rw [yfe,zjP]; exact ⟨h1.1,h1.2.1⟩
  refine ⟨h2,y1J h2 ?_⟩
  have h3:=y0M a s (show (yr (fun (i:Nat)=>ym a i s) n).toNat < n by omega)
  rw [show (((yr (fun (i:Nat)=>ym a i s) n).toNat:Nat):Int)=yr (fun (i:Nat)=>ym a i s) n by omega]at h3
  rw [h3]
  unfold yjJ
  have h4:ym a (yr (fun (i:Nat)=>ym a i s) n) s=false:=by
   have:=h1.2.2
   have this:ym a ((yr (fun (i:Nat)=>ym a i s) n).toNat:Nat) s=false:=h1.2.2
   rwa [show (((yr (fun (i:Nat)=>ym a i s) n).toNat:Nat):Int)=yr (fun (i:Nat)=>ym a i s) n by omega]at this
  rw [h4]; rfl
def yvp (a:dA) (s:Int):List Int×Bool:=bif (yE a s).2 then ((List.range (a.2.1.1 - 1).toNat).map (fun (i:Nat)=>nth (yE a s).1 (yao a.2.1 s i) 0),true) else ([],false)
def yvq (a:dA) (s:Int):List Int×Bool:=bif yw a&&(!a.2.2.2.2.2.2.2.2.2.2.2&&yI a.2.1 s) then yvp a s else ([],false)
theorem y3M (a:dA) (s:Int):(yvp a s).1.length≤(a.2.1.1 - 1).toNat:=by
 unfold yvp
 cases (yE a s).2
 ·exact Nat.zero_le _
 ·simp
def y4b (a:dA):List Int:=bif yw a&&(List.range a.2.1.2.toNat).all (fun (s:Nat)=>(yvq a s).2) then (List.range a.2.1.2.toNat).flatMap (fun (s:Nat)=>(yvq a s).1) else []
theorem yS9 (p:Nat→Bool): ∀ n,leb 0 (yr p n)=decide (1≤ygs p n)∧yeK p n=decide (2≤ygs p n)
 | 0=>⟨rfl,rfl⟩
 | n+1=>by
  obtain ⟨h1,h2⟩:=yS9 p n
  have e:yeK p (n+1)=(yeK p n||(!p n&&leb 0 (yr p n))):=by
   unfold yeK
   rw [List.range_succ,List.any_append]; simp
  have e2:yr p (n+1)=bif p n then yr p n else n:=rfl
  rw [e,e2,ygt,h2,h1]
  cases hp:p n
  ·simp only [cond_false,Bool.not_false,Bool.true_and]
   refine ⟨by rw [zk0 (show (0:Int)≤n by omega)]; simp,?_⟩
   rw [Bool.eq_iff_iff,Bool.or_eq_true,decide_eq_true_eq,decide_eq_true_eq,decide_eq_true_eq]; omega
  ·simp [h1]
def ypB (m:dM) (n:Int):List Int:=yhC n m.2.1 (nth m.1 n [])
def ypy (m:dM) (n:Int):Bool:=m.2.2.2.any (· ==n)
def yOm (m:dM) (n:Int) (v:List Int):Prop:=v=nth m.1 n []∨ ∃ w∈m.2.1,w.1=n∧w.2=v
theorem yTk (n:Int): ∀ (c:List dW) (s:List Int),yhC n c s=s∨ ∃ w∈c,w.1=n∧w.2=yhC n c s
 | [],s=> .inl rfl
 | w::c,s=>by
  show yhC n c (bif w.1==n then w.2 else s)=s∨ ∃ x∈w::c,x.1=n∧x.2=yhC n c (bif w.1==n then w.2 else s)
  rcases yTk n c (bif w.1==n then w.2 else s) with h | ⟨x,hx,h1,h2⟩
  ·rw [h]
   cases hw:(w.1==n)
   ·exact .inl rfl
   ·exact .inr ⟨w,List.mem_cons_self,beq_iff_eq.1 hw,rfl⟩
  ·exact .inr ⟨x,List.mem_cons_of_mem _ hx,h1,h2⟩
theorem y2c (m:dM) (n:Int):yOm m n (ypB m n):=yTk n m.2.1 _
theorem yN2 (n:Int) (c:List dW) (w:dW) (s:List Int):yhC n (c++ [w]) s=bif w.1==n then w.2 else yhC n c s:=by
 unfold yhC; rw [List.foldl_append]; rfl
theorem y2q {m:dM} {n:Int} (h:yl m=true) (h1:m.2.2.1=false) (h2:inb n m.1.length=true):ybQ m n=bif ypy m n then ([],false) else (ypB m n,true):=by
 unfold ybQ ywU
 rw [h,h1,h2]
 show (bif !(ypy m n) then (ypB m n,true) else ([],false))=_
 cases ypy m n<;>rfl
theorem yEU {m:dM} {n:Int} {s:List Int} (h:yl m=true) (h1:m.2.2.1=false) (h2:inb n m.1.length=true) (h3:yab s=true) (h4:m.2.1.length < 60):yaC m n s=true:=by
 unfold yaC
 rw [h,h1,h2,h3,zjI (by omega)]; rfl
theorem yHw {m:dM} {n:Int} {s:List Int} (h:yaC m n s=true):(yG m n s).1=(m.1,m.2.1++ [(n,s)],m.2.2.1,yHt m.2.2.2 n):=by unfold yG; rw [h]; rfl
theorem yEu {m:dM} {n:Int} {s:List Int} (h:yaC m n s=true) (k:Int):ypB (yG m n s).1 k=bif n==k then s else ypB m k:=by
 rw [yHw h]; exact yN2 _ _ _ _
theorem y11 (l:List Int) (n k:Int):(yHt l n).any (· ==k)=(l.any (· ==k)&&k !=n):=by
 rw [Bool.eq_iff_iff]
 simp only [yHt,List.any_eq_true,List.mem_filter,Bool.and_eq_true,beq_iff_eq,bne_iff_ne]
 constructor
 ·rintro ⟨x,⟨h1,h2⟩,rfl⟩; exact ⟨⟨x,h1,rfl⟩,h2⟩
 ·rintro ⟨⟨x,h1,rfl⟩,h2⟩; exact ⟨x,⟨h1,h2⟩,rfl⟩
theorem yxH {m:dM} {n:Int} {s:List Int} (h:yaC m n s=true) (k:Int):ypy (yG m n s).1 k=(ypy m k&&k !=n):=by
 rw [yHw h]; exact y11 _ _ _
theorem y3z {m:dM} {n:Int} {s:List Int} {k:Int} {v:List Int} (h:yOm (yG m n s).1 k v):yOm m k v∨(k=n∧v=s):=by
 cases hc:yaC m n s
 ·unfold yG at h; rw [hc]at h; exact .inl h
 ·rw [yHw hc]at h
  rcases h with h | ⟨w,hw,h1,h2⟩
  ·exact .inl (.inl h)
  ·rcases List.mem_append.1 hw with hw | hw
   ·exact .inl (.inr ⟨w,hw,h1,h2⟩)
   ·rw [List.mem_singleton.1 hw]at h1 h2; exact .inr ⟨h1.symm,h2.symm⟩
theorem yCy {α:Type} {l:List α} {i k:Int} {x d:α} (hi:inb i l.length=true) (hk:0≤k):nth (l.set i.toNat x) k d=bif i==k then x else nth l k d:=by
 have h1:=zjP.1 hi
 unfold nth
 rw [List.getD_eq_getElem?_getD,List.getD_eq_getElem?_getD,List.getElem?_set]
 by_cases h:i=k
 ·subst h; simp [show i.toNat < l.length by omega]
 ·rw [if_neg (by omega),show (i==k)=false from beq_eq_false_iff_ne.2 h]; rfl
theorem y0S (b:Nat→Bool) {c:List dW} {l:List (List Int)} {k:Int} (hk:0≤k) (hc: ∀ w∈c,inb w.1 l.length=true) :
  ∀ n,n≤c.length→((List.range n).foldl (ybx b c) l).length=l.length∧(nth ((List.range n).foldl (ybx b c) l) k []=nth l k []∨ ∃ w∈c,w.1=k∧w.2=nth ((List.range n).foldl (ybx b c) l) k []) ∧
   ((∀ i,b i=true)→nth ((List.range n).foldl (ybx b c) l) k []=yhC k (c.take n) (nth l k [])):=by
 intro n
 induction n with
 | zero=>intro _; exact ⟨rfl,.inl rfl,fun _=>rfl⟩
 | succ n ih =>
  intro hn
  obtain ⟨h1,h2,h3⟩:=ih (by omega)
  rw [List.range_succ,List.foldl_append,List.foldl_cons,List.foldl_nil]
  have hnc:n < c.length:=by omega
  generalize (List.range n).foldl (ybx b c) l=L at h1 h2 h3 ⊢
  refine ⟨yAJ.trans h1,?_⟩
  unfold ybx
  rw [zjW,zcq hnc]
  have hw:inb c[n].1 L.length=true:=by rw [h1]; exact hc _ (List.getElem_mem hnc)
  cases hb:b n
  ·refine ⟨h2,fun h=> ?_⟩
   rw [h n]at hb; cases hb
  ·simp only [cond_true,yCy hw hk]
   constructor
   ·cases he:(c[n].1==k)
    ·exact h2
    ·exact .inr ⟨c[n],List.getElem_mem hnc,beq_iff_eq.1 he,rfl⟩
   ·intro h
    rw [h3 h,List.take_add_one,List.getElem?_eq_getElem hnc]
    exact (yN2 k _ _ _).symm
theorem yZ1 {m:dM} (h:yl m=true): ∀ w∈m.2.1,inb w.1 m.1.length=true:=fun w hw=>by
 have:=List.all_eq_true.1 (yar h).2.1 w hw
 simp only [ytS,Bool.and_eq_true]at this; exact this.1
theorem y1C {m:dM} {k:Int} (h:yl m=true) (h1:m.2.2.1=false) (hk:0≤k):nth (yq m).1 k []=ypB m k:=by
 have:=(y0S (fun _=>true) hk (yZ1 h) m.2.1.length (Nat.le_refl _)).2.2 (fun _=>rfl)
 rw [List.take_length]at this
 unfold yq
 rw [h,h1]; exact this
theorem yGU {m:dM} (h:yl m=true) (h1:m.2.2.1=false):(yq m).2.1= []∧(yq m).2.2=m.2.2:=by
 unfold yq
 rw [h,h1]
 refine ⟨rfl,?_⟩
 show (false,m.2.2.2)=m.2.2
 rw [← h1]
theorem y1e {m:dM} {k:Int} {v:List Int} (h:yl m=true) (h1:m.2.2.1=false) (hk:0≤k) (hv:yOm (yq m) k v):v=ypB m k:=by
 rcases hv with hv | ⟨w,hw,_⟩
 ·rw [hv,y1C h h1 hk]
 ·rw [(yGU h h1).1]at hw; cases hw
theorem y1B {m:dM} {k:Int} (h:yl m=true) (h1:m.2.2.1=false) (hk:0≤k):ypB (yq m) k=ypB m k:=y1e h h1 hk (y2c _ _)
theorem yXo (m:dM) (k:Int):ypy (yq m) k=ypy m k:=by
 unfold yq
 cases (yl m&& !m.2.2.1)<;>rfl
theorem y2g {m:dM} (h:yl m=true) (ks:Int) {k:Int} (hk:0≤k):yOm m k (nth (ygL m ks).1 k []):=by
 have:=(y0S (fun i=>decide (i < 20)&&yZb (yS6 ks) i) hk (yZ1 h) m.2.1.length (Nat.le_refl _)).2.1
 unfold ygL
 rw [h]
 rcases this with h1 | ⟨w,hw,h1,h2⟩
 ·exact .inl h1
 ·exact .inr ⟨w,hw,h1,h2⟩
theorem yXn {m:dM} (h:yl m=true) (ks:Int):(ygL m ks).2.1= []∧(ygL m ks).2.2=m.2.2∧(ygL m ks).1.length=m.1.length:=by
 unfold ygL
 rw [h]
 exact ⟨rfl,rfl,ynv⟩
theorem y4c {m:dM} (h:yl m=true) (ks:Int):yl (ygL m ks)=true:=by
 obtain ⟨h1,h2,h3,h4,h5,h6⟩:=yar h
 obtain ⟨e1,e2,e3⟩:=yXn h ks
 refine ytf ?_ (by rw [e1]; rfl) (by rw [e2,e3]; exact h3) (by omega) (by omega) (by rw [e1]; exact Nat.zero_le _)
 have:=yS7 (fun i=>decide (i < 20)&&yZb (yS6 ks) i) h
 unfold ygL
 rw [h]; exact this
theorem y3O {m:dM} (h:yl m=true) {ks k:Int} {v:List Int} (hk:0≤k) (hv:yOm (ygL m ks) k v):yOm m k v:=by
 rcases hv with rfl | ⟨w,hw,_⟩
 ·exact y2g h ks hk
 ·rw [(yXn h ks).1]at hw; cases hw
theorem y29 {x:Int} (h:isW x=true):(bv x).toNat < 2 ^ 16:=by
 have:=yqK.1 h
 unfold bv
 rw [BitVec.toNat_ofInt]
 omega
theorem y3c {v:BitVec 64} (h:v.toNat < 2 ^ 16):isW v.toInt=true:=by
 rw [BitVec.toInt_eq_toNat_of_lt (by omega)]
 exact yqK.2 (by omega)
theorem y24: ∀ (l:List Int),l.all isW=true→(yd4 l).toNat < 2 ^ 16:=by
 intro l h
 have: ∀ (l:List Int) (v:BitVec 64),v.toNat < 2 ^ 16→l.all isW=true→(l.foldl (fun v x=>v ^^^ bv x) v).toNat < 2 ^ 16:=by
  intro l
  induction l with
  | nil=>intro v hv _; exact hv
  | cons x t ih =>
   intro v hv h
   simp only [List.all_cons,Bool.and_eq_true]at h
   refine ih _ ?_ h.2
   rw [BitVec.toNat_xor]
   exact Nat.xor_lt_two_pow hv (y29 h.1)
 exact this l 0#64 (by decide) h
theorem yXK {l:List Int} (h:l.all isW=true):isW (xorOf l)=true:=by
 rw [ymB]; exact y3c (y24 l h)
theorem yAP {l:List Int}:l.all isW=true↔ ∀ x∈l,isW x=true:=by simp
theorem yLH {l:List Int} {i:Int} (h:l.all isW=true):isW (nth l i 0)=true:=by
 unfold nth
 rw [List.getD_eq_getElem?_getD]
 cases e:l[i.toNat]? with
 | none=>rfl
 | some x=>exact yAP.1 h x (List.mem_of_getElem? e)
theorem yW9 {l:List Int} {i:Nat} {x:Int} (h:l.all isW=true) (hx:isW x=true):(l.set i x).all isW=true:=by
 rw [yAP]at h ⊢
 intro y hy
 rcases List.mem_or_eq_of_mem_set hy with h1 | rfl
 ·exact h y h1
 ·exact hx
theorem y1m {m:dM} {n:Int} (h:(ybQ m n).2=true):yab (ybQ m n).1=true:=by
 unfold ybQ at h ⊢
 cases hc:ywU m n
 ·rw [hc]at h; cases h
 ·simp only [ywU,Bool.and_eq_true]at hc
  obtain ⟨h1,h2,h3,_,_,_⟩:=yar hc.1
  refine yHi (P:=fun s=>yab s=true) ?_ fun w hw=> ?_
  ·exact yub (P:=fun s=>yab s=true) hc.2.2.1 (fun x hx=>List.all_eq_true.1 h1 x hx)
  ·have:=List.all_eq_true.1 h2 w hw
   simp only [ytS,Bool.and_eq_true]at this
   exact this.2
theorem y2C (a:dA) (m s:Int):isW (yjJ a m s)=true:=by
 unfold yjJ
 cases h:ym a m s
 ·rfl
 ·simp only [ym,Bool.and_eq_true]at h
  have:=y1m (m:=nth a.2.2.1 m noMem) (n:=dataAt s) h.2.1
  simp only [yab,Bool.and_eq_true]at this
  exact yLH this.2
theorem yC2 (a:dA) (s:Int) (n:Nat):(yK a s n).all isW=true:=by
 rw [yAP]
 unfold yK
 intro x hx
 obtain ⟨i,_,rfl⟩:=List.mem_map.1 hx
 exact y2C a i s
theorem y1X (a:dA) (s:Int):(yE a s).1.all isW=true:=by
 unfold yE
 cases yeK (fun (i:Nat)=>ym a i s) a.2.1.1.toNat
 ·cases leb 0 (yr (fun (i:Nat)=>ym a i s) a.2.1.1.toNat)
  ·exact yC2 _ _ _
  ·exact yW9 (yC2 _ _ _) (yXK (yC2 _ _ _))
 ·rfl
theorem yXj (a:dA) (s:Int):(yvp a s).1.all isW=true:=by
 unfold yvp
 cases (yE a s).2
 ·rfl
 ·rw [yAP]
  intro x hx
  obtain ⟨i,_,rfl⟩:=List.mem_map.1 hx
  exact yLH (y1X a s)
end
section
def yFf:Code:=(Tryz.f226.body).getD .skip
def yFR:Env:=zki TT [(134,ygJ),(135,yx)] []
theorem yMC:FrOk Tryz.prog ⟨yFR,60,fun _=>none⟩ yFf:=zkp yb yd ⟨ynn,yD,trivial⟩
def yOf:Nat→Option Seg:=fun _=>none
abbrev ykP:List Par:= [.rd tS]
abbrev yqA:List OT:= [⟨false,tB,.fz⟩]
def ytC (a0:dS):Option (ResD yqA×MutD ykP) :=
 let r1:=yc (a0.2.2.2.1,a0.2.2.2.2.1)
 bif (!(!r1)) then
 let r2:=ya a0.1 1 60000
 bif (!(!r2)) then
 let r3:=ya a0.2.1 0 60000
 bif (!(!r3)) then
 let r4:=ya a0.2.2.1 0 (IntKind.i64.wrap (a0.2.2.2.1 - 1))
 bif (!(!r4)) then
 let r5:=ya a0.2.2.2.2.2.1 0 60000
 bif (!r5) then
 some ((false,()),())
 else
 let r6:=ya a0.2.2.2.2.2.2.1 (-1) (IntKind.i64.wrap (a0.2.2.2.1 - 1))
 bif r6 then
 let r7:=ya a0.2.2.2.2.2.2.2 0 a0.2.2.2.2.1
 bif r7 then
 bif (!(leb 0 a0.2.2.2.2.2.2.1)) then
 some (((a0.2.2.2.2.2.2.2==0),()),())
 else
 some ((true,()),())
 else
 some ((false,()),())
 else
 some ((false,()),())
 else
 some ((false,()),())
 else
 some ((false,()),())
 else
 some ((false,()),())
 else
 some ((false,()),())
theorem yVs (x:InD ykP):zjH ⟨yFR,60,yOf⟩ Tryz.f226.results.toList yFf ykP yqA x=ytC x.1:=by kernel_rfl
theorem yQE:ConOk Tryz.prog 226 ⟨ykP,yqA,fun x=>ytC x.1⟩:=zkh (yMC) Tryz.func226 (by kernel_rfl) (by kernel_rfl) Tryz.ntmps226.symm (by decide) (fun x r h=>(yVs x).trans h)
def yaJ (a0:dS):Bool :=
 let r1:=yc (a0.2.2.2.1,a0.2.2.2.2.1)
 bif (!(!r1)) then
 let r2:=ya a0.1 1 60000
 bif (!(!r2)) then
 let r3:=ya a0.2.1 0 60000
 bif (!(!r3)) then
 let r4:=ya a0.2.2.1 0 (IntKind.i64.wrap (a0.2.2.2.1 - 1))
 bif (!(!r4)) then
 let r5:=ya a0.2.2.2.2.2.1 0 60000
 bif (!r5) then
 false
 else
 let r6:=ya a0.2.2.2.2.2.2.1 (-1) (IntKind.i64.wrap (a0.2.2.2.1 - 1))
 bif r6 then
 let r7:=ya a0.2.2.2.2.2.2.2 0 a0.2.2.2.2.1
 bif r7 then
 bif (!(leb 0 a0.2.2.2.2.2.2.1)) then
 (a0.2.2.2.2.2.2.2==0)
 else
 true
 else
 false
 else
 false
 else
 false
 else
 false
 else
 false
 else
 false
def yBM:Con:=⟨ykP,yqA,fun x=>(fun n=>some ((n,()),())) (yaJ x.1)⟩
theorem yTw (a0:dS):ytC a0=(fun n=>some ((n,()),())) (yaJ a0):=zkS (p:=fun (n:Bool)=>((n,()),())) (zkx (p:=fun (n:Bool)=>((n,()),())) (zkx (p:=fun (n:Bool)=>((n,()),())) (zkx (p:=fun (n:Bool)=>((n,()),())) (zkx (p:=fun (n:Bool)=>((n,()),())) (zkx (p:=fun (n:Bool)=>((n,()),())) rfl (zkx (p:=fun (n:Bool)=>((n,()),())) (zkx (p:=fun (n:Bool)=>((n,()),())) (zkx (p:=fun (n:Bool)=>((n,()),())) rfl rfl) rfl) rfl)) rfl) rfl) rfl) rfl)
theorem yUu:ConOk Tryz.prog 226 yBM:=(yQE).mono (fun x r _ h=>(yTw x.1).trans h)
abbrev yWj:dS:=(0,0,0,0,0,0,0,0)
theorem y0L {s:dS}:yaJ s=true↔yc (s.2.2.2.1,s.2.2.2.2.1)=true∧(1≤s.1∧s.1≤60000)∧(0≤s.2.1∧s.2.1≤60000)∧(0≤s.2.2.1∧s.2.2.1≤s.2.2.2.1 - 1)∧(0≤s.2.2.2.2.2.1∧s.2.2.2.2.2.1≤60000)∧(-1≤s.2.2.2.2.2.2.1∧s.2.2.2.2.2.2.1≤s.2.2.2.1 - 1)∧(0≤s.2.2.2.2.2.2.2∧s.2.2.2.2.2.2.2≤s.2.2.2.2.1)∧(0≤s.2.2.2.2.2.2.1∨s.2.2.2.2.2.2.2=0):=by
 unfold yaJ
 cases hg:yc (s.2.2.2.1,s.2.2.2.2.1)
 ·simp
 have hg2:=yi.1 hg
 simp only at hg2
 rw [wr (show -9223372036854775808≤s.2.2.2.1 - 1 by omega) (by omega)]
 simp only [Bool.not_not,cond_true,true_and]
 simp only [← yrY]
 cases ya s.1 1 60000
 ·simp
 cases ya s.2.1 0 60000
 ·simp
 cases ya s.2.2.1 0 (s.2.2.2.1 - 1)
 ·simp
 cases ya s.2.2.2.2.2.1 0 60000
 ·simp
 cases ya s.2.2.2.2.2.2.1 (-1) (s.2.2.2.1 - 1)
 ·simp
 cases ya s.2.2.2.2.2.2.2 0 s.2.2.2.2.1
 ·simp
 cases hl:leb 0 s.2.2.2.2.2.2.1
 ·have:=mt zk0 (by rw [hl]; simp: ¬ leb 0 s.2.2.2.2.2.2.1=true)
  simp [this]
 ·simp [zjQ.1 hl]
def y00 (l:List Int):dS:=(nth l 1 0,nth l 2 0,nth l 3 0,nth l 4 0,nth l 5 0,nth l 6 0,IntKind.i64.wrap (nth l 7 0 - 1),nth l 8 0)
def yZO (l:List Int):dS×Bool:=bif (l.length:Int)==9&&(nth l 0 0==21317&&yaJ (y00 l)) then (y00 l,true) else (yWj,false)
def y19 (m:dM) (i:Int):dS:=(yZO (ybQ m i).1).1
def yZk (m:dM) (id i:Int):Bool:=(ybQ m i).2&&((yZO (ybQ m i).1).2&&((y19 m i).1==id&&(y19 m i).2.1.tmod 2==i))
def yZi (b:dS×Bool) (ok:Bool) (s:dS):dS×Bool:=bif ok&&(!b.2||ltb b.1.2.1 s.2.1) then (s,true) else b
def yxI (m:dM) (id:Int):dS×Bool:=(List.range 2).foldl (fun s (i:Nat)=>yZi s (yZk m id i) (y19 m i)) (yWj,false)
def y2G (m:dM) (i id:Int):Bool:= !m.2.2.1&&((yxI m id).2&&(yxI m id).1.2.2.1==i)
def yR0 (l:List dM) (id:Int):dS×Bool:=(List.range l.length).foldl (fun s (i:Nat)=>yZi s (y2G (nth l i noMem) i id) (yxI (nth l i noMem) id).1) (yWj,false)
def y2I (l:List dM) (id:Int) (s:Int×Int×Bool) (i:Nat):Int×Int×Bool:=bif y2G (nth l i noMem) i id then s else bif s.1== -1||s.1==i then ((i:Int),0,s.2.2) else (s.1,s.2.1,true)
def y27 (b:dS) (l:List dM) (id:Int) (s:Int×Int×Bool):dA:=(id,(b.2.2.2.1,b.2.2.2.2.1),l,s.1,s.2.1,b.2.2.2.2.2.1,b.2.2.2.2.2.1,b.2.1,[],-1,false,s.2.2)
def y1v (l:List dM) (id:Int):dA:=y27 (yR0 l id).1 l id ((List.range l.length).foldl (y2I l id) ((yR0 l id).1.2.2.2.2.2.2.1,(yR0 l id).1.2.2.2.2.2.2.2,false))
def y3V (l:List dM) (id:Int):dA×Bool:=bif (yR0 l id).2&&((l.length:Int)==(yR0 l id).1.2.2.2.1&&yw (y1v l id)) then (y1v l id,true) else (ydv,false)
theorem y14 (b:dS×Bool) (s:dS):yZi b false s=b:=rfl
theorem y0H {m:dM} {i:Int} (h:(ybQ m i).2=true):yl m=true:=by
 unfold ybQ at h
 cases hc:ywU m i
 ·rw [hc]at h; cases h
 ·exact (Bool.and_eq_true_iff.1 hc).1
theorem y2a {m:dM} {id i:Int} (h:yl m=false):yZk m id i=false:=by
 unfold yZk
 cases hr:(ybQ m i).2
 ·rfl
 ·rw [y0H hr]at h; cases h
theorem y3W {m:dM} {id:Int} (h:(yxI m id).2=true):yl m=true:=by
 cases hm:yl m
 ·unfold yxI at h
  simp only [y2a hm,y14]at h
  exact h
 ·rfl
end
section
def yDd:Code:=(Tryz.f140.body).getD .skip
def yDK:Env:=zki TT [(226,yBM)] []
theorem yKr:FrOk Tryz.prog ⟨yDK,25,fun _=>none⟩ yDd:=zkp yb yd ⟨yUu,trivial⟩
def yLQ:Nat→Option Seg:=fun _=>none
abbrev yim:List Par:= [.rd tS]
abbrev yoi:List OT:= [⟨false,tL,(.ow .fz)⟩]
def yrC (a0:dS):Option (ResD yoi×MutD yim) :=
 let r1:=yaJ a0
 bif (!r1) then
 some ((([]:List Int),()),())
 else
 some ((([21317,a0.1,a0.2.1,a0.2.2.1,a0.2.2.2.1,a0.2.2.2.2.1,a0.2.2.2.2.2.1,(IntKind.i64.wrap (a0.2.2.2.2.2.2.1+1)),a0.2.2.2.2.2.2.2]:List Int),()),())
theorem ySh (x:InD yim):zjH ⟨yDK,25,yLQ⟩ Tryz.f140.results.toList yDd yim yoi x=yrC x.1:=by kernel_rfl
theorem yNq:ConOk Tryz.prog 140 ⟨yim,yoi,fun x=>yrC x.1⟩:=zkh (yKr) Tryz.func140 (by kernel_rfl) (by kernel_rfl) Tryz.ntmps140.symm (by decide) (fun x r h=>(ySh x).trans h)
def yz (a0:dS):(List Int) :=
 let r1:=yaJ a0
 bif (!r1) then
 ([]:List Int)
 else
 ([21317,a0.1,a0.2.1,a0.2.2.1,a0.2.2.2.1,a0.2.2.2.2.1,a0.2.2.2.2.2.1,(IntKind.i64.wrap (a0.2.2.2.2.2.2.1+1)),a0.2.2.2.2.2.2.2]:List Int)
def yrn:Con:=⟨yim,yoi,fun x=>(fun n=>some ((n,()),())) (yz x.1)⟩
theorem yQj (a0:dS):yrC a0=(fun n=>some ((n,()),())) (yz a0):=zkS (p:=fun (n:(List Int))=>((n,()),())) (zkx (p:=fun (n:(List Int))=>((n,()),())) rfl rfl)
theorem yCD:ConOk Tryz.prog 140 yrn:=(yNq).mono (fun x r _ h=>(yQj x.1).trans h)
abbrev downA (a:dA):Bool:=a.2.2.2.2.2.2.2.2.2.2.1
def yZf (a:dA) (f:Int) (d:Bool):dA:=(a.1,a.2.1,a.2.2.1,a.2.2.2.1,a.2.2.2.2.1,a.2.2.2.2.2.1,a.2.2.2.2.2.2.1,a.2.2.2.2.2.2.2.1,a.2.2.2.2.2.2.2.2.1,f,d,a.2.2.2.2.2.2.2.2.2.2.2)
def yY (a:dA):Bool×dA:=bif downA a then (false,a) else bif a.2.2.2.2.2.2.2.2.2.1==0 then (false,yZf a (-1) true) else bif ltb 0 a.2.2.2.2.2.2.2.2.2.1 then (true,yZf a (IntKind.i64.wrap (a.2.2.2.2.2.2.2.2.2.1 - 1)) (downA a)) else (true,a)
def setMem (a:dA) (m:Int) (x:dM):dA:=(a.1,a.2.1,a.2.2.1.set m.toNat x,a.2.2.2)
def ybo (a:dA) (m n:Int) (s:List Int):dA:=bif (nth a.2.2.1 m noMem).2.2.1 then a else bif (yY a).1 then setMem (yY a).2 m (yG (nth a.2.2.1 m noMem) n s).1 else (yY a).2
def yC (a:dA) (i:Nat):dA:=bif (nth a.2.2.1 i noMem).2.2.1 then a else bif (yY a).1 then setMem (yY a).2 i (yq (nth a.2.2.1 i noMem)) else (yY a).2
def yn (a:dA):dA:=(List.range a.2.2.1.length).foldl yC a
def yLK (a:dA) (i:Int):dS:=(a.1,a.2.2.2.2.2.2.2.1,i,a.2.1.1,a.2.1.2,a.2.2.2.2.2.2.1,a.2.2.2.1,a.2.2.2.2.1)
def yP (a:dA) (i:Nat):dA:=ybo a i (a.2.2.2.2.2.2.2.1.tmod 2) (yz (yLK a i))
def yaa (a:dA):dA:=(a.1,a.2.1,a.2.2.1,a.2.2.2.1,a.2.2.2.2.1,a.2.2.2.2.2.1,a.2.2.2.2.2.2.1,IntKind.i64.wrap (a.2.2.2.2.2.2.2.1+1),a.2.2.2.2.2.2.2.2)
def markA (a:dA):dA:=yn ((List.range a.2.2.1.length).foldl yP (yaa a))
theorem yU (a:dA):(yY a).2.2.2.1=a.2.2.1:=by
 unfold yY
 cases downA a
 ·cases (a.2.2.2.2.2.2.2.2.2.1==0)
  ·cases ltb 0 a.2.2.2.2.2.2.2.2.2.1<;>rfl
  ·rfl
 ·rfl
theorem yW2 {a:dA} (h:downA a=false):downA (yY a).2= !(yY a).1:=by
 unfold yY
 rw [h]
 cases (a.2.2.2.2.2.2.2.2.2.1==0)
 ·cases ltb 0 a.2.2.2.2.2.2.2.2.2.1
  ·exact h
  ·rfl
 ·rfl
theorem y0W {a:dA} (h:downA a=true):yY a=(false,a):=by unfold yY; rw [h]; rfl
theorem ynw (a:dA) (m n:Int) (s:List Int):(ybo a m n s).2.2.1.length=a.2.2.1.length:=by
 unfold ybo
 cases (nth a.2.2.1 m noMem).2.2.1
 ·cases (yY a).1
  ·show (yY a).2.2.2.1.length=_; rw [yU]
  ·show ((yY a).2.2.2.1.set m.toNat _).length=_; rw [List.length_set,yU]
 ·rfl
theorem yjI (a:dA) (i:Nat):(yC a i).2.2.1.length=a.2.2.1.length:=by
 unfold yC
 cases (nth a.2.2.1 i noMem).2.2.1
 ·cases (yY a).1
  ·show (yY a).2.2.2.1.length=_; rw [yU]
  ·show ((yY a).2.2.2.1.set _ _).length=_; rw [List.length_set,yU]
 ·rfl
theorem yjz {one:dA→Nat→dA} (h: ∀ a i,(one a i).2.2.1.length=a.2.2.1.length): ∀ (l:List Nat) (a:dA),(l.foldl one a).2.2.1.length=a.2.2.1.length
 | [],_=>rfl
 | x::l,a=>by rw [List.foldl_cons,yjz h l,h]
theorem yxg (a:dA):(yn a).2.2.1.length=a.2.2.1.length:=yjz yjI _ _
theorem yw4 {a:dA} (h:downA a=true) (m n:Int) (s:List Int):ybo a m n s=a:=by
 unfold ybo
 rw [y0W h]
 cases (nth a.2.2.1 m noMem).2.2.1<;>rfl
theorem yC0 {a:dA} (i:Nat) (h:downA a=true):yC a i=a:=by
 unfold yC
 rw [y0W h]
 cases (nth a.2.2.1 i noMem).2.2.1<;>rfl
theorem yya {one:dA→Nat→dA} (hs: ∀ a i,downA a=true→one a i=a): ∀ (l:List Nat) (a:dA),downA a=true→l.foldl one a=a
 | [],_,_=>rfl
 | x::l,a,h=>by rw [List.foldl_cons,hs a x h]; exact yya hs l a h
theorem yER {a:dA} (h:downA a=true):yn a=a:=yya (fun _ i h=>yC0 i h) _ a h
theorem y0b {a:dA} (h:downA a=false) (m n:Int) (s:List Int):downA (ybo a m n s)=(!(nth a.2.2.1 m noMem).2.2.1&& !(yY a).1):=by
 have:=yW2 h
 unfold ybo
 cases (nth a.2.2.1 m noMem).2.2.1
 ·cases ho:(yY a).1
  ·rw [ho]at this; exact this
  ·rw [ho]at this; exact this
 ·exact h
theorem yLs {a:dA} (h:downA a=false) (i:Nat):downA (yC a i)=(!(nth a.2.2.1 i noMem).2.2.1&& !(yY a).1):=by
 have:=yW2 h
 unfold yC
 cases (nth a.2.2.1 i noMem).2.2.1
 ·cases ho:(yY a).1
  ·rw [ho]at this; exact this
  ·rw [ho]at this; exact this
 ·exact h
theorem yCm {one:dA→Nat→dA} (hs: ∀ a i,downA a=true→one a i=a): ∀ (k i:Nat) (s:dA),goE (fun i s=>bif downA (one s i) then (.inr (one s i):dA ⊕ dA) else .inl (one s i)) id k i s=(List.range' i k).foldl one s
 | 0,_,_=>rfl
 | k+1,i,s=>by
  rw [List.range'_succ,List.foldl_cons,goE]
  cases hd:downA (one s i)
  ·exact yCm hs k (i+1) (one s i)
  ·exact (yya hs _ _ hd).symm
def yex (a:dA) (m:Int):dA:=(a.1,a.2.1,a.2.2.1.set m.toNat (yle (nth a.2.2.1 m noMem)),m,0,a.2.2.2.2.2)
def ySo (a:dA) (m:Int):dA:=(a.1,a.2.1,a.2.2.1.set m.toNat (yle (nth a.2.2.1 m noMem)),a.2.2.2.1,a.2.2.2.2.1,a.2.2.2.2.2.1,a.2.2.2.2.2.2.1,a.2.2.2.2.2.2.2.1,a.2.2.2.2.2.2.2.2.1,a.2.2.2.2.2.2.2.2.2.1,a.2.2.2.2.2.2.2.2.2.2.1,true)
def failOne (a:dA) (m:Int):dA:=bif a.2.2.2.1== -1||a.2.2.2.1==m then (bif !(downA a)&&(!a.2.2.2.2.2.2.2.2.2.2.2&&ltb a.2.2.2.2.2.2.2.1 60000) then markA (yex a m) else yex a m) else ySo a m
def y3Z (a:dA) (m:Int):dA:=bif yw a&&(inb m a.2.2.1.length&& !(nth a.2.2.1 m noMem).2.2.1) then failOne a m else a
theorem y0c {a:dA} {m n:Int} {s:List Int} (h:yat a.2.2.1) (hm:inb m a.2.2.1.length=true):yat (ybo a m n s).2.2.1:=by
 unfold ybo
 cases (nth a.2.2.1 m noMem).2.2.1
 ·cases (yY a).1
  ·show yat (yY a).2.2.2.1; rw [yU]; exact h
  ·show yat ((yY a).2.2.2.1.set m.toNat _); rw [yU]; exact yHo h (yRf _ _ (yXB h hm))
 ·exact h
theorem y0g {a:dA} {i:Nat} (h:yat a.2.2.1) (hi:i < a.2.2.1.length):yat (yC a i).2.2.1:=by
 unfold yC
 cases (nth a.2.2.1 i noMem).2.2.1
 ·cases (yY a).1
  ·show yat (yY a).2.2.2.1; rw [yU]; exact h
  ·show yat ((yY a).2.2.2.1.set _ _); rw [yU]; exact yHo h (yZL (yXB h (zkO hi)))
 ·exact h
theorem yJ6 {one:dA→Nat→dA} (hl: ∀ a i,(one a i).2.2.1.length=a.2.2.1.length) (ho: ∀ a i,yat a.2.2.1→i < a.2.2.1.length→yat (one a i).2.2.1): ∀ (n:Nat) (a:dA),n≤a.2.2.1.length→yat a.2.2.1→yat ((List.range n).foldl one a).2.2.1
 | 0,_,_,h=>h
 | n+1,a,hn,h=>by
  rw [List.range_succ,List.foldl_append]
  exact ho _ _ (yJ6 hl ho n a (by omega) h) (by rw [yjz hl]; exact hn)
theorem yEQ {a:dA} (h:yat a.2.2.1):yat (yn a).2.2.1:=yJ6 yjI (fun _ _=>y0g) _ a (Nat.le_refl _) h
theorem yKA {a:dA} (h:yat a.2.2.1):yat (markA a).2.2.1 :=
 yEQ (yJ6 (one:=yP) (fun _ _=>ynw _ _ _ _) (fun _ _ h hi=>y0c h (zkO hi)) _ (yaa a) (Nat.le_refl _) h)
theorem yPB (a:dA):(markA a).2.2.1.length=a.2.2.1.length:=(yxg _).trans (yjz (one:=yP) (fun _ _=>ynw _ _ _ _) _ (yaa a))
theorem yHp (a:dA):(yY a).2.2.2.2.2.2.2.2.2.1=a.2.2.2.2.2.2.2.2.1:=by
 unfold yY
 cases downA a
 ·cases (a.2.2.2.2.2.2.2.2.2.1==0)
  ·cases ltb 0 a.2.2.2.2.2.2.2.2.2.1<;>rfl
  ·rfl
 ·rfl
theorem yXC (a:dA) (m n:Int) (s:List Int):(ybo a m n s).2.2.2.2.2.2.2.2.1=a.2.2.2.2.2.2.2.2.1:=by
 unfold ybo
 cases (nth a.2.2.1 m noMem).2.2.1
 ·cases (yY a).1
  ·exact yHp a
  ·exact yHp a
 ·rfl
theorem yZa (a:dA) (i:Nat):(yC a i).2.2.2.2.2.2.2.2.1=a.2.2.2.2.2.2.2.2.1:=by
 unfold yC
 cases (nth a.2.2.1 i noMem).2.2.1
 ·cases (yY a).1
  ·exact yHp a
  ·exact yHp a
 ·rfl
theorem yGV {one:dA→Nat→dA} (h: ∀ a i,(one a i).2.2.2.2.2.2.2.2.1=a.2.2.2.2.2.2.2.2.1): ∀ (l:List Nat) (a:dA),(l.foldl one a).2.2.2.2.2.2.2.2.1=a.2.2.2.2.2.2.2.2.1
 | [],_=>rfl
 | x::l,a=>by rw [List.foldl_cons,yGV h l,h]
theorem yAO (a:dA):(yn a).2.2.2.2.2.2.2.2.1=a.2.2.2.2.2.2.2.2.1:=yGV yZa _ _
theorem yG8 (a:dA):(markA a).2.2.2.2.2.2.2.2.1=a.2.2.2.2.2.2.2.2.1:=(yAO _).trans (yGV (one:=yP) (fun _ _=>yXC _ _ _ _) _ (yaa a))
theorem yXf {a x:dA} (ha:yyW a≤2097152) (hl:x.2.2.1.length≤5) (hm:yat x.2.2.1) (hd:x.2.2.2.2.2.2.2.2.1=a.2.2.2.2.2.2.2.2.1):yyW x≤2105000:=by
 have:=yLa hm
 have:x.2.2.1.length * 1041≤5 * 1041:=Nat.mul_le_mul_right _ hl
 unfold yyW at ha ⊢
 rw [hd]
 omega
theorem yZh {a:dA} (h:yw a=true):a.2.2.1.length≤5:=by
 have h1:=yi.1 (ydV h)
 have h2:=ytV h
 omega
def yb7 (n:Int):dM:=bif leb 1 n&&leb n 20 then (List.replicate n.toNat [],[],false,[]) else noMem
theorem yKB {n:Int} (h1:1≤n) (h2:n≤20):yl (yb7 n)=true:=by
 unfold yb7
 rw [zk0 h1,zk0 h2]
 refine ytf ?_ rfl rfl ?_ ?_ (Nat.zero_le _)
 ·show (List.replicate n.toNat ([]:List Int)).all yab=true
  rw [List.all_eq_true]
  intro x hx
  rw [(List.mem_replicate.1 hx).2]; rfl
 ·show 1≤(List.replicate n.toNat ([]:List Int)).length; rw [List.length_replicate]; omega
 ·show (List.replicate n.toNat ([]:List Int)).length≤20; rw [List.length_replicate]; omega
def spareNew (a:dA):dA:=(a.1,a.2.1,a.2.2.1.set a.2.2.2.1.toNat (yb7 (6+a.2.1.2)),a.2.2.2.1,0,a.2.2.2.2.2)
def yfc (a:dA):dA×Int :=
 bif !(yw a) then (a,1) else bif downA a then (a,6) else bif a.2.2.2.1== -1|| !((nth a.2.2.1 a.2.2.2.1 noMem).2.2.1) then (a,2) else bif a.2.2.2.2.2.2.2.2.2.2.2 then (a,5) else bif leb 59990 a.2.2.2.2.2.2.2.1 then (a,7)
 else (markA (spareNew a),bif downA (markA (spareNew a)) then 6 else 0)
theorem y13 {a:dA} (h:yw a=true): -1≤a.2.2.2.1∧a.2.2.2.1≤a.2.1.1 - 1:=by
 simp only [yw,Bool.and_eq_true,zjQ]at h
 exact h.2.2.2.2.1
theorem y2W {a:dA} (h:yw a=true) (h2:a.2.2.2.1≠ -1):inb a.2.2.2.1 a.2.2.1.length=true:=by
 have:=y13 h
 have:=ytV h
 exact zjP.2 (by omega)
theorem y0J {a:dA} (h:yw a=true):yat (spareNew a).2.2.1∧(spareNew a).2.2.1.length=a.2.2.1.length:=by
 have hg:=yi.1 (ydV h)
 exact ⟨yHo (yGQ h) (yKB (by omega) (by omega)),List.length_set⟩
def yaq (a:dA):dA:=(a.1,a.2.1,a.2.2.1,a.2.2.2.1,a.2.2.2.2.1,a.2.2.2.2.2.1,a.2.2.2.2.2.1,a.2.2.2.2.2.2.2)
def checkA (a:dA):dA:=bif downA (yn a) then yn a else markA (yaq (yn a))
theorem yR2 {a:dA} (h:yat a.2.2.1):yat (checkA a).2.2.1:=by
 unfold checkA
 cases downA (yn a)
 ·exact yKA (a:=yaq (yn a)) (yEQ h)
 ·exact yEQ h
theorem ytZ (a:dA):(checkA a).2.2.1.length=a.2.2.1.length:=by
 unfold checkA
 cases downA (yn a)
 ·exact (yPB (yaq (yn a))).trans (yxg a)
 ·exact yxg a
theorem yxo (a:dA):(checkA a).2.2.2.2.2.2.2.2.1=a.2.2.2.2.2.2.2.2.1:=by
 unfold checkA
 cases downA (yn a)
 ·exact (yG8 (yaq (yn a))).trans (yAO a)
 ·exact yAO a
def ys7 (b:dA):dA:=(b.1,b.2.1,b.2.2.1,-1,0,b.2.2.2.2.2)
def yBk (a:dA):dA×Int:=bif downA (checkA a) then (checkA a,6) else (markA (ys7 (checkA a)),bif downA (markA (ys7 (checkA a))) then 6 else 0)
def yBj (a:dA):dA×Int :=
 bif !(yw a) then (a,1) else bif downA a then (a,6) else bif a.2.2.2.1== -1||((nth a.2.2.1 a.2.2.2.1 noMem).2.2.1||ltb a.2.2.2.2.1 a.2.1.2) then (a,2) else bif a.2.2.2.2.2.2.2.2.2.2.2 then (a,5) else bif leb 59990 a.2.2.2.2.2.2.2.1 then (a,7) else yBk a
theorem y3t {a:dA} (ha:yyW a≤2097152):yyW (yBj a).1≤2105000:=by
 have h0:yyW a≤2105000:=by omega
 unfold yBj
 cases hk:yw a
 ·exact h0
 have h5:=yZh hk
 have hc:=yR2 (yGQ hk)
 have hn:=yXf (x:=markA (ys7 (checkA a))) ha (by rw [yPB,show (ys7 (checkA a)).2.2.1=(checkA a).2.2.1 from rfl,ytZ]; exact h5) (yKA (a:=ys7 (checkA a)) hc) ((yG8 _).trans (yxo a))
 have hn2:=yXf (x:=checkA a) ha (by rw [ytZ]; exact h5) hc (yxo a)
 cases downA a
 ·cases (a.2.2.2.1== -1||((nth a.2.2.1 a.2.2.2.1 noMem).2.2.1||ltb a.2.2.2.2.1 a.2.1.2))
  ·cases a.2.2.2.2.2.2.2.2.2.2.2
   ·cases leb 59990 a.2.2.2.2.2.2.2.1
    ·show yyW (yBk a).1≤_
     unfold yBk
     cases downA (checkA a)
     ·exact hn
     ·exact hn2
    ·exact h0
   ·exact h0
  ·exact h0
 ·exact h0
def yZ3 (id:Int) (g:dG) (i:Int):dS:=(id,0,i,g.1,g.2,0,-1,0)
def yua (m:dM) (s:Nat):dM:=(m.1.set (s+6) [0],m.2)
def ylx (id:Int) (g:dG) (i:Int):dM:=((yb7 (6+g.2)).1.set 0 (yz (yZ3 id g i)),(yb7 (6+g.2)).2)
def yB (id:Int) (g:dG) (i:Int):dM:=(List.range g.2.toNat).foldl yua (ylx id g i)
def yBi (a:dA) (m:dM):dA:=(a.1,a.2.1,a.2.2.1++ [m],a.2.2.2)
def yBo (id:Int) (g:dG):dA:=(id,g,[],-1,0,0,0,0,[],-1,false,false)
def ym8 (id:Int) (g:dG):dA:=bif yc g&&(leb 1 id&&leb id 60000) then (List.range g.1.toNat).foldl (fun a (i:Nat)=>yBi a (yB id g i)) (yBo id g) else ydv
theorem yN1 (l:List Nat) (m:dM):(l.foldl yua m).1.length=m.1.length:=by
 induction l generalizing m with
 | nil=>rfl
 | cons x t ih=>rw [List.foldl_cons,ih]; show (m.1.set _ _).length=_; rw [List.length_set]
def yo (a:dA):Int×(Int×Int)×Int×Int×Int×Int×Int×List dW×Bool:=(a.1,a.2.1,a.2.2.2.1,a.2.2.2.2.1,a.2.2.2.2.2.1,a.2.2.2.2.2.2.1,a.2.2.2.2.2.2.2.1,a.2.2.2.2.2.2.2.2.1,a.2.2.2.2.2.2.2.2.2.2.2)
theorem yGE (a:dA):yo (yY a).2=yo a:=by
 unfold yY
 cases downA a
 ·cases (a.2.2.2.2.2.2.2.2.2.1==0)
  ·cases ltb 0 a.2.2.2.2.2.2.2.2.2.1<;>rfl
  ·rfl
 ·rfl
theorem ypX (a:dA) (m n:Int) (s:List Int):yo (ybo a m n s)=yo a:=by
 unfold ybo
 cases (nth a.2.2.1 m noMem).2.2.1
 ·cases (yY a).1
  ·exact yGE a
  ·exact yGE a
 ·rfl
theorem yLr (a:dA) (i:Nat):yo (yC a i)=yo a:=by
 unfold yC
 cases (nth a.2.2.1 i noMem).2.2.1
 ·cases (yY a).1
  ·exact yGE a
  ·exact yGE a
 ·rfl
theorem yx9 {one:dA→Nat→dA} (h: ∀ a i,yo (one a i)=yo a): ∀ (l:List Nat) (a:dA),yo (l.foldl one a)=yo a
 | [],_=>rfl
 | x::l,a=>by rw [List.foldl_cons,yx9 h l,h]
theorem ycZ (a:dA):yo (yn a)=yo a:=yx9 yLr _ _
theorem ylL (a:dA):yo (markA a)=yo (yaa a):=(ycZ _).trans (yx9 (one:=yP) (fun _ _=>ypX _ _ _ _) _ _)
theorem yaf {a b:dA} (h:yo a=yo b):a.2.1=b.2.1:=congrArg (fun x=>x.2.1) h
theorem yah {a b:dA} (h:yo a=yo b):a.2.2.2.2.1=b.2.2.2.2.1:=congrArg (fun x=>x.2.2.2.1) h
theorem yR3 {a b:dA} (h:yo a=yo b):a.2.2.2.2.2.2.2.2.1=b.2.2.2.2.2.2.2.2.1:=congrArg (fun x=>x.2.2.2.2.2.2.2.1) h
def ybe (d:List dW) (x:dA):Prop:=x.2.2.1.length≤5∧yat x.2.2.1∧x.2.2.2.2.2.2.2.2.1=d
theorem yCw {a:dA} (h:yw a=true):ybe a.2.2.2.2.2.2.2.2.1 a:=⟨yZh h,yGQ h,rfl⟩
theorem yP7 {d:List dW} {a:dA} {m n:Int} {s:List Int} (h:ybe d a) (hm:inb m a.2.2.1.length=true):ybe d (ybo a m n s):=⟨by rw [ynw]; exact h.1,y0c h.2.1 hm,(yXC _ _ _ _).trans h.2.2⟩
theorem y1M {d:List dW} {a:dA} (h:ybe d a):ybe d (yn a):=⟨by rw [yxg]; exact h.1,yEQ h.2.1,(yAO _).trans h.2.2⟩
theorem yXA {d:List dW} {a:dA} (h:ybe d a):ybe d (markA a):=⟨by rw [yPB]; exact h.1,yKA h.2.1,(yG8 _).trans h.2.2⟩
theorem yTj {d:List dW} {a:dA} (h:ybe d a):ybe d (checkA a):=⟨by rw [ytZ]; exact h.1,yR2 h.2.1,(yxo _).trans h.2.2⟩
theorem y1k {d:List dW} {x:dA} (h:ybe d x):yyW x≤y2F d+5205:=by
 have:=yLa h.2.1
 have:x.2.2.1.length * 1041≤5 * 1041:=Nat.mul_le_mul_right _ h.1
 unfold yyW
 rw [h.2.2]
 omega
theorem y3U {a x:dA} (ha:yyW a≤2097152) (h:ybe a.2.2.2.2.2.2.2.2.1 x):yyW x≤2105000:=by
 have:=y1k h
 unfold yyW at ha
 omega
theorem yTi {d:List dW} {a:dA} (h:ybe d a):ybe d (yBj a).1:=by
 have hn:ybe d (markA (ys7 (checkA a))):=yXA (a:=ys7 (checkA a)) (yTj h)
 unfold yBj
 cases yw a
 ·exact h
 cases downA a
 ·cases (a.2.2.2.1== -1||((nth a.2.2.1 a.2.2.2.1 noMem).2.2.1||ltb a.2.2.2.2.1 a.2.1.2))
  ·cases a.2.2.2.2.2.2.2.2.2.2.2
   ·cases leb 59990 a.2.2.2.2.2.2.2.1
    ·show ybe d (yBk a).1
     unfold yBk
     cases downA (checkA a)
     ·exact hn
     ·exact yTj h
    ·exact h
   ·exact h
  ·exact h
 ·exact h
def y1P (b:dA):dA:=(b.1,b.2.1,b.2.2.1,b.2.2.2.1,IntKind.i64.wrap (b.2.2.2.2.1+1),b.2.2.2.2.2)
def yZ (a:dA):dA:=ybo a a.2.2.2.1 (dataAt a.2.2.2.2.1) [nth (yE a a.2.2.2.2.1).1 a.2.2.2.1 0]
def stepOne (a:dA):Int×dA:=bif (yE a a.2.2.2.2.1).2 then (bif downA (yZ a) then (6,yZ a) else (0,y1P (yZ a))) else (5,a)
def ydW (a:dA):dA×Int :=
 bif !(yw a) then (a,1) else bif downA a then (a,6) else bif a.2.2.2.1== -1||((nth a.2.2.1 a.2.2.2.1 noMem).2.2.1||leb a.2.1.2 a.2.2.2.2.1) then (a,2) else bif a.2.2.2.2.2.2.2.2.2.2.2 then (a,5) else ((stepOne a).2,(stepOne a).1)
def yAE:Nat→dA→dA×Int
 | 0,a=>(a,0)
 | n+1,a=>bif ltb a.2.2.2.2.1 a.2.1.2 then (bif (ydW a).2 !=0 then ydW a else yAE n (ydW a).1) else (a,0)
def yGR (a:dA):dA×Int:=bif (yfc a).2 !=0 then yfc a else bif (yAE 8 (yfc a).1).2 !=0 then yAE 8 (yfc a).1 else yBj (yAE 8 (yfc a).1).1
theorem y1u {a:dA} (h:yw a=true):0≤a.2.2.2.2.1∧a.2.2.2.2.1≤a.2.1.2:=by
 simp only [yw,Bool.and_eq_true,zjQ]at h
 exact h.2.2.2.2.2.1
theorem y1L {d:List dW} {a:dA} (h:ybe d a) (hl:inb a.2.2.2.1 a.2.2.1.length=true):ybe d (stepOne a).2:=by
 unfold stepOne
 have hp:ybe d (yZ a):=yP7 h hl
 cases (yE a a.2.2.2.2.1).2
 ·exact h
 ·cases downA (yZ a)
  ·exact hp
  ·exact hp
theorem ywY {d:List dW} {a:dA} (h:ybe d a):ybe d (ydW a).1:=by
 unfold ydW
 cases ha:yw a
 ·exact h
 cases downA a
 ·cases hl:(a.2.2.2.1== -1)
  ·cases ((nth a.2.2.1 a.2.2.2.1 noMem).2.2.1||leb a.2.1.2 a.2.2.2.2.1)
   ·cases a.2.2.2.2.2.2.2.2.2.2.2
    ·exact y1L h (y2W ha (beq_eq_false_iff_ne.1 hl))
    ·exact h
   ·exact h
  ·exact h
 ·exact h
theorem yP6 {d:List dW}: ∀ {n:Nat} {a:dA},ybe d a→ybe d (yAE n a).1
 | 0,_,h=>h
 | n+1,a,h=>by
  unfold yAE
  cases ltb a.2.2.2.2.1 a.2.1.2
  ·exact h
  ·cases ((ydW a).2 !=0)
   ·exact yP6 (ywY h)
   ·exact ywY h
theorem yAL {d:List dW} {a:dA} (h:ybe d a):ybe d (yfc a).1:=by
 unfold yfc
 cases ha:yw a
 ·exact h
 have hs:=y0J ha
 cases downA a
 ·cases (a.2.2.2.1== -1|| !((nth a.2.2.1 a.2.2.2.1 noMem).2.2.1))
  ·cases a.2.2.2.2.2.2.2.2.2.2.2
   ·cases leb 59990 a.2.2.2.2.2.2.2.1
    ·exact yXA (a:=spareNew a) ⟨by rw [hs.2]; exact h.1,hs.1,h.2.2⟩
    ·exact h
   ·exact h
  ·exact h
 ·exact h
theorem yYu {d:List dW} {a:dA} (h:ybe d a):ybe d (yGR a).1:=by
 unfold yGR
 cases ((yfc a).2 !=0)
 ·cases ((yAE 8 (yfc a).1).2 !=0)
  ·exact yTi (yP6 (yAL h))
  ·exact yP6 (yAL h)
 ·exact yAL h
theorem y3T {a:dA} (h:(ydW a).2=0):yw a=true∧a.2.2.2.2.1 < a.2.1.2∧(ydW a).1.2.1=a.2.1∧(ydW a).1.2.2.2.2.1=a.2.2.2.2.1+1:=by
 unfold ydW at h ⊢
 cases ha:yw a
 ·rw [ha]at h; exact absurd (show (1:Int)=0 from h) (by decide)
 rw [ha]at h
 have hg:=yi.1 (ydV ha)
 have hb:=y1u ha
 cases hd:downA a
 ·rw [hd]at h
  cases hc:(a.2.2.2.1== -1||((nth a.2.2.1 a.2.2.2.1 noMem).2.2.1||leb a.2.1.2 a.2.2.2.2.1))
  ·rw [hc]at h
   simp only [Bool.or_eq_false_iff]at hc
   have hS:a.2.2.2.2.1 < a.2.1.2:=by
    rcases Int.lt_or_le a.2.2.2.2.1 a.2.1.2 with h1 | h1
    ·exact h1
    ·have:=hc.2.2; rw [zk0 h1]at this; cases this
   cases hbr:a.2.2.2.2.2.2.2.2.2.2.2
   ·rw [hbr]at h
    simp only [Bool.not_true,cond_false]at h ⊢
    unfold stepOne at h ⊢
    cases hw:(yE a a.2.2.2.2.1).2
    ·rw [hw]at h; exact absurd (show (5:Int)=0 from h) (by decide)
    ·rw [hw]at h
     cases hp:downA (yZ a)
     ·have hc2:=ypX a a.2.2.2.1 (dataAt a.2.2.2.2.1) [nth (yE a a.2.2.2.2.1).1 a.2.2.2.1 0]
      refine ⟨trivial,hS,(show (yZ a).2.1=a.2.1 from yaf hc2),?_⟩
      show IntKind.i64.wrap ((yZ a).2.2.2.2.1+1)=_
      rw [show (yZ a).2.2.2.2.1=a.2.2.2.2.1 from yah hc2,wr (by omega) (by omega)]
     ·rw [hp]at h; exact absurd (show (6:Int)=0 from h) (by decide)
   ·rw [hbr]at h; exact absurd (show (5:Int)=0 from h) (by decide)
  ·rw [hc]at h; exact absurd (show (2:Int)=0 from h) (by decide)
 ·rw [hd]at h; exact absurd (show (6:Int)=0 from h) (by decide)
theorem y38 {n:Nat} {a:dA} (h:ltb a.2.2.2.2.1 a.2.1.2=false):yAE n a=(a,0):=by
 cases n
 ·rfl
 ·unfold yAE; rw [h]; rfl
theorem y3A {a:dA} (h:(yfc a).2=0):(yfc a).1.2.1=a.2.1∧(yfc a).1.2.2.2.2.1=0∧yc a.2.1=true:=by
 unfold yfc at h ⊢
 cases ha:yw a
 ·rw [ha]at h; exact absurd (show (1:Int)=0 from h) (by decide)
 rw [ha]at h
 cases hd:downA a
 ·rw [hd]at h
  cases hc:(a.2.2.2.1== -1|| !((nth a.2.2.1 a.2.2.2.1 noMem).2.2.1))
  ·rw [hc]at h
   cases hb:a.2.2.2.2.2.2.2.2.2.2.2
   ·rw [hb]at h
    cases hg:leb 59990 a.2.2.2.2.2.2.2.1
    ·have hm:=ylL (spareNew a)
     exact ⟨(show (markA (spareNew a)).2.1=(yaa (spareNew a)).2.1 from yaf hm),(show (markA (spareNew a)).2.2.2.2.1=(yaa (spareNew a)).2.2.2.2.1 from yah hm),ydV ha⟩
    ·rw [hg]at h; exact absurd (show (7:Int)=0 from h) (by decide)
   ·rw [hb]at h; exact absurd (show (5:Int)=0 from h) (by decide)
  ·rw [hc]at h; exact absurd (show (2:Int)=0 from h) (by decide)
 ·rw [hd]at h; exact absurd (show (6:Int)=0 from h) (by decide)
def yyX (lost:Int) (br:Bool) (S:Int) (i:Nat) (m:dM):Prop:=yl m=true∧(m.1.length:Int)=6+S∧(m.2.2.1=true→(i:Int)=lost∨br=true)
def yG9 (lost:Int) (br:Bool) (S:Int) (l:List dM):Prop:= ∀ i,i < l.length→yyX lost br S i (nth l i noMem)
theorem yyr {lost S:Int} {br:Bool} {l:List dM} {i:Nat} {x:dM} (h:yG9 lost br S l) (hx:i < l.length→yyX lost br S i x):yG9 lost br S (l.set i x):=fun j hj=>by
 rw [List.length_set]at hj
 by_cases e:j=i
 ·subst e
  rw [zjW,zcq (by rw [List.length_set]; exact hj),List.getElem_set_self]; exact hx hj
 ·have:=h j hj
  rw [zjW,zcq hj]at this
  rw [zjW,zcq (by rw [List.length_set]; exact hj),List.getElem_set_ne (fun e'=>e e'.symm)]; exact this
theorem y1j {a:dA}:ync a=true↔yG9 a.2.2.2.1 a.2.2.2.2.2.2.2.2.2.2.2 a.2.1.2 a.2.2.1∧(a.2.2.1.length:Int)=a.2.1.1:=by
 constructor
 ·intro h
  refine ⟨fun i hi=>yXw h hi,?_⟩
  simp only [ync,Bool.and_eq_true,beq_iff_eq]at h; exact h.2
 ·rintro ⟨h1,h2⟩
  simp only [ync,Bool.and_eq_true,beq_iff_eq,Bool.not_eq_true',List.any_eq_false,List.mem_range]
  refine ⟨fun i hi=> ?_,h2⟩
  obtain ⟨g1,g2,g3⟩:=h1 i hi
  unfold yhw
  rw [g1,show (((nth a.2.2.1 i noMem).1.length:Int) !=6+a.2.1.2)=false from bne_eq_false_iff_eq.2 g2]
  cases hf:(nth a.2.2.1 i noMem).2.2.1
  ·simp
  ·rcases g3 hf with e | e
   ·rw [show ((i:Int) !=a.2.2.2.1)=false from bne_eq_false_iff_eq.2 e]; simp
   ·rw [e]; simp
def fuz (a:dA):Int:=a.2.2.2.2.2.2.2.2.2.1
def Keep (a:dA):Prop:=(yG9 a.2.2.2.1 a.2.2.2.2.2.2.2.2.2.2.2 a.2.1.2 a.2.2.1∧(a.2.2.1.length:Int)=a.2.1.1)∧ -1≤fuz a∧fuz a≤1000
def coreOk (a:dA):Prop:=yc a.2.1=true∧(1≤a.1∧a.1≤60000)∧yaI a.2.1 a.2.2.2.2.2.2.2.2.1=true∧(-1≤a.2.2.2.1∧a.2.2.2.1≤a.2.1.1 - 1)∧(0≤a.2.2.2.2.1∧a.2.2.2.2.1≤a.2.1.2)∧(a.2.2.2.1= -1→a.2.2.2.2.1=0) ∧
 (0≤a.2.2.2.2.2.2.1∧a.2.2.2.2.2.2.1≤60000)∧(a.2.2.2.2.2.2.1≤a.2.2.2.2.2.1∧a.2.2.2.2.2.1≤60000)∧a.2.2.2.2.2.1≤a.2.2.2.2.2.2.1+4∧0≤a.2.2.2.2.2.2.2.1∧a.2.2.2.2.2.2.2.1≤60000
theorem yLx {a:dA}:yw a=true↔coreOk a∧Keep a:=by
 unfold yw coreOk Keep fuz
 simp only [Bool.and_eq_true,zjQ,y1j,Bool.not_eq_true',Bool.and_eq_false_iff,beq_eq_false_iff_ne,bne_eq_false_iff_eq]
 constructor
 ·rintro ⟨h1,h2,h3,h4,h5,h6,h7,h8,h9,h10,h11,h12⟩
  exact ⟨⟨h1,h2,h4,h5,h6,fun e=>h7.resolve_left (fun g=>g e),h8,h9,h10,h11.1,h11.2⟩,h3,h12⟩
 ·rintro ⟨⟨h1,h2,h4,h5,h6,h7,h8,h9,h10,h11,h11'⟩,h3,h12⟩
  exact ⟨h1,h2,h3,h4,h5,h6,(Decidable.em (a.2.2.2.1= -1)).elim (fun e=> .inr (h7 e)) (fun e=> .inl e),h8,h9,h10,⟨h11,h11'⟩,h12⟩
theorem yLA {a b:dA} (h:yo b=yo a) (ha:coreOk a):coreOk b:=by
 unfold yo at h
 simp only [Prod.mk.injEq]at h
 obtain ⟨h1,h2,h3,h4,h5,h6,h7,h8,h9⟩:=h
 unfold coreOk at *
 rw [h1,h2,h3,h4,h5,h6,h7,h8]; exact ha
theorem y2V {a b:dA} (h:yo b=yo a) (hl:b.2.2.1.length=a.2.2.1.length) (hm:yG9 a.2.2.2.1 a.2.2.2.2.2.2.2.2.2.2.2 a.2.1.2 b.2.2.1) (hn:(a.2.2.1.length:Int)=a.2.1.1) (hf: -1≤fuz b∧fuz b≤1000):Keep b:=by
 unfold yo at h
 simp only [Prod.mk.injEq]at h
 obtain ⟨h1,h2,h3,h4,h5,h6,h7,h8,h9⟩:=h
 unfold Keep
 rw [h2,h3,h9,hl]; exact ⟨⟨hm,hn⟩,hf⟩
theorem y3h {a:dA} (h: -1≤fuz a∧fuz a≤1000): -1≤fuz (yY a).2∧fuz (yY a).2≤1000:=by
 unfold yY
 cases downA a
 ·cases h0:(a.2.2.2.2.2.2.2.2.2.1==0)
  ·cases h1:ltb 0 a.2.2.2.2.2.2.2.2.2.1
   ·exact h
   ·have:=zjT.1 h1
    unfold fuz at h
    show -1≤IntKind.i64.wrap (a.2.2.2.2.2.2.2.2.2.1 - 1)∧IntKind.i64.wrap (a.2.2.2.2.2.2.2.2.2.1 - 1)≤1000
    rw [wr (by omega) (by omega)]; omega
  ·show -1≤(-1:Int)∧(-1:Int)≤1000; omega
 ·exact h
theorem yLG {a:dA} (h:Keep a):Keep (yY a).2:=y2V (yGE a) (by rw [yU]) (by rw [yU]; exact h.1.1) h.1.2 (y3h h.2)
theorem yxq {a:dA} {m:Int} {x:dM} (h:Keep a) (hm:inb m a.2.2.1.length=true) (hx:yyX a.2.2.2.1 a.2.2.2.2.2.2.2.2.2.2.2 a.2.1.2 m.toNat (nth a.2.2.1 m noMem)→yyX a.2.2.2.1 a.2.2.2.2.2.2.2.2.2.2.2 a.2.1.2 m.toNat x):Keep (setMem a m x):=by
 have hm:=zjP.1 hm
 refine ⟨⟨yyr h.1.1 (fun hi=>hx ?_),by show ((a.2.2.1.set m.toNat x).length:Int)=_; rw [List.length_set]; exact h.1.2⟩,h.2⟩
 have:=h.1.1 m.toNat hi
 rwa [Int.toNat_of_nonneg hm.1]at this
theorem y1i {lost S:Int} {br:Bool} {i:Nat} {m:dM} (n:Int) (s:List Int) (h:yyX lost br S i m):yyX lost br S i (yG m n s).1 :=
 ⟨yRf n s h.1,by rw [(yyQ m n s).1]; exact h.2.1,by rw [(yyQ m n s).2]; exact h.2.2⟩
theorem y1h {lost S:Int} {br:Bool} {i:Nat} {m:dM} (h:yyX lost br S i m):yyX lost br S i (yq m) :=
 ⟨yZL h.1,by rw [(ylJ m).1]; exact h.2.1,by rw [(ylJ m).2]; exact h.2.2⟩
theorem yCo {a:dA} {m n:Int} {s:List Int} (h:Keep a) (hm:inb m a.2.2.1.length=true):Keep (ybo a m n s):=by
 unfold ybo
 cases (nth a.2.2.1 m noMem).2.2.1
 ·cases (yY a).1
  ·exact yLG h
  ·exact yxq (yLG h) (by rw [yU]; exact hm) (fun g=>by rw [yU]at g; exact y1i _ _ g)
 ·exact h
theorem yZX {a:dA} {i:Nat} (h:Keep a) (hi:i < a.2.2.1.length):Keep (yC a i):=by
 unfold yC
 cases (nth a.2.2.1 i noMem).2.2.1
 ·cases (yY a).1
  ·exact yLG h
  ·exact yxq (yLG h) (by rw [yU]; exact zkO hi) (fun g=>by rw [yU]at g; exact y1h g)
 ·exact h
theorem yl8 {P:dA→Prop} {one:dA→Nat→dA} (hl: ∀ a i,(one a i).2.2.1.length=a.2.2.1.length) (ho: ∀ a i,P a→i < a.2.2.1.length→P (one a i)): ∀ (n:Nat) (a:dA),n≤a.2.2.1.length→P a→P ((List.range n).foldl one a)
 | 0,_,_,h=>h
 | n+1,a,hn,h=>by
  rw [List.range_succ,List.foldl_append]
  exact ho _ _ (yl8 hl ho n a (by omega) h) (by rw [yjz hl]; exact hn)
theorem yt8 {a:dA} (h:Keep a):Keep (yn a):=yl8 (P:=Keep) (one:=yC) yjI (fun _ _=>yZX) _ a (Nat.le_refl _) h
theorem yKz {a:dA} (h:Keep a):Keep (markA a) :=
 yt8 (yl8 (P:=Keep) (one:=yP) (fun _ _=>ynw _ _ _ _) (fun _ _ h hi=>yCo h (zkO hi)) _ (yaa a) (Nat.le_refl _) h)
theorem y3x {a:dA} (h:Keep a):Keep (checkA a):=by
 unfold checkA
 cases downA (yn a)
 ·exact yKz (a:=yaq (yn a)) (yt8 h)
 ·exact yt8 h
def ygW (a:dA):Prop:=downA a=false∧fuz a= -1
theorem y0V {a:dA} (h:ygW a):yY a=(true,a):=by
 unfold yY
 rw [h.1,show a.2.2.2.2.2.2.2.2.2.1= -1 from h.2]; rfl
theorem yG2 {a:dA} (h:ygW a) (m n:Int) (s:List Int):ygW (ybo a m n s):=by
 unfold ybo
 rw [y0V h]
 cases (nth a.2.2.1 m noMem).2.2.1<;>exact h
theorem yZN {a:dA} (h:ygW a) (i:Nat):ygW (yC a i):=by
 unfold yC
 rw [y0V h]
 cases (nth a.2.2.1 i noMem).2.2.1<;>exact h
theorem yyb {a:dA} (h:ygW a):ygW (yn a):=yl8 (P:=ygW) (one:=yC) yjI (fun _ i h _=>yZN h i) _ a (Nat.le_refl _) h
theorem yXp {a:dA} (h:ygW a):ygW (markA a) :=
 yyb (yl8 (P:=ygW) (one:=yP) (fun _ _=>ynw _ _ _ _) (fun _ _ h _=>yG2 h _ _ _) _ (yaa a) (Nat.le_refl _) h)
theorem yGS {a:dA} (h:ygW a):checkA a=markA (yaq (yn a)):=by
 unfold checkA
 rw [(yyb h).1]; rfl
theorem y3v {a:dA} (h:ygW a):ygW (checkA a):=by
 rw [yGS h]; exact yXp (a:=yaq (yn a)) (yyb h)
def Wk (k:Int) (a:dA):Prop:=coreOk a∧Keep a∧ygW a∧a.2.2.2.2.2.2.2.2.2.2.2=false∧a.2.2.2.2.2.2.2.1≤k
theorem y3o {k:Int} {a:dA} (h:Wk k a):yw a=true:=yLx.2 ⟨h.1,h.2.1⟩
theorem yb5 {k j:Int} {a:dA} (h:Wk k a) (hj:k≤j):Wk j a:=⟨h.1,h.2.1,h.2.2.1,h.2.2.2.1,Int.le_trans h.2.2.2.2 hj⟩
theorem yAQ {k:Int} {a b:dA} (hc:yo b=yo a) (hk:Keep b) (hf:ygW b) (h:Wk k a):Wk k b:=by
 refine ⟨yLA hc h.1,hk,hf,?_⟩
 unfold yo at hc
 simp only [Prod.mk.injEq]at hc
 obtain ⟨_,_,_,_,_,_,h7,_,h9⟩:=hc
 rw [h7,h9]; exact h.2.2.2
theorem y3q {k:Int} {a:dA} {m n:Int} {s:List Int} (h:Wk k a) (hm:inb m a.2.2.1.length=true):Wk k (ybo a m n s):=yAQ (ypX _ _ _ _) (yCo h.2.1 hm) (yG2 h.2.2.1 _ _ _) h
theorem y23 {k:Int} {a:dA} (h:Wk k a):Wk k (yn a):=yAQ (ycZ _) (yt8 h.2.1) (yyb h.2.2.1) h
theorem y2y {k:Int} {a:dA} (h:Wk k a) (hk:k+1≤60000):Wk (k+1) (yaa a):=by
 obtain ⟨⟨c1,c2,c3,c4,c5,c6,c7,c8,c9,c10,c11⟩,h2,h3,h4,h5⟩:=h
 have e:IntKind.i64.wrap (a.2.2.2.2.2.2.2.1+1)=a.2.2.2.2.2.2.2.1+1:=wr (by omega) (by omega)
 refine ⟨⟨c1,c2,c3,c4,c5,c6,c7,c8,c9,?_,?_⟩,h2,h3,h4,?_⟩
 ·show 0≤IntKind.i64.wrap (a.2.2.2.2.2.2.2.1+1); omega
 ·show IntKind.i64.wrap (a.2.2.2.2.2.2.2.1+1)≤_; omega
 ·show IntKind.i64.wrap (a.2.2.2.2.2.2.2.1+1)≤_; omega
theorem yXb {k:Int} {a:dA} (h:Wk k a) (hk:k+1≤60000):Wk (k+1) (markA a):=yAQ (ylL _) (yKz h.2.1) (yXp h.2.2.1) (y2y h hk)
theorem y1W {k:Int} {a:dA} (h:Wk k a):Wk k (yaq a):=by
 obtain ⟨⟨c1,c2,c3,c4,c5,c6,c7,c8,c9,c10,c11⟩,h2,h3,h4,h5⟩:=h
 refine ⟨⟨c1,c2,c3,c4,c5,c6,⟨?_,?_⟩,⟨Int.le_refl _,c8.2⟩,?_,c10,c11⟩,h2,h3,h4,h5⟩
 ·show 0≤a.2.2.2.2.2.1; omega
 ·show a.2.2.2.2.2.1≤60000; omega
 ·show a.2.2.2.2.2.1≤a.2.2.2.2.2.1+4; omega
theorem y0l {k:Int} {a:dA} (h:Wk k a) (hk:k+1≤60000):Wk (k+1) (checkA a):=by
 rw [yGS h.2.2.1]; exact yXb (y1W (y23 h)) hk
theorem y1V {k:Int} {a:dA} {m:Int} {x:dM} (h:Wk k a) (hm:inb m a.2.2.1.length=true) (hx:yyX a.2.2.2.1 a.2.2.2.2.2.2.2.2.2.2.2 a.2.1.2 m.toNat (nth a.2.2.1 m noMem)→yyX a.2.2.2.1 a.2.2.2.2.2.2.2.2.2.2.2 a.2.1.2 m.toNat x):Wk k (setMem a m x) :=
 yAQ (a:=a) (b:=setMem a m x) rfl (yxq h.2.1 hm hx) h.2.2.1 h
theorem y21 {k m:Int} {a:dA} (h:Wk k a) (hl:a.2.2.2.1= -1) (hm:inb m a.2.2.1.length=true) (hk:k+1≤60000):Wk (k+1) (failOne a m):=by
 have hmi:=zjP.1 hm
 have hw:Wk k (yex a m):=by
  obtain ⟨⟨c1,c2,c3,c4,c5,c6,c7,c8,c9,c10,c11⟩,⟨⟨g1,g2⟩,g3⟩,f,b,t⟩:=h
  refine ⟨⟨c1,c2,c3,⟨?_,?_⟩,⟨Int.le_refl _,by show (0:Int)≤a.2.1.2; omega⟩,fun e=>rfl,c7,c8,c9,c10,c11⟩,⟨⟨?_,?_⟩,g3⟩,f,b,t⟩
  ·show -1≤m; omega
  ·show m≤a.2.1.1 - 1; omega
  ·show yG9 m a.2.2.2.2.2.2.2.2.2.2.2 a.2.1.2 (a.2.2.1.set m.toNat (yle (nth a.2.2.1 m noMem)))
   refine yyr (fun i hi=> ?_) (fun hi=> ?_)
   ·obtain ⟨e1,e2,e3⟩:=g1 i hi
    refine ⟨e1,e2,fun e=> ?_⟩
    rcases e3 e with e | e
    ·omega
    ·exact .inr e
   ·have:=g1 m.toNat hi
    rw [Int.toNat_of_nonneg hmi.1]at this
    exact ⟨y0Q this.1,this.2.1,fun _=> .inl (Int.toNat_of_nonneg hmi.1)⟩
  ·show ((a.2.2.1.set m.toNat (yle (nth a.2.2.1 m noMem))).length:Int)=a.2.1.1
   rw [List.length_set]; exact g2
 unfold failOne
 rw [show (a.2.2.2.1== -1)=true from beq_iff_eq.2 hl,h.2.2.1.1,h.2.2.2.1]
 cases ltb a.2.2.2.2.2.2.2.1 60000
 ·exact yb5 hw (by omega)
 ·exact yXb hw hk
theorem y2A {k:Int} {a:dA} (h:Wk k a) (hl:inb a.2.2.2.1 a.2.2.1.length=true) (hk:k+1≤60000):Wk (k+1) (markA (spareNew a)):=by
 have hmi:=zjP.1 hl
 refine yXb ?_ hk
 obtain ⟨⟨c1,c2,c3,c4,c5,c6,c7,c8,c9,c10,c11⟩,⟨⟨g1,g2⟩,g3⟩,f,b,t⟩:=h
 have hg:=yi.1 c1
 refine ⟨⟨c1,c2,c3,c4,⟨Int.le_refl _,by show (0:Int)≤a.2.1.2; omega⟩,fun e=>rfl,c7,c8,c9,c10,c11⟩,⟨⟨yyr g1 (fun hi=>⟨yKB (by omega) (by omega),?_,fun e=> ?_⟩),?_⟩,g3⟩,f,b,t⟩
 ·unfold yb7
  rw [zk0 (show 1≤6+a.2.1.2 by omega),zk0 (show 6+a.2.1.2≤20 by omega)]
  show ((List.replicate (6+a.2.1.2).toNat ([]:List Int)).length:Int)=6+a.2.1.2
  rw [List.length_replicate]; omega
 ·unfold yb7 at e
  rw [zk0 (show 1≤6+a.2.1.2 by omega),zk0 (show 6+a.2.1.2≤20 by omega)] at e
  cases e
 ·show ((a.2.2.1.set a.2.2.2.1.toNat (yb7 (6+a.2.1.2))).length:Int)=a.2.1.1
  rw [List.length_set]; exact g2
theorem y22 {k:Int} {a:dA} (h:Wk k a) (hl:inb a.2.2.2.1 a.2.2.1.length=true) (hb:a.2.2.2.2.1 < a.2.1.2):Wk k (stepOne a).2:=by
 have hp:Wk k (yZ a):=y3q h hl
 have e:=ypX a a.2.2.2.1 (dataAt a.2.2.2.2.1) [nth (yE a a.2.2.2.2.1).1 a.2.2.2.1 0]
 have e1:(yZ a).2.2.2.2.1=a.2.2.2.2.1:=yah e
 have e2:(yZ a).2.1=a.2.1:=yaf e
 have e3:(yZ a).2.2.2.1=a.2.2.2.1:=congrArg (fun x=>x.2.2.1) e
 unfold stepOne
 cases (yE a a.2.2.2.2.1).2
 ·exact h
 ·generalize yZ a=R at hp e1 e2 e3 ⊢
  rw [hp.2.2.1.1]
  have hmi:=zjP.1 hl
  obtain ⟨⟨c1,c2,c3,c4,c5,c6,c7,c8,c9,c10,c11⟩,g2,g3,g4,g5⟩:=hp
  have hg:=yi.1 c1
  have e4:IntKind.i64.wrap (R.2.2.2.2.1+1)=R.2.2.2.2.1+1:=wr (by omega) (by omega)
  refine ⟨⟨c1,c2,c3,c4,⟨?_,?_⟩,fun e=> ?_,c7,c8,c9,c10,c11⟩,g2,g3,g4,g5⟩
  ·show 0≤IntKind.i64.wrap (R.2.2.2.2.1+1); omega
  ·show IntKind.i64.wrap (R.2.2.2.2.1+1)≤R.2.1.2; rw [e4,e1,e2]; omega
  ·have:R.2.2.2.1= -1:=e
   omega
def yuN (a:dA):Prop:=a.2.2.1.length≤1000000000∧(∀ m∈a.2.2.1,m.1.length≤1000000000∧m.2.1.length≤1000000000)∧a.2.2.2.2.2.2.2.2.1.length≤1000000000
theorem yCp {d:List dW} {a:dA} (h:ybe d a) (hd:d.length≤1000000000):yuN a:=by
 refine ⟨by have:=h.1; omega,fun m hm=> ?_,by rw [h.2.2]; exact hd⟩
 obtain ⟨_,_,_,_,h5,h6⟩:=yar (h.2.1 m hm)
 omega
theorem y3Q {a:dA} (h:yuN a):yuN (yfc a).1:=by
 cases ha:yw a
 ·unfold yfc; rw [ha]; exact h
 ·exact yCp (yAL (yCw ha)) h.2.2
theorem y33 {a:dA} (h:yuN a):yuN (ydW a).1:=by
 cases ha:yw a
 ·unfold ydW; rw [ha]; exact h
 ·exact yCp (ywY (yCw ha)) h.2.2
theorem y3P {a:dA} (h:yuN a):yuN (yBj a).1:=by
 cases ha:yw a
 ·unfold yBj; rw [ha]; exact h
 ·exact yCp (yTi (yCw ha)) h.2.2
theorem y4f {a:dA} (h:yuN a):yuN (yGR a).1:=by
 cases ha:yw a
 ·have hs:yfc a=(a,1):=by unfold yfc; rw [ha]; rfl
  unfold yGR
  rw [hs]; exact h
 ·exact yCp (yYu (yCw ha)) h.2.2
theorem ycM {a b:dA} (h:yo a=yo b):a.2.2.2.1=b.2.2.2.1:=congrArg (fun x=>x.2.2.1) h
theorem y0d (s:dS):yab (yz s)=true:=by
 unfold yz
 cases h:yaJ s
 ·rfl
 ·unfold yaJ at h
  simp only [ycd]at h
  cases hg:yc (s.2.2.2.1,s.2.2.2.2.1)
  ·rw [hg]at h; cases h
  have hge:=yi.1 hg
  simp only at hge
  rw [hg,wr (show -9223372036854775808≤s.2.2.2.1 - 1 by omega) (by omega)] at h
  cases h2:(leb 1 s.1&&leb s.1 60000)
  ·rw [h2]at h; cases h
  cases h3:(leb 0 s.2.1&&leb s.2.1 60000)
  ·rw [h2,h3]at h; cases h
  cases h4:(leb 0 s.2.2.1&&leb s.2.2.1 (s.2.2.2.1 - 1))
  ·rw [h2,h3,h4]at h; cases h
  cases h5:(leb 0 s.2.2.2.2.2.1&&leb s.2.2.2.2.2.1 60000)
  ·rw [h2,h3,h4,h5]at h; cases h
  cases h6:(leb (-1) s.2.2.2.2.2.2.1&&leb s.2.2.2.2.2.2.1 (s.2.2.2.1 - 1))
  ·rw [h2,h3,h4,h5,h6]at h; cases h
  cases h7:(leb 0 s.2.2.2.2.2.2.2&&leb s.2.2.2.2.2.2.2 s.2.2.2.2.1)
  ·rw [h2,h3,h4,h5,h6,h7]at h; cases h
  simp only [Bool.and_eq_true,zjQ]at h2 h3 h4 h5 h6 h7
  rw [ylM]
  refine ⟨by show (9:Nat)≤12; omega,?_⟩
  have hw:IntKind.i64.wrap (s.2.2.2.2.2.2.1+1)=s.2.2.2.2.2.2.1+1:=wr (by omega) (by omega)
  simp only [Bool.not_true,cond_false,hw,List.mem_cons,List.not_mem_nil,or_false]
  rintro x (rfl | rfl | rfl | rfl | rfl | rfl | rfl | rfl | rfl)<;>omega
theorem yHh {g:dG} (id i:Int) (hg:yc g=true):yl (yB id g i)=true∧((yB id g i).1.length:Int)=6+g.2∧(yB id g i).2=([],false,[]):=by
 have hge:=yi.1 hg
 have hm:yb7 (6+g.2)=(List.replicate (6+g.2).toNat [],[],false,[]):=by
  unfold yb7
  rw [zk0 (show 1≤6+g.2 by omega),zk0 (show 6+g.2≤20 by omega)]; rfl
 have key: ∀ (l:List Nat) (m:dM),m.1.all yab=true∧m.2=([],false,[])→(l.foldl yua m).1.all yab=true∧(l.foldl yua m).2=([],false,[]):=by
  intro l
  induction l with
  | nil=>intro m h; exact h
  | cons x t ih =>
   intro m h
   refine ih _ ⟨?_,h.2⟩
   rw [List.all_eq_true]
   intro y hy
   rcases List.mem_or_eq_of_mem_set hy with h1 | rfl
   ·exact List.all_eq_true.1 h.1 y h1
   ·rfl
 have ht:(ylx id g i).1.all yab=true∧(ylx id g i).2=([],false,[]):=by
  unfold ylx
  rw [hm]
  refine ⟨?_,rfl⟩
  rw [List.all_eq_true]
  intro y hy
  rcases List.mem_or_eq_of_mem_set hy with h1 | rfl
  ·rw [List.eq_of_mem_replicate h1]; rfl
  ·exact y0d _
 have hl:((yB id g i).1.length:Int)=6+g.2:=by
  unfold yB
  rw [yN1]
  unfold ylx
  rw [hm]
  show (((List.replicate (6+g.2).toNat ([]:List Int)).set 0 _).length:Int)=_
  rw [List.length_set,List.length_replicate]; omega
 obtain ⟨h1,h2⟩:=key (List.range g.2.toNat) _ ht
 refine ⟨ytf h1 ?_ ?_ ?_ ?_ ?_,hl,h2⟩
 ·show List.all ((yB id g i).2).1 _=true
  rw [show (yB id g i).2=([],false,[]) from h2]; rfl
 ·show yqE _ ((yB id g i).2).2.2=true
  rw [show (yB id g i).2=([],false,[]) from h2,ypx]
  exact ⟨fun x hx=>absurd hx List.not_mem_nil,List.Pairwise.nil⟩
 ·show 1≤(yB id g i).1.length; omega
 ·show (yB id g i).1.length≤20; omega
 ·show ((yB id g i).2).1.length≤60
  rw [show (yB id g i).2=([],false,[]) from h2]; exact Nat.zero_le _
theorem yJU {id:Int} {g:dG} (hg:yc g=true) (h1:1≤id) (h2:id≤60000):ym8 id g=(id,g,(List.range g.1.toNat).map (fun (i:Nat)=>yB id g i),-1,0,0,0,0,[],-1,false,false):=by
 unfold ym8
 rw [hg,zk0 h1,zk0 h2]
 have: ∀ (n:Nat),(List.range n).foldl (fun a (i:Nat)=>yBi a (yB id g i)) (yBo id g)=(id,g,(List.range n).map (fun (i:Nat)=>yB id g i),-1,0,0,0,0,[],-1,false,false):=by
  intro n
  induction n with
  | zero=>rfl
  | succ n ih=>rw [List.range_succ,List.foldl_append,ih,List.map_append]; rfl
 exact this _
theorem y0o {id:Int} {g:dG} (hg:yc g=true) (h1:1≤id) (h2:id≤60000):Wk 0 (ym8 id g):=by
 have hge:=yi.1 hg
 rw [yJU hg h1 h2]
 have hl:((List.range g.1.toNat).map (fun (i:Nat)=>yB id g i)).length=g.1.toNat:=by rw [List.length_map,List.length_range]
 refine ⟨⟨hg,⟨h1,h2⟩,?_,⟨Int.le_refl _,?_⟩,⟨Int.le_refl _,?_⟩,fun _=>rfl,?_,?_,?_,?_,?_⟩,⟨⟨fun i hi=> ?_,?_⟩,?_,?_⟩,⟨rfl,rfl⟩,rfl,Int.le_refl _⟩
 ·rfl
 ·show (-1:Int)≤g.1 - 1; omega
 ·show (0:Int)≤g.2; omega
 ·show (0:Int)≤0∧(0:Int)≤60000; omega
 ·show (0:Int)≤0∧(0:Int)≤60000; omega
 ·show (0:Int)≤0+4; omega
 ·show (0:Int)≤0; omega
 ·show (0:Int)≤60000; omega
 ·have hi':i < ((List.range g.1.toNat).map (fun (i:Nat)=>yB id g i)).length:=hi
  show yyX (-1) false g.2 i (nth ((List.range g.1.toNat).map (fun (i:Nat)=>yB id g i)) i noMem)
  rw [zjW,zcq hi',List.getElem_map,List.getElem_range]
  obtain ⟨k1,k2,k3⟩:=yHh id i hg
  refine ⟨k1,k2,fun e=> ?_⟩
  rw [show (yB id g i).2=([],false,[]) from k3]at e
  cases e
 ·show (((List.range g.1.toNat).map (fun (i:Nat)=>yB id g i)).length:Int)=g.1
  rw [hl]; omega
 ·show (-1:Int)≤ -1; omega
 ·show (-1:Int)≤1000; omega
theorem y2B {k m n:Int} {a:dA} (h:Wk k a) (hm:inb m a.2.2.1.length=true):Wk k (setMem a m (spoil (nth a.2.2.1 m noMem) n)) :=
 y1V h hm (fun g=>⟨y0f n g.1,by rw [(yEP _ _).1]; exact g.2.1,by rw [(yEP _ _).2]; exact g.2.2⟩)
end
section
def yFb:Code:=(Tryz.f25.body).getD .skip
def yFN:Env:=zki TT [(56,ypz),(71,yzS)] []
theorem yMt:FrOk Tryz.prog ⟨yFN,87,fun _=>none⟩ yFb:=zkp yb yd ⟨yAq,yQT,trivial⟩
def yOb:Nat→Option Seg:=fun _=>none
abbrev ykJ:List Par:= [.rd tA,.rd tA]
abbrev yqu:List OT:= [⟨false,tB,.fz⟩]
def yeC (a0 a1:dA):Option (ResD yqu×MutD ykJ) :=
 bif (a0.1==a1.1) then
 bif ((a0.2.1.1==a1.2.1.1)&&((a0.2.1.2==a1.2.1.2)&&true)) then
 bnd (ydD a0.2.2.1 a1.2.2.1) fun r1 =>
 bif r1.1.1 then
 bif (a0.2.2.2.1==a1.2.2.2.1) then
 bif (a0.2.2.2.2.1==a1.2.2.2.2.1) then
 bif (a0.2.2.2.2.2.1==a1.2.2.2.2.2.1) then
 bif (a0.2.2.2.2.2.2.1==a1.2.2.2.2.2.2.1) then
 bif (a0.2.2.2.2.2.2.2.1==a1.2.2.2.2.2.2.2.1) then
 bnd (ybh a0.2.2.2.2.2.2.2.2.1 a1.2.2.2.2.2.2.2.2.1) fun r2 =>
 bif r2.1.1 then
 bif (a0.2.2.2.2.2.2.2.2.2.1==a1.2.2.2.2.2.2.2.2.2.1) then
 bif (a0.2.2.2.2.2.2.2.2.2.2.1==a1.2.2.2.2.2.2.2.2.2.2.1) then
 some (((a0.2.2.2.2.2.2.2.2.2.2.2==a1.2.2.2.2.2.2.2.2.2.2.2),()),())
 else
 some ((false,()),())
 else
 some ((false,()),())
 else
 some ((false,()),())
 else
 some ((false,()),())
 else
 some ((false,()),())
 else
 some ((false,()),())
 else
 some ((false,()),())
 else
 some ((false,()),())
 else
 some ((false,()),())
 else
 some ((false,()),())
 else
 some ((false,()),())
theorem yVm (x:InD ykJ):zjH ⟨yFN,87,yOb⟩ Tryz.f25.results.toList yFb ykJ yqu x=yeC x.1 x.2.1:=by kernel_rfl
theorem yQy:ConOk Tryz.prog 25 ⟨ykJ,yqu,fun x=>yeC x.1 x.2.1⟩:=zkh (yMt) Tryz.func25 (by kernel_rfl) (by kernel_rfl) Tryz.ntmps25.symm (by decide) (fun x r h=>(yVm x).trans h)
def yBG:Con:=⟨ykJ,yqu,fun x=>yeC x.1 x.2.1⟩
theorem yUo:ConOk Tryz.prog 25 yBG:=yQy
theorem y2t (a:dA) (h:yuN a):yeC a a=some ((true,()),()):=by
 unfold yeC
 rw [y1O _ h.1 h.2.1,yUR _ h.2.2]
 simp only [beq_self_eq_true,Bool.and_self,zky,cond_true]
end
section
def yHV:Code:=(Tryz.f139.body).getD .skip
def yIr:Env:=zki TT [] []
theorem yPn:FrOk Tryz.prog ⟨yIr,6,fun _=>none⟩ yHV:=zkp yb yd trivial
def yRF:Nat→Option Seg:=fun _=>none
abbrev ym2:List Par:= [.rd tG]
abbrev ysG:List OT:= [⟨false,tI,.fz⟩]
def yv3 (a0:dG):Option (ResD ysG×MutD ym2) :=
 some (((IntKind.i64.wrap (6+a0.2)),()),())
theorem yYl (x:InD ym2):zjH ⟨yIr,6,yRF⟩ Tryz.f139.results.toList yHV ym2 ysG x=yv3 x.1:=by kernel_rfl
theorem yUb:ConOk Tryz.prog 139 ⟨ym2,ysG,fun x=>yv3 x.1⟩:=zkh (yPn) Tryz.func139 (by kernel_rfl) (by kernel_rfl) Tryz.ntmps139.symm (by decide) (fun x r h=>(yYl x).trans h)
def yce (a0:dG):Int :=
 (IntKind.i64.wrap (6+a0.2))
def yoy:Con:=⟨ym2,ysG,fun x=>(fun n=>some ((n,()),())) (yce x.1)⟩
theorem yWd (a0:dG):yv3 a0=(fun n=>some ((n,()),())) (yce a0):=zkS (p:=fun (n:Int)=>((n,()),())) rfl
theorem yw1:ConOk Tryz.prog 139 yoy:=(yUb).mono (fun x r _ h=>(yWd x.1).trans h)
end
section
def yHU:Code:=(Tryz.f181.body).getD .skip
def yIq:Env:=zki TT [(135,yx)] []
theorem yPa:FrOk Tryz.prog ⟨yIq,5,fun _=>none⟩ yHU:=zkp yb yd ⟨yD,trivial⟩
def yRE:Nat→Option Seg:=fun _=>none
abbrev ym0:List Par:= [.rd tI]
abbrev ysC:List OT:= [⟨false,tB,.fz⟩]
def yv2 (a0:Int):Option (ResD ysC×MutD ym0) :=
 let r1:=ya a0 0 65535
 some ((r1,()),())
theorem yYf (x:InD ym0):zjH ⟨yIq,5,yRE⟩ Tryz.f181.results.toList yHU ym0 ysC x=yv2 x.1:=by kernel_rfl
theorem yT5:ConOk Tryz.prog 181 ⟨ym0,ysC,fun x=>yv2 x.1⟩:=zkh (yPa) Tryz.func181 (by kernel_rfl) (by kernel_rfl) Tryz.ntmps181.symm (by decide) (fun x r h=>(yYf x).trans h)
def yak (a0:Int):Bool :=
 let r1:=ya a0 0 65535
 r1
def yEm:Con:=⟨ym0,ysC,fun x=>(fun n=>some ((n,()),())) (yak x.1)⟩
theorem yV8 (a0:Int):yv2 a0=(fun n=>some ((n,()),())) (yak a0):=zkS (p:=fun (n:Bool)=>((n,()),())) rfl
theorem yWU:ConOk Tryz.prog 181 yEm:=(yT5).mono (fun x r _ h=>(yV8 x.1).trans h)
end
end
end Go.Tf
