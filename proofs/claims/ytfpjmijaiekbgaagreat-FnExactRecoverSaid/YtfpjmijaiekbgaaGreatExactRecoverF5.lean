/- Functions of the program, and what they come to. -/
import Derived.Test.YtfpjmijaiekbgaaGreatExactRecoverF4
namespace Go.Tf
noncomputable section
open Go.Proofs
set_option synthInstance.maxHeartbeats 400000
set_option synthInstance.maxSize 10000
set_option linter.unusedVariables false
set_option linter.unusedSimpArgs false
set_option maxRecDepth 100000
section
def yPP:Code:=(Tryz.f98.body).getD .skip
def yPU:Env:=zki TT [] []
theorem yXK:FrOk Tryz.prog ⟨yPU,15,fun _=>none⟩ yPP:=zkp yb yc trivial
def yZx:Nat→Option Seg:=fun _=>none
abbrev ys6:List Par:= [.rd tI,.rd tI,.rd tI]
abbrev yyN:List OT:= [⟨false,tB,.fz⟩]
def yAG (a0:Int) (a1:Int) (a2:Int):Option (ResD yyN×MutD ys6) :=
  bif (leb a1 a0) then
    some (((leb a0 a2),()),())
  else
    some ((false,()),())
theorem y1P (x:InD ys6):zjH ⟨yPU,15,yZx⟩ Tryz.f98.results.toList yPP ys6 yyN x=yAG x.1 x.2.1 x.2.2.1:=by kernel_rfl
theorem y0C:ConOk Tryz.prog 98 ⟨ys6,yyN,fun x=>yAG x.1 x.2.1 x.2.2.1⟩:=zkh (yXK) Tryz.func98 (by kernel_rfl) (by kernel_rfl) Tryz.ntmps98.symm (by decide) (fun x r h=>(y1P x).trans h)
def ya (a0:Int) (a1:Int) (a2:Int):Bool :=
  bif (leb a1 a0) then
    (leb a0 a2)
  else
    false
def yu:Con:=⟨ys6,yyN,fun x=>(fun n=>some ((n,()),())) (ya x.1 x.2.1 x.2.2.1)⟩
theorem y1t (a0:Int) (a1:Int) (a2:Int):yAG a0 a1 a2=(fun n=>some ((n,()),())) (ya a0 a1 a2):=zkS (p:=fun (n:Bool)=>((n,()),())) (zkx (p:=fun (n:Bool)=>((n,()),())) rfl rfl)
theorem yF:ConOk Tryz.prog 98 yu:=(y0C).mono (fun x r _ h=>(y1t x.1 x.2.1 x.2.2.1).trans h)
theorem yta {a b c:Int}:ya a b c=true↔b≤a∧a≤c:=by
  unfold ya
  cases h:leb b a
  · have:=mt zk0 (by rw [h]; simp: ¬ leb b a=true)
    simp [this]
  · simp [zjQ,zjQ.1 h]
theorem y3C {a b c:Int} (h:b≤a) (h2:a≤c):ya a b c=true:=yta.2 ⟨h,h2⟩
theorem y3B {a b c:Int} (h: ¬ (b≤a∧a≤c)):ya a b c=false:=by
  cases e:ya a b c
  · rfl
  · exact absurd (yta.1 e) h
theorem yfg (x a b:Int):ya x a b=(leb a x&&leb x b):=by
  unfold ya; cases leb a x<;>rfl
theorem ytb {x:Int} {n:Nat} (h:n≤1152921504606846976):ya x 0 (IntKind.i64.wrap ((n:Int) - 1))=inb x n:=by
  rw [wr (by omega) (by omega),Bool.eq_iff_iff,yta,zjP]; omega
end
section
def yKO:Code:=(Tryz.f141.body).getD .skip
def yK5:Env:=zki TT [(98,yu)] []
theorem yUR:FrOk Tryz.prog ⟨yK5,11,fun _=>none⟩ yKO:=zkp yb yc ⟨yF,trivial⟩
def yW2:Nat→Option Seg:=fun _=>none
abbrev yqs:List Par:= [.rd tG]
abbrev yv4:List OT:= [⟨false,tB,.fz⟩]
def yyC (a0:dG):Option (ResD yv4×MutD yqs) :=
  let r1:=ya a0.1 3 5
  bif r1 then
    let r2:=ya a0.2 1 8
    some ((r2,()),())
  else
    some ((false,()),())
theorem y1c (x:InD yqs):zjH ⟨yK5,11,yW2⟩ Tryz.f141.results.toList yKO yqs yv4 x=yyC x.1:=by kernel_rfl
theorem yYF:ConOk Tryz.prog 141 ⟨yqs,yv4,fun x=>yyC x.1⟩:=zkh (yUR) Tryz.func141 (by kernel_rfl) (by kernel_rfl) Tryz.ntmps141.symm (by decide) (fun x r h=>(y1c x).trans h)
def yg (a0:dG):Bool :=
  let r1:=ya a0.1 3 5
  bif r1 then
    let r2:=ya a0.2 1 8
    r2
  else
    false
def yrK:Con:=⟨yqs,yv4,fun x=>(fun n=>some ((n,()),())) (yg x.1)⟩
theorem y0p (a0:dG):yyC a0=(fun n=>some ((n,()),())) (yg a0):=zkS (p:=fun (n:Bool)=>((n,()),())) (zkx (p:=fun (n:Bool)=>((n,()),())) rfl rfl)
theorem yAz:ConOk Tryz.prog 141 yrK:=(yYF).mono (fun x r _ h=>(y0p x.1).trans h)
theorem yaZ {a:Int×Int}:yg a=true↔(3≤a.1∧a.1≤5)∧1≤a.2∧a.2≤8:=by
  unfold yg
  cases h:ya a.1 3 5
  · have: ¬ (3≤a.1∧a.1≤5):=fun e=>by rw [yta.2 e]at h; simp at h
    simp [this]
  · simp only [cond_true,yta]
    exact ⟨fun e=>⟨yta.1 h,e⟩,fun e=>e.2⟩
def yji (a:dA) (i:Nat):Bool:= !(yp (nth a.2.2.1 i yf))||((((nth a.2.2.1 i yf).1.length:Int) !=6+a.2.1.2)||((nth a.2.2.1 i yf).2.2.1&&(((i:Int) !=a.2.2.2.1)&& !a.2.2.2.2.2.2.2.2.2.2.2)))
def ywE (a:dA):Bool:= !((List.range a.2.2.1.length).any (yji a))&&(a.2.2.1.length:Int)==a.2.1.1
def yrM (g:dG) (l:List dW) (i:Nat):Bool:= !(leb 0 (nth l i (0,[])).1&&leb (nth l i (0,[])).1 (g.2 - 1))||(((nth l i (0,[])).2.length:Int) !=g.1 - 1||(!((nth l i (0,[])).2.all isW)||(decide (0 < i)&&leb (nth l i (0,[])).1 (nth l ((i - 1:Nat):Int) (0,[])).1)))
def yrN (g:dG) (l:List dW):Bool:= !((List.range l.length).any (yrM g l))
def yaJ (a:dA):Bool :=
  yg a.2.1&&((leb 1 a.1&&leb a.1 60000)&&(ywE a&&(yrN a.2.1 a.2.2.2.2.2.2.2.2.1&&((leb (-1) a.2.2.2.1&&leb a.2.2.2.1 (a.2.1.1 - 1))&&((leb 0 a.2.2.2.2.1&&leb a.2.2.2.2.1 a.2.1.2)&&(!(a.2.2.2.1== -1&&a.2.2.2.2.1 !=0) &&
  ((leb 0 a.2.2.2.2.2.2.1&&leb a.2.2.2.2.2.2.1 60000)&&((leb a.2.2.2.2.2.2.1 a.2.2.2.2.2.1&&leb a.2.2.2.2.2.1 60000)&&(leb a.2.2.2.2.2.1 (a.2.2.2.2.2.2.1+4)&&((leb 0 a.2.2.2.2.2.2.2.1&&leb a.2.2.2.2.2.2.2.1 60000)&&(leb (-1) a.2.2.2.2.2.2.2.2.2.1&&leb a.2.2.2.2.2.2.2.2.2.1 1000)))))))))))
theorem yLn {a:dA} (h:yaJ a=true):yg a.2.1=true:=(Bool.and_eq_true_iff.1 h).1
theorem y3A {a:Int×Int} (h: ¬ yg a=true):yg a=false:=by cases e:yg a<;>simp_all
theorem yTX {a:dA} (h:yaJ a=true):ywE a=true:=by simp only [yaJ,Bool.and_eq_true]at h; exact h.2.2.1
theorem yLo {a:dA} (h:yaJ a=true):(a.2.2.1.length:Int)=a.2.1.1:=by have:=yTX h; simp only [ywE,Bool.and_eq_true,beq_iff_eq]at this; exact this.2
theorem y2j {a:dA} (h:ywE a=true) {i:Nat} (hi:i < a.2.2.1.length):yp (nth a.2.2.1 i yf)=true∧((nth a.2.2.1 i yf).1.length:Int)=6+a.2.1.2∧((nth a.2.2.1 i yf).2.2.1=true→(i:Int)=a.2.2.2.1∨a.2.2.2.2.2.2.2.2.2.2.2=true):=by
  simp only [ywE,Bool.and_eq_true,Bool.not_eq_true',List.any_eq_false,List.mem_range]at h
  have:=h.1 i hi
  simp only [yji,Bool.not_eq_true,Bool.or_eq_false_iff,Bool.not_eq_false',bne_eq_false_iff_eq,Bool.and_eq_false_iff]at this
  refine ⟨this.1,this.2.1,fun hf=> ?_⟩
  rcases this.2.2 with h1 | h1 | h1
  · rw [hf]at h1; cases h1
  · exact .inl h1
  · exact .inr h1
theorem y1Z: ∀ {l:List Int} {lo n:Int},l.Pairwise (· < ·)→(∀ x∈l,lo≤x∧x < n)→lo≤n→(l.length:Int)≤n - lo
  | [],lo,n,_,_,h=>by simp; omega
  | x::l,lo,n,hp,hx,h=>by
    cases hp with
    | cons h1 h2 =>
      have h3:=hx x List.mem_cons_self
      have:=y1Z (l:=l) (lo:=x+1) (n:=n) h2 (fun y hy=>⟨h1 y hy,(hx y (List.mem_cons_of_mem _ hy)).2⟩) (by omega)
      rw [List.length_cons]; omega
theorem yLp {n:Nat} {l:List Int}:ywb n l=true↔(∀ x∈l,0≤x∧x < n)∧l.Pairwise (· < ·):=by
  simp only [ywb,Bool.and_eq_true,List.all_eq_true,zjP,decide_eq_true_eq]
theorem yRr {m:dM} (h1:m.1.all ybz=true) (h2:m.2.1.all (yyF m.1.length)=true) (h3:ywb m.1.length m.2.2.2=true) (h4:1≤m.1.length) (h5:m.1.length≤20) (h6:m.2.1.length≤60):yp m=true:=by
  simp only [yp,h1,h2,h3,Bool.true_and,Bool.and_eq_true,zjQ]
  omega
theorem y1T {m:dM} (h:yp m=true):ysw m≤1041:=by
  obtain ⟨h1,h2,h3,h4,h5,h6⟩:=yf7 h
  have a1:=yWQ (b:=12) h5 (fun x hx=>(yGY.1 (List.all_eq_true.1 h1 x hx)).1)
  have a2:=zi5 (f:=fun x:dW=>1+x.2.length) (c:=13) (l:=m.2.1) (fun w hw=>by have:=(yGY.1 (Bool.and_eq_true_iff.1 (List.all_eq_true.1 h2 w hw)).2).1; omega)
  have a3:=Nat.mul_le_mul_right 13 h6
  obtain ⟨b1,b2⟩:=yLp.1 h3
  have a4:=y1Z (lo:=0) (n:=m.1.length) b2 b1 (by omega)
  unfold ysw
  omega
theorem y2a {m:dM} (b:Nat→Bool) (h:yp m=true):(ycn b m.2.1 m.1).all ybz=true:=by
  obtain ⟨h1,h2,_⟩:=yf7 h
  rw [List.all_eq_true]
  exact yPY (P:=fun x=>ybz x=true) (fun x hx=>List.all_eq_true.1 h1 x hx) (fun w hw=>(Bool.and_eq_true_iff.1 (List.all_eq_true.1 h2 w hw)).2)
theorem y2J {m:dM} (n:Int) (s:List Int) (h:yp m=true):yp (yjK m n s).1=true:=by
  unfold yjK
  cases hc:yyf m n s
  · exact h
  · simp only [yyf,Bool.and_eq_true,Bool.not_eq_true',zjT]at hc
    obtain ⟨h1,h2,h3,h4,h5,h6⟩:=yf7 h
    refine yRr h1 ?_ ?_ h4 h5 (by show (m.2.1++ [(n,s)]).length≤60; rw [List.length_append]; simp only [List.length_cons,List.length_nil]; omega)
    · show (m.2.1++ [(n,s)]).all (yyF m.1.length)=true
      rw [List.all_append,h2]
      simp [yyF,hc.2.2.1,hc.2.2.2.1]
    · show ywb m.1.length (yZg m.2.2.2 n)=true
      obtain ⟨b1,b2⟩:=yLp.1 h3
      exact yLp.2 ⟨fun x hx=>b1 x (List.mem_filter.1 hx).1,b2.filter _⟩
theorem y3r (m:dM) (n:Int) (s:List Int):(yjK m n s).1.1=m.1∧(yjK m n s).1.2.2.1=m.2.2.1:=by
  unfold yjK
  cases yyf m n s<;>exact ⟨rfl,rfl⟩
theorem y2x {m:dM} (h:yp m=true):yp (yg0 m)=true:=by
  unfold yg0
  cases hc:(yp m&& !m.2.2.1)
  · exact h
  · obtain ⟨h1,h2,h3,h4,h5,h6⟩:=yf7 h
    refine yRr (y2a _ h) rfl ?_ ?_ ?_ (Nat.zero_le _)
    · show ywb (ycn _ m.2.1 m.1).length m.2.2.2=true; rw [ytc]; exact h3
    · show 1≤(ycn _ m.2.1 m.1).length; rw [ytc]; exact h4
    · show (ycn _ m.2.1 m.1).length≤20; rw [ytc]; exact h5
theorem y3p (m:dM):(yg0 m).1.length=m.1.length∧(yg0 m).2.2.1=m.2.2.1:=by
  unfold yg0
  cases (yp m&& !m.2.2.1)
  · exact ⟨rfl,rfl⟩
  · exact ⟨ytc,rfl⟩
theorem y3x {m:dM} (h:yp m=true):yp (y2T m)=true:=by
  obtain ⟨h1,h2,h3,h4,h5,h6⟩:=yf7 h
  exact yRr h1 rfl h3 h4 h5 (Nat.zero_le _)
def yah (l:List dM):Prop:= ∀ m∈l,yp m=true
theorem yWd {l:List dM} {i:Nat} {x:dM} (h:yah l) (hx:yp x=true):yah (l.set i x):=fun m hm=>by
  rcases List.mem_or_eq_of_mem_set hm with h1 | rfl
  · exact h m h1
  · exact hx
theorem yZq {l:List dM} {m:Int} (h:yah l) (hm:inb m l.length=true):yp (nth l m yf)=true:=y16 (P:=fun x=>yp x=true) hm h
theorem yMO {l:List dM} (h:yah l):ykh l≤l.length * 1041:=zi5 (f:=ysw) (fun x hx=>y1T (h x hx))
theorem yTY {a:dA} (h:yaJ a=true):yah a.2.2.1:=fun m hm=>by
  obtain ⟨i,hi,rfl⟩:=List.getElem_of_mem hm
  have:=(y2j (yTX h) hi).1
  rwa [zjW,zcq hi]at this
def ykH (g:dG) (s:Int):Bool:=yg g&&(leb 0 s&&leb s (g.2 - 1))
def yh (g:dG) (s:Int):Int:=bif ykH g s then g.1 - 1 - s.tmod g.1 else -1
def ywl (g:dG) (s i:Int):Int:=bif ykH g s&&(leb 0 i&&leb i (g.1 - 2)) then (yh g s+1+i).tmod g.1 else -1
theorem ylS {g:dG} {s:Int}:ykH g s=true↔yg g=true∧0≤s∧s≤g.2 - 1:=by simp [ykH,zjQ]
theorem yvk {g:dG} {s:Int} (h:ykH g s=true):0≤yh g s∧yh g s≤g.1 - 1:=by
  have h1:=ylS.1 h
  have h2:=yaZ.1 h1.1
  unfold yh
  rw [h,cond_true,Int.tmod_eq_emod_of_nonneg h1.2.1]
  have:=Int.emod_nonneg s (show g.1≠0 by omega)
  have:=Int.emod_lt_of_pos s (show 0 < g.1 by omega)
  omega
theorem y2O {g:dG} {s i:Int} (h:ykH g s=true) (h1:0≤i) (h2:i≤g.1 - 2):0≤ywl g s i∧ywl g s i≤g.1 - 1:=by
  have h3:=yaZ.1 (ylS.1 h).1
  have h4:=yvk h
  unfold ywl
  rw [h,zk0 h1,zk0 h2,Bool.and_self,Bool.and_self,cond_true,Int.tmod_eq_emod_of_nonneg (by omega)]
  have:=Int.emod_nonneg (yh g s+1+i) (show g.1≠0 by omega)
  have:=Int.emod_lt_of_pos (yh g s+1+i) (show 0 < g.1 by omega)
  omega
end
section
def yJc:Code:=(Tryz.f90.body).getD .skip
def yJB:Env:=zki TT [(98,yu)] []
theorem yQ7:FrOk Tryz.prog ⟨yJB,5,fun _=>none⟩ yJc:=zkp yb yc ⟨yF,trivial⟩
def yTF:Nat→Option Seg:=fun _=>none
abbrev ynx:List Par:= [.rd tI]
abbrev ytW:List OT:= [⟨false,tB,.fz⟩]
def ywZ (a0:Int):Option (ResD ytW×MutD ynx) :=
  let r1:=ya a0 0 65535
  some ((r1,()),())
theorem yZZ (x:InD ynx):zjH ⟨yJB,5,yTF⟩ Tryz.f90.results.toList yJc ynx ytW x=ywZ x.1:=by kernel_rfl
theorem yV4:ConOk Tryz.prog 90 ⟨ynx,ytW,fun x=>ywZ x.1⟩:=zkh (yQ7) Tryz.func90 (by kernel_rfl) (by kernel_rfl) Tryz.ntmps90.symm (by decide) (fun x r h=>(yZZ x).trans h)
def yR (a0:Int):Bool :=
  let r1:=ya a0 0 65535
  r1
def yGA:Con:=⟨ynx,ytW,fun x=>(fun n=>some ((n,()),())) (yR x.1)⟩
theorem yYg (a0:Int):ywZ a0=(fun n=>some ((n,()),())) (yR a0):=zkS (p:=fun (n:Bool)=>((n,()),())) rfl
theorem yY3:ConOk Tryz.prog 90 yGA:=(yV4).mono (fun x r _ h=>(yYg x.1).trans h)
end
section
def ykW:Code:=(Tryz.f200.body).getD .skip
def yrj:Env:=zki TT [(90,yGA)] []
theorem yOr:FrOk Tryz.prog ⟨yrj,16,fun _=>none⟩ ykW:=zkp yb yc ⟨yY3,trivial⟩
def yDk:Nat→Option Seg:=fun _=>none
def ydd:Shape:=⟨[(0,false,[.br tI]),(3,false,[.int .i64])],[],[]⟩
def yjZ:Shape:=⟨[(0,false,[.br tI]),(3,false,[.ci .i64 0])],[],[]⟩
def yjS:Shape:=⟨[],[],[]⟩
def yke:Shape:=⟨[(2,false,[.bool])],[],[]⟩
def yq1 (v0:List Int) (v1:Int):Option ((ydd).X ⊕ ((yjS).X ⊕ (yke).X)) :=
  bif (ltb v1 (v0.length:Int)) then
    bif (inb v1 v0.length) then
      let r2:=yR (nth v0 v1 0)
      bif (!r2) then
        some (.inr (.inr (((false,()),()),(),())))
      else
        some (.inl (((v0,()),((IntKind.i64.wrap (v1+1)),()),()),(),()))
    else none
  else
    some (.inr (.inl ((),(),())))
def ybQ (x:(ydd).X):=yq1 x.1.1.1 x.1.2.1.1
def yzF (x:(yjZ).X):(ydd).X:=(((x.1.1.1,()),(0,()),()),(),())
def yBv:Code:=(zdI ykW 64 52).getD .skip
theorem yNG:zdI ykW 64 13=some (.block 0 (.loop yBv)):=by kernel_rfl
theorem yPI (x:(ydd).X):zg7 ⟨yrj,16,yDk⟩ 0 yBv 52 ydd yjS yke x=ybQ x:=by kernel_rfl
def yzY (x:(yjZ).X):Nat:=(fun (u0:List Int)=>18446744073709551616) x.1.1.1
def ysp (x:(yjZ).X):Option ((yjS).X ⊕ (yke).X):=zr ybQ (yzY x) (yzF x)
def yAo:Seg:=⟨yjZ,yjS,yke,ysp⟩
def yDl:Nat→Option Seg:=fun q=>bif Nat.beq q 13 then some yAo else yDk q
theorem yOs:FrOk Tryz.prog ⟨yrj,16,yDl⟩ ykW:=(yOr).loop (sg:=yAo) ydd yzF (by decide) yNG ybQ yzY (by decide) (fun _=>rfl) (fun x r _ h=>h) yPI
abbrev ygo:List Par:= [.rd tL]
abbrev yrF:List OT:= [⟨false,tB,.fz⟩]
def ymZ (a0:List Int):Option (ResD yrF×MutD ygo) :=
  zjw (ysp (((a0,()),((),()),()),(),())) (fun y2 =>
    some ((true,()),())) (fun y2 =>
    some ((y2.1.1.1,()),()))
theorem yXx (x:InD ygo):zjH ⟨yrj,16,yDl⟩ Tryz.f200.results.toList ykW ygo yrF x=ymZ x.1:=by kernel_rfl
theorem ySF:ConOk Tryz.prog 200 ⟨ygo,yrF,fun x=>ymZ x.1⟩:=zkh (yOs) Tryz.func200 (by kernel_rfl) (by kernel_rfl) Tryz.ntmps200.symm (by decide) (fun x r h=>(yXx x).trans h)
def yY (a0:List Int):Bool:=a0.all yR
theorem yVA (a0:List Int) (hk:zi9 ygo (a0,())):ymZ a0=(fun n=>some ((n,()),())) (yY a0):=by
  have hb:a0.length * 8≤2 ^ 47:=hk.1.1
  have hl:ysp (((a0,()),((),()),()),(),())=some (bif a0.all yR then .inl ((),(),()) else .inr (((false,()),()),(),())) :=
    zjS (step:=ybQ) a0 0 (fun i=>(((a0,()),((i:Int),()),()),(),())) yR _ _ (fun i hi=>by
      simp only [ybQ,yq1,zkO hi,zjW,zjI (show (i:Int) < a0.length by omega),cond_true,wr (show -9223372036854775808≤(i:Int)+1 by omega) (by omega),Int.natCast_add,Int.natCast_one]
      cases yR (a0.getD i 0)<;>rfl) (by simp only [ybQ,yq1,zkm (Int.le_refl _),cond_false]) _ (by show _ < 18446744073709551616; omega)
  unfold ymZ yY
  rw [hl]
  cases a0.all yR<;>rfl
def ymu:Con:=⟨ygo,yrF,fun x=>(fun n=>some ((n,()),())) (yY x.1)⟩
theorem ywN:ConOk Tryz.prog 200 ymu:=(ySF).mono (fun x r hk h=>(yVA x.1 hk).trans h)
end
section
def yKQ:Code:=(Tryz.f249.body).getD .skip
def yK7:Env:=zki TT [(200,ymu)] []
theorem yUX:FrOk Tryz.prog ⟨yK7,10,fun _=>none⟩ yKQ:=zkp yb yc ⟨ywN,trivial⟩
def yW4:Nat→Option Seg:=fun _=>none
abbrev yqu:List Par:= [.rd tL]
abbrev yv7:List OT:= [⟨false,tB,.fz⟩]
def yyE (a0:List Int):Option (ResD yv7×MutD yqu) :=
  bif (leb (a0.length:Int) 12) then
    let r1:=yY a0
    some ((r1,()),())
  else
    some ((false,()),())
theorem y1f (x:InD yqu):zjH ⟨yK7,10,yW4⟩ Tryz.f249.results.toList yKQ yqu yv7 x=yyE x.1:=by kernel_rfl
theorem yYI:ConOk Tryz.prog 249 ⟨yqu,yv7,fun x=>yyE x.1⟩:=zkh (yUX) Tryz.func249 (by kernel_rfl) (by kernel_rfl) Tryz.ntmps249.symm (by decide) (fun x r h=>(y1f x).trans h)
def yg7 (a0:List Int):Bool :=
  bif (leb (a0.length:Int) 12) then
    let r1:=yY a0
    r1
  else
    false
def yyl:Con:=⟨yqu,yv7,fun x=>(fun n=>some ((n,()),())) (yg7 x.1)⟩
theorem y0s (a0:List Int):yyE a0=(fun n=>some ((n,()),())) (yg7 a0):=zkS (p:=fun (n:Bool)=>((n,()),())) (zkx (p:=fun (n:Bool)=>((n,()),())) rfl rfl)
theorem yJP:ConOk Tryz.prog 249 yyl:=(yYI).mono (fun x r _ h=>(y0s x.1).trans h)
theorem yHc:yg7=ybz:=funext fun s=>by
  unfold yg7 ybz yY
  rw [show yR=isW from funext fun x=>by unfold yR; rw [yfg]; rfl]
  cases leb (s.length:Int) 12<;>rfl
end
section
def yaM:Code:=(Tryz.f218.body).getD .skip
def yeq:Env:=zki TT [(98,yu),(249,yyl)] []
theorem yUS:FrOk Tryz.prog ⟨yeq,91,fun _=>none⟩ yaM:=zkp yb yc ⟨yF,yJP,trivial⟩
def yHz:Nat→Option Seg:=fun _=>none
def ycO:Shape:=⟨[(1,false,[.ptr 0 0]),(3,false,[.int .i64]),(4,false,[.int .i64])],[(0,[.br tL,.br tW,.bool,.br tI])],[]⟩
def yiK:Shape:=⟨[(1,false,[.ptr 0 0]),(3,false,[.int .i64]),(4,false,[.ci .i64 0])],[(0,[.br tL,.br tW,.bool,.br tI])],[]⟩
def yis:Shape:=⟨[(1,false,[.ptr 0 0]),(3,false,[.int .i64])],[(0,[.br tL,.br tW,.bool,.br tI])],[]⟩
def yjb:Shape:=⟨[(2,false,[.bool])],[],[]⟩
abbrev yuD (v0:Int) (v1:Int) (v2:dM):(ycO).X:=((((),()),(v0,()),(v1,()),()),((v2.1,v2.2.1,v2.2.2.1,v2.2.2.2,()),()),())
abbrev yRE (v0:Int) (v1:dM):(yiK).X:=((((),()),(v0,()),((),()),()),((v1.1,v1.2.1,v1.2.2.1,v1.2.2.2,()),()),())
abbrev yRw (v0:Int) (v1:dM):(yis).X:=((((),()),(v0,()),()),((v1.1,v1.2.1,v1.2.2.1,v1.2.2.2,()),()),())
abbrev yRP (v0:Bool):(yjb).X:=(((v0,()),()),(),())
def yu3 (v0:Int) (v1:Int) (v2:List (List Int)) (v3:List dW) (v4:Bool) (v5:List Int):Option ((ycO).X ⊕ ((yis).X ⊕ (yjb).X)) :=
  bif (ltb v1 v0) then
    bif (inb v1 v2.length) then
      let r2:=yg7 (nth v2 v1 [])
      bif (!r2) then
        some (.inr (.inr (((false,()),()),(),())))
      else
        some (.inl ((((),()),(v0,()),((IntKind.i64.wrap (v1+1)),()),()),((v2,v3,v4,v5,()),()),()))
    else none
  else
    some (.inr (.inl ((((),()),(v0,()),()),((v2,v3,v4,v5,()),()),())))
def ydp (x:(ycO).X):=yu3 x.1.2.1.1 x.1.2.2.1.1 x.2.1.1.1 x.2.1.1.2.1 x.2.1.1.2.2.1 x.2.1.1.2.2.2.1
def yD9 (x:(yiK).X):(ycO).X:=((((),()),(x.1.2.1.1,()),(0,()),()),((x.2.1.1.1,x.2.1.1.2.1,x.2.1.1.2.2.1,x.2.1.1.2.2.2.1,()),()),())
def yGd:Code:=(zdI yaM 64 116).getD .skip
theorem yTP:zdI yaM 64 29=some (.block 0 (.loop yGd)):=by kernel_rfl
theorem yWJ (x:(ycO).X):zg7 ⟨yeq,91,yHz⟩ 0 yGd 116 ycO yis yjb x=ydp x:=by kernel_rfl
def yEr (x:(yiK).X):Nat:=(fun (u0:Int) (u1:List (List Int)) (u2:List dW) (u3:Bool) (u4:List Int)=>18446744073709551616) x.1.2.1.1 x.2.1.1.1 x.2.1.1.2.1 x.2.1.1.2.2.1 x.2.1.1.2.2.2.1
def yvH (x:(yiK).X):Option ((yis).X ⊕ (yjb).X):=zr ydp (yEr x) (yD9 x)
def yEW:Seg:=⟨yiK,yis,yjb,yvH⟩
def yyb:Nat→Option Seg:=fun q=>bif Nat.beq q 29 then some yEW else yHz q
theorem yUT:FrOk Tryz.prog ⟨yeq,91,yyb⟩ yaM:=(yUS).loop (sg:=yEW) ycO yD9 (by decide) yTP ydp yEr (by decide) (fun _=>rfl) (fun x r _ h=>h) yWJ
def ycP:Shape:=⟨[(1,false,[.ptr 0 0]),(3,false,[.int .i64]),(5,false,[.int .i64])],[(0,[.br tL,.br tW,.bool,.br tI])],[]⟩
def yiL:Shape:=⟨[(1,false,[.ptr 0 0]),(3,false,[.int .i64]),(5,false,[.ci .i64 0])],[(0,[.br tL,.br tW,.bool,.br tI])],[]⟩
def yit:Shape:=⟨[(1,false,[.ptr 0 0]),(3,false,[.int .i64])],[(0,[.br tL,.br tW,.bool,.br tI])],[]⟩
def yjc:Shape:=⟨[(2,false,[.bool])],[],[]⟩
abbrev yuE (v0:Int) (v1:Int) (v2:dM):(ycP).X:=((((),()),(v0,()),(v1,()),()),((v2.1,v2.2.1,v2.2.2.1,v2.2.2.2,()),()),())
abbrev yRF (v0:Int) (v1:dM):(yiL).X:=((((),()),(v0,()),((),()),()),((v1.1,v1.2.1,v1.2.2.1,v1.2.2.2,()),()),())
abbrev yRx (v0:Int) (v1:dM):(yit).X:=((((),()),(v0,()),()),((v1.1,v1.2.1,v1.2.2.1,v1.2.2.2,()),()),())
abbrev yRQ (v0:Bool):(yjc).X:=(((v0,()),()),(),())
def yu4 (v0:Int) (v1:Int) (v2:List (List Int)) (v3:List dW) (v4:Bool) (v5:List Int):Option ((ycP).X ⊕ ((yit).X ⊕ (yjc).X)) :=
  bif (ltb v1 (v3.length:Int)) then
    bif (inb v1 v3.length) then
      let r6:=ya ((nth v3 v1 (0,[])).1) 0 (IntKind.i64.wrap (v0 - 1))
      bif (!(!r6)) then
        bif (inb v1 v3.length) then
          let r7:=yg7 ((nth v3 v1 (0,[])).2)
          bif (!r7) then
            some (.inr (.inr (((false,()),()),(),())))
          else
            some (.inl ((((),()),(v0,()),((IntKind.i64.wrap (v1+1)),()),()),((v2,v3,v4,v5,()),()),()))
        else none
      else
        some (.inr (.inr (((false,()),()),(),())))
    else none
  else
    some (.inr (.inl ((((),()),(v0,()),()),((v2,v3,v4,v5,()),()),())))
def ydq (x:(ycP).X):=yu4 x.1.2.1.1 x.1.2.2.1.1 x.2.1.1.1 x.2.1.1.2.1 x.2.1.1.2.2.1 x.2.1.1.2.2.2.1
def yEa (x:(yiL).X):(ycP).X:=((((),()),(x.1.2.1.1,()),(0,()),()),((x.2.1.1.1,x.2.1.1.2.1,x.2.1.1.2.2.1,x.2.1.1.2.2.2.1,()),()),())
def yGe:Code:=(zdI yaM 64 244).getD .skip
theorem yTQ:zdI yaM 64 61=some (.block 2 (.loop yGe)):=by kernel_rfl
theorem yWK (x:(ycP).X):zg7 ⟨yeq,91,yyb⟩ 2 yGe 244 ycP yit yjc x=ydq x:=by kernel_rfl
def yEs (x:(yiL).X):Nat:=(fun (u0:Int) (u1:List (List Int)) (u2:List dW) (u3:Bool) (u4:List Int)=>18446744073709551616) x.1.2.1.1 x.2.1.1.1 x.2.1.1.2.1 x.2.1.1.2.2.1 x.2.1.1.2.2.2.1
def yvI (x:(yiL).X):Option ((yit).X ⊕ (yjc).X):=zr ydq (yEs x) (yEa x)
def yEX:Seg:=⟨yiL,yit,yjc,yvI⟩
def yyc:Nat→Option Seg:=fun q=>bif Nat.beq q 61 then some yEX else yyb q
theorem yUU:FrOk Tryz.prog ⟨yeq,91,yyc⟩ yaM:=(yUT).loop (sg:=yEX) ycP yEa (by decide) yTQ ydq yEs (by decide) (fun _=>rfl) (fun x r _ h=>h) yWK
def yb2:Shape:=⟨[(1,false,[.ptr 0 0]),(3,false,[.int .i64]),(6,false,[.int .i64])],[(0,[.br tL,.br tW,.bool,.br tI])],[]⟩
def ygL:Shape:=⟨[(1,false,[.ptr 0 0]),(3,false,[.int .i64]),(6,false,[.ci .i64 0])],[(0,[.br tL,.br tW,.bool,.br tI])],[]⟩
def ygD:Shape:=⟨[(1,false,[.ptr 0 0]),(3,false,[.int .i64])],[(0,[.br tL,.br tW,.bool,.br tI])],[]⟩
def ygW:Shape:=⟨[(2,false,[.bool])],[],[]⟩
abbrev ysy (v0:Int) (v1:Int) (v2:dM):(yb2).X:=((((),()),(v0,()),(v1,()),()),((v2.1,v2.2.1,v2.2.2.1,v2.2.2.2,()),()),())
abbrev yOD (v0:Int) (v1:dM):(ygL).X:=((((),()),(v0,()),((),()),()),((v1.1,v1.2.1,v1.2.2.1,v1.2.2.2,()),()),())
abbrev yOy (v0:Int) (v1:dM):(ygD).X:=((((),()),(v0,()),()),((v1.1,v1.2.1,v1.2.2.1,v1.2.2.2,()),()),())
abbrev yOK (v0:Bool):(ygW).X:=(((v0,()),()),(),())
def ysU (v0:Int) (v1:Int) (v2:List (List Int)) (v3:List dW) (v4:Bool) (v5:List Int):Option ((yb2).X ⊕ ((ygD).X ⊕ (ygW).X)) :=
  bif (ltb v1 (v5.length:Int)) then
    bif (inb v1 v5.length) then
      let r10:=ya (nth v5 v1 0) 0 (IntKind.i64.wrap (v0 - 1))
      bif (!(!r10)) then
        bif (ltb 0 v1) then
          bif (inb (IntKind.i64.wrap (v1 - 1)) v5.length) then
            bif (inb v1 v5.length) then
              bif (leb (nth v5 v1 0) (nth v5 (IntKind.i64.wrap (v1 - 1)) 0)) then
                some (.inr (.inr (((false,()),()),(),())))
              else
                some (.inl ((((),()),(v0,()),((IntKind.i64.wrap (v1+1)),()),()),((v2,v3,v4,v5,()),()),()))
            else none
          else none
        else
          some (.inl ((((),()),(v0,()),((IntKind.i64.wrap (v1+1)),()),()),((v2,v3,v4,v5,()),()),()))
      else
        some (.inr (.inr (((false,()),()),(),())))
    else none
  else
    some (.inr (.inl ((((),()),(v0,()),()),((v2,v3,v4,v5,()),()),())))
def ycy (x:(yb2).X):=ysU x.1.2.1.1 x.1.2.2.1.1 x.2.1.1.1 x.2.1.1.2.1 x.2.1.1.2.2.1 x.2.1.1.2.2.2.1
def yBZ (x:(ygL).X):(yb2).X:=((((),()),(x.1.2.1.1,()),(0,()),()),((x.2.1.1.1,x.2.1.1.2.1,x.2.1.1.2.2.1,x.2.1.1.2.2.2.1,()),()),())
def yDA:Code:=(zdI yaM 64 500).getD .skip
theorem yQi:zdI yaM 64 125=some (.block 4 (.loop yDA)):=by kernel_rfl
theorem yTd (x:(yb2).X):zg7 ⟨yeq,91,yyc⟩ 4 yDA 500 yb2 ygD ygW x=ycy x:=by kernel_rfl
def yCd (x:(ygL).X):Nat:=(fun (u0:Int) (u1:List (List Int)) (u2:List dW) (u3:Bool) (u4:List Int)=>18446744073709551616) x.1.2.1.1 x.2.1.1.1 x.2.1.1.2.1 x.2.1.1.2.2.1 x.2.1.1.2.2.2.1
def yuj (x:(ygL).X):Option ((ygD).X ⊕ (ygW).X):=zr ycy (yCd x) (yBZ x)
def yCu:Seg:=⟨ygL,ygD,ygW,yuj⟩
def yHA:Nat→Option Seg:=fun q=>bif Nat.beq q 125 then some yCu else yyc q
theorem yUV:FrOk Tryz.prog ⟨yeq,91,yHA⟩ yaM:=(yUU).loop (sg:=yCu) yb2 yBZ (by decide) yQi ycy yCd (by decide) (fun _=>rfl) (fun x r _ h=>h) yTd
abbrev ylb:List Par:= [.rd tM]
abbrev yv5:List OT:= [⟨false,tB,.fz⟩]
def yr4 (a0:dM):Option (ResD yv5×MutD ylb) :=
  zjw (yvH ((((),()),((a0.1.length:Int),()),((),()),()),((a0.1,a0.2.1,a0.2.2.1,a0.2.2.2,()),()),())) (fun y2 =>
    zjw (yvI ((((),()),(y2.1.2.1.1,()),((),()),()),((y2.2.1.1.1,y2.2.1.1.2.1,y2.2.1.1.2.2.1,y2.2.1.1.2.2.2.1,()),()),())) (fun y7 =>
      zjw (yuj ((((),()),(y7.1.2.1.1,()),((),()),()),((y7.2.1.1.1,y7.2.1.1.2.1,y7.2.1.1.2.2.1,y7.2.1.1.2.2.2.1,()),()),())) (fun y10 =>
        let r12:=ya y10.1.2.1.1 1 20
        bif r12 then
          some (((leb (y10.2.1.1.2.1.length:Int) 60),()),())
        else
          some ((false,()),())) (fun y10 =>
        some ((y10.1.1.1,()),()))) (fun y7 =>
      some ((y7.1.1.1,()),()))) (fun y2 =>
    some ((y2.1.1.1,()),()))
theorem y1d (x:InD ylb):zjH ⟨yeq,91,yHA⟩ Tryz.f218.results.toList yaM ylb yv5 x=yr4 x.1:=by kernel_rfl
theorem yYG:ConOk Tryz.prog 218 ⟨ylb,yv5,fun x=>yr4 x.1⟩:=zkh (yUV) Tryz.func218 (by kernel_rfl) (by kernel_rfl) Tryz.ntmps218.symm (by decide) (fun x r h=>(y1d x).trans h)
def yX (a0:dM):Bool:=yp a0
theorem y0q (a0:dM) (hk:zi9 ylb (a0,())):yr4 a0=(fun n=>some ((n,()),())) (yX a0):=by
  have hb1:a0.1.length * 24≤2 ^ 47:=hk.1.1.1
  have hb2:a0.2.1.length * 32≤2 ^ 47:=hk.1.2.1.1
  have hb3:a0.2.2.2.length * 8≤2 ^ 47:=hk.1.2.2.2.1
  have h1:yvH (yRE a0.1.length a0)=some (bif a0.1.all ybz then .inl (yRw a0.1.length a0) else .inr (yRP false)) :=
    zjS (step:=ydp) a0.1 [] (fun i=>yuD a0.1.length i a0) ybz _ _ (fun i hi=>by
      simp only [ydp,yuD,yu3,zjI (show (i:Int) < a0.1.length by omega),cond_true,wr (show -9223372036854775808≤(i:Int)+1 by omega) (by omega),Int.natCast_add,Int.natCast_one,Int.toNat_natCast,zkO hi,zjW,yHc]
      cases ybz (a0.1.getD i [])<;>rfl) (by simp only [ydp,yuD,yu3,zkm (Int.le_refl _),cond_false]) _ (by show _ < 18446744073709551616; omega)
  have h2:yvI (yRF a0.1.length a0)=some (bif a0.2.1.all (yyF a0.1.length) then .inl (yRx a0.1.length a0) else .inr (yRQ false)) :=
    zjS (step:=ydq) a0.2.1 (0,[]) (fun i=>yuE a0.1.length i a0) (yyF a0.1.length) _ _ (fun i hi=>by
      simp only [ydq,yuE,yu4,zjI (show (i:Int) < a0.2.1.length by omega),cond_true,wr (show -9223372036854775808≤(i:Int)+1 by omega) (by omega),Int.natCast_add,Int.natCast_one,Int.toNat_natCast,zkO hi,zjW,yHc,ytb (show a0.1.length≤1152921504606846976 by omega),yyF]
      cases inb (a0.2.1.getD i (0,[])).1 a0.1.length<;>cases ybz (a0.2.1.getD i (0,[])).2<;>rfl) (by simp only [ydq,yuE,yu4,zkm (Int.le_refl _),cond_false]) _ (by show _ < 18446744073709551616; omega)
  have h3:yuj (yOD a0.1.length a0)=some (bif (List.range a0.2.2.2.length).any (yF3 a0.1.length a0.2.2.2) then .inr (yOK false) else .inl (yOy a0.1.length a0)) :=
    zf4 (step:=ycy) (fun i=>ysy a0.1.length i a0) a0.2.2.2.length (yF3 a0.1.length a0.2.2.2) _ _ (fun i hi=>by
      simp only [ycy,ysy,ysU,zjI (show (i:Int) < a0.2.2.2.length by omega),cond_true,wr (show -9223372036854775808≤(i:Int)+1 by omega) (by omega),Int.natCast_add,Int.natCast_one,Int.toNat_natCast,zkO hi,zjW,ytb (show a0.1.length≤1152921504606846976 by omega),yF3]
      rcases Nat.eq_zero_or_pos i with rfl | h0
      · cases inb (a0.2.2.2.getD 0 0) a0.1.length<;>rfl
      · rw [show IntKind.i64.wrap ((i:Int) - 1)=((i - 1:Nat):Int) by rw [wr (by omega) (by omega)]; omega,zkO (show i - 1 < a0.2.2.2.length by omega),zjW,zjI (show (0:Int) < i by omega),decide_eq_true h0]
        cases inb (a0.2.2.2.getD i 0) a0.1.length<;>cases leb (a0.2.2.2.getD i 0) (a0.2.2.2.getD (i - 1) 0)<;>rfl) (by simp only [ycy,ysy,ysU,zkm (Int.le_refl _),cond_false]) _ (by show _ < 18446744073709551616; omega)
  unfold yr4 yX yp
  rw [h1]
  cases a0.1.all ybz
  · rfl
  simp only [cond_true,zkJ,h2]
  cases a0.2.1.all (yyF a0.1.length)
  · rfl
  simp only [cond_true,zkJ,h3,yZj,yfg]
  cases ywb a0.1.length a0.2.2.2
  · rfl
  simp only [Bool.not_true,cond_false,zkJ]
  cases leb 1 (a0.1.length:Int)<;>cases leb (a0.1.length:Int) 20<;>rfl
def ygp:Con:=⟨ylb,yv5,fun x=>(fun n=>some ((n,()),())) (yX x.1)⟩
theorem ynS:ConOk Tryz.prog 218 ygp:=(yYG).mono (fun x r hk h=>(y0q x.1 hk).trans h)
end
end
end Go.Tf
