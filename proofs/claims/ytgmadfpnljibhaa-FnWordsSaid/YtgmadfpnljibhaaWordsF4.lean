/- Functions of the program, and what they come to. -/
import Derived.Test.YtgmadfpnljibhaaWordsF3
namespace Go.Tf
noncomputable section
open Go.Proofs
set_option synthInstance.maxHeartbeats 400000
set_option synthInstance.maxSize 10000
set_option linter.unusedVariables false
set_option linter.unusedSimpArgs false
set_option maxRecDepth 100000
section
def yxR:Code:=(Try.f89.body).getD .skip
def yyh:Env:=zki TT [(91,ydY)] []
theorem yCM:FrOk Try.prog ⟨yyh,12,fun _=>none⟩ yxR:=zkp yc yd ⟨yiS,trivial⟩
def yEP:Nat→Option Seg:=fun _=>none
abbrev yir:List Par:= [.rd tG]
abbrev yms:List OT:= [⟨false,tI,.fz⟩]
def ypa (a0:dG):Option (ResD yms×MutD yir) :=
  let r1:=yb a0
  bif (!r1) then
    some ((0,()),())
  else
    some (((IntKind.i64.wrap (a0.2 * (IntKind.i64.wrap (a0.1 - 1)))),()),())
theorem yKD (x:InD yir):zjH ⟨yyh,12,yEP⟩ Try.f89.results.toList yxR yir yms x=ypa x.1:=by kernel_rfl
theorem yGT:ConOk Try.prog 89 ⟨yir,yms,fun x=>ypa x.1⟩:=zkh (yCM) Try.func89 (by kernel_rfl) (by kernel_rfl) Try.ntmps89.symm (by decide) (fun x r h=>(yKD x).trans h)
def yo (a0:dG):Int :=
  let r1:=yb a0
  bif (!r1) then
    0
  else
    (IntKind.i64.wrap (a0.2 * (IntKind.i64.wrap (a0.1 - 1))))
def yjr:Con:=⟨yir,yms,fun x=>(fun n=>some ((n,()),())) (yo x.1)⟩
theorem yIK (a0:dG):ypa a0=(fun n=>some ((n,()),())) (yo a0):=zkS (p:=fun (n:Int)=>((n,()),())) (zkx (p:=fun (n:Int)=>((n,()),())) rfl rfl)
theorem ypL:ConOk Try.prog 89 yjr:=(yGT).mono (fun x r _ h=>(yIK x.1).trans h)
theorem yJQ (a:Int×Int):0≤yo a∧yo a≤32:=by
  unfold yo
  cases h:yb a
  · simp
  · obtain ⟨⟨h1,h2⟩,h3,h4⟩:=yk.1 h
    have h5:0≤a.2 * (a.1 - 1):=Int.mul_nonneg (by omega) (by omega)
    have h6:a.2 * (a.1 - 1)≤8 * 4:=Int.mul_le_mul h4 (by omega) (by omega) (by omega)
    simp only [Bool.not_true,cond_false,wr (show -9223372036854775808≤a.1 - 1 by omega) (by omega),wr (show -9223372036854775808≤a.2 * (a.1 - 1) by omega) (by omega)]
    omega
theorem yxa {a:Int×Int} (h:yb a=true):yo a=a.2 * (a.1 - 1):=by
  unfold yo
  obtain ⟨⟨h1,h2⟩,h3,h4⟩:=yk.1 h
  have h5:0≤a.2 * (a.1 - 1):=Int.mul_nonneg (by omega) (by omega)
  have h6:a.2 * (a.1 - 1)≤8 * 4:=Int.mul_le_mul h4 (by omega) (by omega) (by omega)
  simp only [h,Bool.not_true,cond_false,wr (show -9223372036854775808≤a.1 - 1 by omega) (by omega),wr (show -9223372036854775808≤a.2 * (a.1 - 1) by omega) (by omega)]
def yE (l:List dW) (s:Int):Int:=yai (fun e:dW=>e.1==s) l
def blkOk (g:dG) (b:Int):Bool:=leb 0 b&&leb b (yo g - 1)
def yaK (g:dG) (b:Int):Int:=bif blkOk g b then b.tdiv (g.1 - 1) else -1
def ynP (g:dG) (b:Int):Int:=bif blkOk g b then b.tmod (g.1 - 1) else -1
theorem yuI {g:dG} {b:Int} (h:blkOk g b=true):yb g=true∧(0≤b.tdiv (g.1 - 1)∧b.tdiv (g.1 - 1)≤g.2 - 1)∧(0≤b.tmod (g.1 - 1)∧b.tmod (g.1 - 1)≤g.1 - 2):=by
  simp only [blkOk,Bool.and_eq_true,zjQ]at h
  cases hg:yb g
  · have:yo g=0:=by unfold yo; rw [hg]; rfl
    omega
  · rw [yxa hg]at h
    have h2:=yk.1 hg
    rw [Int.tdiv_eq_ediv_of_nonneg h.1,Int.tmod_eq_emod_of_nonneg h.1]
    have h3:=Int.ediv_lt_of_lt_mul (show 0 < g.1 - 1 by omega) (show b < g.2 * (g.1 - 1) by omega)
    have h4:=Int.ediv_nonneg h.1 (show 0≤g.1 - 1 by omega)
    have h5:=Int.emod_nonneg b (show g.1 - 1≠0 by omega)
    have h6:=Int.emod_lt_of_pos b (show 0 < g.1 - 1 by omega)
    exact ⟨rfl,⟨h4,by omega⟩,h5,by omega⟩
theorem yvR {g:dG} {b:Int} (h:blkOk g b=true):yV g (yaK g b)=true:=by
  obtain ⟨h1,h2,_⟩:=yuI h
  unfold yaK
  rw [h,cond_true,yX]
  exact ⟨h1,h2⟩
def yuJ (a:dA) (b:Int):Int:=bif !(yu a) then 1 else bif a.2.2.2.2.2.2.2.2.2.2.1 then 6 else bif blkOk a.2.1 b then 0 else 2
def yav (a:dA) (s:Int):List Int×Bool:=bif leb 0 (yE a.2.2.2.2.2.2.2.2.1 s) then ((nth a.2.2.2.2.2.2.2.2.1 (yE a.2.2.2.2.2.2.2.2.1 s) (0,[])).2,true) else bif a.2.2.2.2.2.2.2.2.2.2.2 then ([],false) else yoP a s
def yPT (a:dA) (b:Int):Int×Int:=bif yuJ a b !=0 then (0,yuJ a b) else bif (yav a (yaK a.2.1 b)).2 then (nth (yav a (yaK a.2.1 b)).1 (ynP a.2.1 b) 0,0) else (0,5)
theorem yPI {a:dA} {b:Int} (h:yuJ a b=0):yu a=true∧blkOk a.2.1 b=true∧a.2.2.2.2.2.2.2.2.2.2.1=false:=by
  unfold yuJ at h
  cases ha:yu a
  · rw [ha]at h; exact absurd (show (1:Int)=0 from h) (by decide)
  · rw [ha]at h
    cases hd:a.2.2.2.2.2.2.2.2.2.2.1
    · rw [hd]at h
      cases hb:blkOk a.2.1 b
      · rw [hb]at h; exact absurd (show (2:Int)=0 from h) (by decide)
      · exact ⟨rfl,rfl,rfl⟩
    · rw [hd]at h; exact absurd (show (6:Int)=0 from h) (by decide)
theorem yN8 {a:dA} (h:yu a=true) {i:Nat} (hi:i < a.2.2.2.2.2.2.2.2.1.length):(0≤(nth a.2.2.2.2.2.2.2.2.1 i (0,[])).1∧(nth a.2.2.2.2.2.2.2.2.1 i (0,[])).1≤a.2.1.2 - 1)∧((nth a.2.2.2.2.2.2.2.2.1 i (0,[])).2.length:Int)=a.2.1.1 - 1∧(nth a.2.2.2.2.2.2.2.2.1 i (0,[])).2.all isW=true∧(0 < i→(nth a.2.2.2.2.2.2.2.2.1 ((i - 1:Nat):Int) (0,[])).1 < (nth a.2.2.2.2.2.2.2.2.1 i (0,[])).1):=by
  have h1:yab a.2.1 a.2.2.2.2.2.2.2.2.1=true:=by simp only [yu,Bool.and_eq_true]at h; exact h.2.2.2.1
  simp only [yab,Bool.not_eq_true',List.any_eq_false,List.mem_range]at h1
  have h2:=h1 i hi
  simp only [ye5,Bool.not_eq_true,Bool.or_eq_false_iff,Bool.not_eq_false',bne_eq_false_iff_eq,Bool.and_eq_true,Bool.and_eq_false_iff,decide_eq_false_iff_not,zjQ]at h2
  refine ⟨h2.1,h2.2.1,h2.2.2.1,fun h0=> ?_⟩
  rcases h2.2.2.2 with h3 | h3
  · exact absurd h0 h3
  · have:=mt zk0 (by rw [h3]; simp: ¬ leb (nth a.2.2.2.2.2.2.2.2.1 i (0,[])).1 (nth a.2.2.2.2.2.2.2.2.1 ((i - 1:Nat):Int) (0,[])).1=true)
    omega
theorem yq2 {a:dA} {s:Int} (h:yu a=true) (hs:yV a.2.1 s=true) (h2:(yav a s).2=true):((yav a s).1.length:Int)=a.2.1.1 - 1:=by
  have hg:=yk.1 (ycT h)
  unfold yav at h2 ⊢
  cases hk:leb 0 (yE a.2.2.2.2.2.2.2.2.1 s)
  · rw [hk]at h2
    simp only [cond_false]at h2 ⊢
    cases hb:a.2.2.2.2.2.2.2.2.2.2.2
    · rw [hb]at h2
      simp only [cond_false]at h2 ⊢
      unfold yoP at h2 ⊢
      cases hw:(yv a s).2
      · rw [hw]at h2; cases h2
      · simp only [cond_true,List.length_map,List.length_range]; omega
    · rw [hb]at h2; cases h2
  · have h3:=zjP.1 (ypI (d:=((0,[]):dW)) hk).1
    have:=(yN8 h (i:=(yE a.2.2.2.2.2.2.2.2.1 s).toNat) (by unfold yE; omega)).2.1
    rw [show (((yE a.2.2.2.2.2.2.2.2.1 s).toNat:Nat):Int)=yE a.2.2.2.2.2.2.2.2.1 s by have:=zjQ.1 hk; omega]at this
    exact this
theorem yNA (g:dG) (b:Int):ya b 0 (IntKind.i64.wrap (yo g - 1))=blkOk g b:=by
  have:=yJQ g
  rw [wr (by omega) (by omega),ybB]; rfl
end
section
def yt7:Code:=(Try.f147.body).getD .skip
def yuC:Env:=zki TT [(60,yp),(89,yjr)] []
theorem yzB:FrOk Try.prog ⟨yuC,16,fun _=>none⟩ yt7:=zkp yc yd ⟨yx,ypL,trivial⟩
def yAu:Nat→Option Seg:=fun _=>none
abbrev yc8:List Par:= [.rd tG,.rd tI]
abbrev yjh:List OT:= [⟨false,tI,.fz⟩]
def ygw (a0:dG) (a1:Int):Option (ResD yjh×MutD yc8) :=
  let r1:=yo a0
  let r2:=ya a1 0 (IntKind.i64.wrap (r1 - 1))
  bif (!r2) then
    some (((-1),()),())
  else
    bif ((IntKind.i64.wrap (a0.1 - 1)) !=0) then
      some (((IntKind.i64.wrap (a1.tdiv (IntKind.i64.wrap (a0.1 - 1)))),()),())
    else none
theorem yFu (x:InD yc8):zjH ⟨yuC,16,yAu⟩ Try.f147.results.toList yt7 yc8 yjh x=ygw x.1 x.2.1:=by kernel_rfl
theorem yBD:ConOk Try.prog 147 ⟨yc8,yjh,fun x=>ygw x.1 x.2.1⟩:=zkh (yzB) Try.func147 (by kernel_rfl) (by kernel_rfl) Try.ntmps147.symm (by decide) (fun x r h=>(yFu x).trans h)
def yfV (a0:dG) (a1:Int):Int:=yaK a0 a1
theorem yDU (a0:dG) (a1:Int) (hk:zi9 yc8 (a0,a1,())):ygw a0 a1=(fun n=>some ((n,()),())) (yfV a0 a1):=by
  unfold ygw yfV yaK
  simp only [yNA]
  cases hb:blkOk a0 a1
  · rfl
  · obtain ⟨h1,h2,h3⟩:=yuI hb
    have h4:=yk.1 h1
    rw [wr (show -9223372036854775808≤a0.1 - 1 by omega) (by omega),show (a0.1 - 1 !=0)=true from bne_iff_ne.2 (by omega),wr (by omega) (by omega)]; rfl
def yrn:Con:=⟨yc8,yjh,fun x=>(fun n=>some ((n,()),())) (yfV x.1 x.2.1)⟩
theorem yEl:ConOk Try.prog 147 yrn:=(yBD).mono (fun x r hk h=>(yDU x.1 x.2.1 hk).trans h)
end
section
def ylV:Code:=(Try.f151.body).getD .skip
def ypZ:Env:=zki TT [] []
theorem yIt:FrOk Try.prog ⟨ypZ,22,fun _=>none⟩ ylV:=zkp yc yd trivial
def yx6:Nat→Option Seg:=fun _=>none
def ycE:Shape:=⟨[(1,false,[.int .i64]),(2,false,[.ptr 0 0]),(5,false,[.int .i64])],[(0,[.int .i64,.int .i64,.int .i64,.br tM,.int .i64,.int .i64,.int .i64,.int .i64,.int .i64,.br tW,.int .i64,.bool,.bool])],[]⟩
def yg3:Shape:=⟨[(1,false,[.int .i64]),(2,false,[.ptr 0 0]),(5,false,[.ci .i64 0])],[(0,[.int .i64,.int .i64,.int .i64,.br tM,.int .i64,.int .i64,.int .i64,.int .i64,.int .i64,.br tW,.int .i64,.bool,.bool])],[]⟩
def yg1:Shape:=⟨[],[],[]⟩
def yhc:Shape:=⟨[(4,false,[.int .i64])],[],[]⟩
abbrev yoX (v0:Int) (v1:Int) (v2:dA):(ycE).X:=(((v0,()),((),()),(v1,()),()),((v2.1,v2.2.1.1,v2.2.1.2,v2.2.2.1,v2.2.2.2.1,v2.2.2.2.2.1,v2.2.2.2.2.2.1,v2.2.2.2.2.2.2.1,v2.2.2.2.2.2.2.2.1,v2.2.2.2.2.2.2.2.2.1,v2.2.2.2.2.2.2.2.2.2.1,v2.2.2.2.2.2.2.2.2.2.2.1,v2.2.2.2.2.2.2.2.2.2.2.2,()),()),())
abbrev yGm (v0:Int) (v1:dA):(yg3).X:=(((v0,()),((),()),((),()),()),((v1.1,v1.2.1.1,v1.2.1.2,v1.2.2.1,v1.2.2.2.1,v1.2.2.2.2.1,v1.2.2.2.2.2.1,v1.2.2.2.2.2.2.1,v1.2.2.2.2.2.2.2.1,v1.2.2.2.2.2.2.2.2.1,v1.2.2.2.2.2.2.2.2.2.1,v1.2.2.2.2.2.2.2.2.2.2.1,v1.2.2.2.2.2.2.2.2.2.2.2,()),()),())
abbrev yGk  :(yg1).X:=((),(),())
abbrev yvv (v0:Int):(yhc).X:=(((v0,()),()),(),())
def ypl (v0:Int) (v1:Int) (v2:Int) (v3:Int) (v4:Int) (v5:List dM) (v6:Int) (v7:Int) (v8:Int) (v9:Int) (v10:Int) (v11:List dW) (v12:Int) (v13:Bool) (v14:Bool):Option ((ycE).X ⊕ ((yg1).X ⊕ (yhc).X)) :=
  bif (ltb v1 (v11.length:Int)) then
    bif (inb v1 v11.length) then
      bif ((nth v11 v1 (0,[])).1==v0) then
        some (.inr (.inr (((v1,()),()),(),())))
      else
        some (.inl (((v0,()),((),()),((IntKind.i64.wrap (v1+1)),()),()),((v2,v3,v4,v5,v6,v7,v8,v9,v10,v11,v12,v13,v14,()),()),()))
    else none
  else
    some (.inr (.inl ((),(),())))
def ycL (x:(ycE).X):=ypl x.1.1.1 x.1.2.2.1.1 x.2.1.1.1 x.2.1.1.2.1 x.2.1.1.2.2.1 x.2.1.1.2.2.2.1 x.2.1.1.2.2.2.2.1 x.2.1.1.2.2.2.2.2.1 x.2.1.1.2.2.2.2.2.2.1 x.2.1.1.2.2.2.2.2.2.2.1 x.2.1.1.2.2.2.2.2.2.2.2.1 x.2.1.1.2.2.2.2.2.2.2.2.2.1 x.2.1.1.2.2.2.2.2.2.2.2.2.2.1 x.2.1.1.2.2.2.2.2.2.2.2.2.2.2.1 x.2.1.1.2.2.2.2.2.2.2.2.2.2.2.2.1
def yvp (x:(yg3).X):(ycE).X:=(((x.1.1.1,()),((),()),(0,()),()),((x.2.1.1.1,x.2.1.1.2.1,x.2.1.1.2.2.1,x.2.1.1.2.2.2.1,x.2.1.1.2.2.2.2.1,x.2.1.1.2.2.2.2.2.1,x.2.1.1.2.2.2.2.2.2.1,x.2.1.1.2.2.2.2.2.2.2.1,x.2.1.1.2.2.2.2.2.2.2.2.1,x.2.1.1.2.2.2.2.2.2.2.2.2.1,x.2.1.1.2.2.2.2.2.2.2.2.2.2.1,x.2.1.1.2.2.2.2.2.2.2.2.2.2.2.1,x.2.1.1.2.2.2.2.2.2.2.2.2.2.2.2.1,()),()),())
def ywE:Code:=(zdI ylV 64 52).getD .skip
theorem yH3:zdI ylV 64 13=some (.block 0 (.loop ywE)):=by kernel_rfl
theorem yJO (x:(ycE).X):zg7 ⟨ypZ,22,yx6⟩ 0 ywE 52 ycE yg1 yhc x=ycL x:=by kernel_rfl
def yvt (x:(yg3).X):Nat:=(fun (u0:Int) (u1:Int) (u2:Int) (u3:Int) (u4:List dM) (u5:Int) (u6:Int) (u7:Int) (u8:Int) (u9:Int) (u10:List dW) (u11:Int) (u12:Bool) (u13:Bool)=>18446744073709551616) x.1.1.1 x.2.1.1.1 x.2.1.1.2.1 x.2.1.1.2.2.1 x.2.1.1.2.2.2.1 x.2.1.1.2.2.2.2.1 x.2.1.1.2.2.2.2.2.1 x.2.1.1.2.2.2.2.2.2.1 x.2.1.1.2.2.2.2.2.2.2.1 x.2.1.1.2.2.2.2.2.2.2.2.1 x.2.1.1.2.2.2.2.2.2.2.2.2.1 x.2.1.1.2.2.2.2.2.2.2.2.2.2.1 x.2.1.1.2.2.2.2.2.2.2.2.2.2.2.1 x.2.1.1.2.2.2.2.2.2.2.2.2.2.2.2.1
def ypA (x:(yg3).X):Option ((yg1).X ⊕ (yhc).X):=zr ycL (yvt x) (yvp x)
def yvD:Seg:=⟨yg3,yg1,yhc,ypA⟩
def yx7:Nat→Option Seg:=fun q=>bif Nat.beq q 13 then some yvD else yx6 q
theorem yIu:FrOk Try.prog ⟨ypZ,22,yx7⟩ ylV:=(yIt).loop (sg:=yvD) ycE yvp (by decide) yH3 ycL yvt (by decide) (fun _=>rfl) (fun x r _ h=>h) yJO
abbrev yiW:List Par:= [.rd tA,.rd tI]
abbrev yp2:List OT:= [⟨false,tI,.fz⟩]
def ymS (a0:dA) (a1:Int):Option (ResD yp2×MutD yiW) :=
  zjw (ypA (((a1,()),((),()),((),()),()),((a0.1,a0.2.1.1,a0.2.1.2,a0.2.2.1,a0.2.2.2.1,a0.2.2.2.2.1,a0.2.2.2.2.2.1,a0.2.2.2.2.2.2.1,a0.2.2.2.2.2.2.2.1,a0.2.2.2.2.2.2.2.2.1,a0.2.2.2.2.2.2.2.2.2.1,a0.2.2.2.2.2.2.2.2.2.2.1,a0.2.2.2.2.2.2.2.2.2.2.2,()),()),())) (fun y0 =>
    some (((-1),()),())) (fun y0 =>
    some ((y0.1.1.1,()),()))
theorem yMJ (x:InD yiW):zjH ⟨ypZ,22,yx7⟩ Try.f151.results.toList ylV yiW yp2 x=ymS x.1 x.2.1:=by kernel_rfl
theorem yLm:ConOk Try.prog 151 ⟨yiW,yp2,fun x=>ymS x.1 x.2.1⟩:=zkh (yIu) Try.func151 (by kernel_rfl) (by kernel_rfl) Try.ntmps151.symm (by decide) (fun x r h=>(yMJ x).trans h)
def yf8 (a0:dA) (a1:Int):Int:=yE a0.2.2.2.2.2.2.2.2.1 a1
theorem yMp (a0:dA) (a1:Int) (hk:zi9 yiW (a0,a1,())):ymS a0 a1=(fun n=>some ((n,()),())) (yf8 a0 a1):=by
  have hb:a0.2.2.2.2.2.2.2.2.1.length * 32≤2 ^ 47:=hk.1.2.2.2.2.2.2.2.2.1.1
  have h1:ypA (yGm a1 a0)=some (bif leb 0 (yE a0.2.2.2.2.2.2.2.2.1 a1) then .inr (yvv (yE a0.2.2.2.2.2.2.2.2.1 a1)) else .inl yGk) :=
    yNL (step:=ycL) a0.2.2.2.2.2.2.2.2.1 (0,[]) (fun i=>yoX a1 i a0) (fun e:dW=>e.1==a1) (fun i=> .inr (yvv i)) _ (fun i hi=>by
      simp only [ycL,yoX,ypl,zjI (show (i:Int) < a0.2.2.2.2.2.2.2.2.1.length by omega),cond_true,wr (show -9223372036854775808≤(i:Int)+1 by omega) (by omega),Int.natCast_add,Int.natCast_one,Int.toNat_natCast,zkO hi,zjW]
      cases ((a0.2.2.2.2.2.2.2.2.1.getD i (0,[])).1==a1)<;>rfl) (by simp only [ycL,yoX,ypl,zkm (Int.le_refl _),cond_false]) _ (by show _ < 18446744073709551616; omega)
  unfold ymS yf8
  rw [h1]
  cases h:leb 0 (yE a0.2.2.2.2.2.2.2.2.1 a1)
  · rw [show yE a0.2.2.2.2.2.2.2.2.1 a1= -1 from yOJ h]; rfl
  · rfl
def yqR:Con:=⟨yiW,yp2,fun x=>(fun n=>some ((n,()),())) (yf8 x.1 x.2.1)⟩
theorem yz8:ConOk Try.prog 151 yqR:=(yLm).mono (fun x r hk h=>(yMp x.1 x.2.1 hk).trans h)
end
section
def yxU:Code:=(Try.f195.body).getD .skip
def yyk:Env:=zki TT [(60,yp)] []
theorem yCP:FrOk Try.prog ⟨yyk,34,fun _=>none⟩ yxU:=zkp yc yd ⟨yx,trivial⟩
def yES:Nat→Option Seg:=fun _=>none
abbrev yeY:List Par:= [.rd tA,.rd tI,.rd tI]
abbrev ymv:List OT:= [⟨false,tB,.fz⟩]
def yjH (a0:dA) (a1:Int) (a2:Int):Option (ResD ymv×MutD yeY) :=
  let r1:=ya a1 0 (IntKind.i64.wrap ((a0.2.2.1.length:Int) - 1))
  bif r1 then
    bif (inb a1 a0.2.2.1.length) then
      bif (!((((nth a0.2.2.1 a1 ([],[],false,[])).2).2).1)) then
        bif (!(a1 !=a0.2.2.2.1)) then
          some (((ltb a2 a0.2.2.2.2.1),()),())
        else
          some ((true,()),())
      else
        some ((false,()),())
    else none
  else
    some ((false,()),())
theorem yKG (x:InD yeY):zjH ⟨yyk,34,yES⟩ Try.f195.results.toList yxU yeY ymv x=yjH x.1 x.2.1 x.2.2.1:=by kernel_rfl
theorem yGW:ConOk Try.prog 195 ⟨yeY,ymv,fun x=>yjH x.1 x.2.1 x.2.2.1⟩:=zkh (yCP) Try.func195 (by kernel_rfl) (by kernel_rfl) Try.ntmps195.symm (by decide) (fun x r h=>(yKG x).trans h)
def ych (a0:dA) (a1 a2:Int):Bool:=yaV a0 a1 a2
theorem yIN (a0:dA) (a1 a2:Int) (hk:zi9 yeY (a0,a1,a2,())):yjH a0 a1 a2=(fun n=>some ((n,()),())) (ych a0 a1 a2):=by
  have hb:a0.2.2.1.length * 80≤2 ^ 47:=hk.1.2.2.1.1
  unfold yjH ych yaV noMem
  rw [yl3 (show a0.2.2.1.length≤1152921504606846976 by omega)]
  cases inb a1 a0.2.2.1.length
  · rfl
  · cases (nth a0.2.2.1 a1 ([],[],false,[])).2.2.1<;>cases (a1 !=a0.2.2.2.1)<;>rfl
def yoM:Con:=⟨yeY,ymv,fun x=>(fun n=>some ((n,()),())) (ych x.1 x.2.1 x.2.2.1)⟩
theorem yw4:ConOk Try.prog 195 yoM:=(yGW).mono (fun x r hk h=>(yIN x.1 x.2.1 x.2.2.1 hk).trans h)
end
section
def ygE:Code:=(Try.f196.body).getD .skip
def ykF:Env:=zki TT [(60,yp),(101,ydZ),(102,ypG)] []
theorem yAX:FrOk Try.prog ⟨ykF,60,fun _=>none⟩ ygE:=zkp yc yd ⟨yx,yiT,yyA,trivial⟩
def ysm:Nat→Option Seg:=fun _=>none
def yaG:Shape:=⟨[(1,false,[.int .i64]),(2,false,[.ptr 0 0]),(6,false,[.br tI]),(7,false,[.int .i64])],[(0,[.br tL,.br tW,.bool,.br tI])],[]⟩
def ydA:Shape:=⟨[(1,false,[.int .i64]),(2,false,[.ptr 0 0]),(6,false,[.br tI]),(7,false,[.ci .i64 0])],[(0,[.br tL,.br tW,.bool,.br tI])],[]⟩
def ydt:Shape:=⟨[(6,false,[.br tI])],[],[]⟩
def ygm:Shape:=⟨[],[],[]⟩
abbrev ykj (v0:Int) (v1:List Int) (v2:Int) (v3:dM):(yaG).X:=(((v0,()),((),()),(v1,()),(v2,()),()),((v3.1,v3.2.1,v3.2.2.1,v3.2.2.2,()),()),())
abbrev yzT (v0:Int) (v1:List Int) (v2:dM):(ydA).X:=(((v0,()),((),()),(v1,()),((),()),()),((v2.1,v2.2.1,v2.2.2.1,v2.2.2.2,()),()),())
abbrev yqG (v0:List Int):(ydt).X:=(((v0,()),()),(),())
def ykx (v0:Int) (v1:List Int) (v2:Int) (v3:List (List Int)) (v4:List dW) (v5:Bool) (v6:List Int):Option ((yaG).X ⊕ ((ydt).X ⊕ (ygm).X)) :=
  bif (ltb v2 (v4.length:Int)) then
    bif (inb v2 v4.length) then
      bif ((nth v4 v2 (0,[])).1==v0) then
        bif (inb v2 v4.length) then
          some (.inl (((v0,()),((),()),((nth v4 v2 (0,[])).2,()),((IntKind.i64.wrap (v2+1)),()),()),((v3,v4,v5,v6,()),()),()))
        else none
      else
        some (.inl (((v0,()),((),()),(v1,()),((IntKind.i64.wrap (v2+1)),()),()),((v3,v4,v5,v6,()),()),()))
    else none
  else
    some (.inr (.inl (((v1,()),()),(),())))
def yaQ (x:(yaG).X):=ykx x.1.1.1 x.1.2.2.1.1 x.1.2.2.2.1.1 x.2.1.1.1 x.2.1.1.2.1 x.2.1.1.2.2.1 x.2.1.1.2.2.2.1
def yqm (x:(ydA).X):(yaG).X:=(((x.1.1.1,()),((),()),(x.1.2.2.1.1,()),(0,()),()),((x.2.1.1.1,x.2.1.1.2.1,x.2.1.1.2.2.1,x.2.1.1.2.2.2.1,()),()),())
def yrg:Code:=(zdI ygE 64 244).getD .skip
theorem yAE:zdI ygE 64 61=some (.block 0 (.loop yrg)):=by kernel_rfl
theorem yBO (x:(yaG).X):zg7 ⟨ykF,60,ysm⟩ 0 yrg 244 yaG ydt ygm x=yaQ x:=by kernel_rfl
def yqy (x:(ydA).X):Nat:=(fun (u0:Int) (u1:List Int) (u2:List (List Int)) (u3:List dW) (u4:Bool) (u5:List Int)=>18446744073709551616) x.1.1.1 x.1.2.2.1.1 x.2.1.1.1 x.2.1.1.2.1 x.2.1.1.2.2.1 x.2.1.1.2.2.2.1
def ylr (x:(ydA).X):Option ((ydt).X ⊕ (ygm).X):=zr yaQ (yqy x) (yqm x)
def yqM:Seg:=⟨ydA,ydt,ygm,ylr⟩
def ysn:Nat→Option Seg:=fun q=>bif Nat.beq q 61 then some yqM else ysm q
theorem yAY:FrOk Try.prog ⟨ykF,60,ysn⟩ ygE:=(yAX).loop (sg:=yqM) yaG yqm (by decide) yAE yaQ yqy (by decide) (fun _=>rfl) (fun x r _ h=>h) yBO
abbrev ydW:List Par:= [.rd tM,.rd tI]
abbrev ykQ:List OT:= [⟨false,tL,(.ow .fz)⟩,⟨false,tB,.fz⟩]
def yh0 (a0:dM) (a1:Int):Option (ResD ykQ×MutD ydW) :=
  let r1:=yR a0
  bif (!(!r1)) then
    bif (!a0.2.2.1) then
      let r2:=ya a1 0 (IntKind.i64.wrap ((a0.1.length:Int) - 1))
      bif (!(!r2)) then
        let r3:=yeJ a0.2.2.2 a1
        bif r3 then
          some ((([]:List Int),false,()),())
        else
          bif (inb a1 a0.1.length) then
            zjw (ylr (((a1,()),((),()),((nth a0.1 a1 []),()),((),()),()),((a0.1,a0.2.1,a0.2.2.1,a0.2.2.2,()),()),())) (fun y3 =>
              bif (zj4 ([]:List Int).length y3.1.1.1.length 8) then
                some (((([]:List Int)++y3.1.1.1),true,()),())
              else none) (fun y3 =>
              none)
          else none
      else
        some ((([]:List Int),false,()),())
    else
      some ((([]:List Int),false,()),())
  else
    some ((([]:List Int),false,()),())
theorem yIg (x:InD ydW):zjH ⟨ykF,60,ysn⟩ Try.f196.results.toList ygE ydW ykQ x=yh0 x.1 x.2.1:=by kernel_rfl
theorem yD7:ConOk Try.prog 196 ⟨ydW,ykQ,fun x=>yh0 x.1 x.2.1⟩:=zkh (yAY) Try.func196 (by kernel_rfl) (by kernel_rfl) Try.ntmps196.symm (by decide) (fun x r h=>(yIg x).trans h)
def yhm (a0:dM) (a1:Int):List Int×Bool:=ye8 a0 a1
theorem yGx (a0:dM) (a1:Int) (hk:zi9 ydW (a0,a1,())):yh0 a0 a1=(fun n=>some ((n.1,n.2,()),())) (yhm a0 a1):=by
  have hb1:a0.1.length * 24≤2 ^ 47:=hk.1.1.1
  have hb2:a0.2.1.length * 32≤2 ^ 47:=hk.1.2.1.1
  have h1: ∀ s,ylr (yzT a1 s a0)=some (.inl (yqG (yeL a1 a0.2.1 s))):=fun s =>
    zkk (step:=yaQ) a0.2.1 (0,[]) (fun i s=>ykj a1 s i a0) (fun s w=>bif w.1==a1 then w.2 else s) (fun _ _=>True) (fun s=> .inl (yqG s)) (fun i s hi _=>⟨by
      simp only [yaQ,ykj,ykx,zjI (show (i:Int) < a0.2.1.length by omega),cond_true,wr (show -9223372036854775808≤(i:Int)+1 by omega) (by omega),Int.natCast_add,Int.natCast_one,Int.toNat_natCast,zkO hi,zjW]
      cases ((a0.2.1.getD i (0,[])).1==a1)<;>rfl,trivial⟩) (fun s _=>by simp only [yaQ,ykj,ykx,zkm (Int.le_refl _),cond_false]) s trivial _ (by show _ < 18446744073709551616; omega)
  unfold yh0 yhm ye8 ysa
  rw [yl3 (show a0.1.length≤1152921504606846976 by omega)]
  unfold yR yeJ
  simp only [h1,zkJ,List.nil_append]
  cases ym a0
  · rfl
  cases a0.2.2.1
  · cases hi:inb a1 a0.1.length
    · rfl
    · cases a0.2.2.2.any (· ==a1)
      · have hs:(yeL a1 a0.2.1 (nth a0.1 a1 [])).length * 8≤2 ^ 47 :=
          yxy (P:=fun s=>s.length * 8≤2 ^ 47) (ysb (P:=fun s:List Int=>s.length * 8≤2 ^ 47) hi fun x hx=>(hk.1.1.2 x hx).1) fun w hw=>(hk.1.2.1.2 w hw).2.1
        simp only [Bool.not_true,Bool.not_false,cond_true,cond_false,Bool.true_and,show zj4 ([]:List Int).length (yeL a1 a0.2.1 (nth a0.1 a1 [])).length 8=true from zkw.2 (by rw [List.length_nil]; omega)]
      · rfl
  · rfl
def ysR:Con:=⟨ydW,ykQ,fun x=>(fun n=>some ((n.1,n.2,()),())) (yhm x.1 x.2.1)⟩
theorem yHn:ConOk Try.prog 196 ysR:=(yD7).mono (fun x r hk h=>(yGx x.1 x.2.1 hk).trans h)
end
section
def yx4:Code:=(Try.f179.body).getD .skip
def yyu:Env:=zki TT [(62,ydd),(195,yoM),(196,ysR)] []
theorem yDa:FrOk Try.prog ⟨yyu,36,fun _=>none⟩ yx4:=zkp yc yd ⟨yhx,yw4,yHn,trivial⟩
def yE2:Nat→Option Seg:=fun _=>none
abbrev ye2:List Par:= [.rd tA,.rd tI,.rd tI]
abbrev ymH:List OT:= [⟨false,tI,.fz⟩,⟨false,tB,.fz⟩]
def yjN (a0:dA) (a1:Int) (a2:Int):Option (ResD ymH×MutD ye2) :=
  let r1:=ych a0 a1 a2
  bif (!r1) then
    some ((0,false,()),())
  else
    bif (inb a1 a0.2.2.1.length) then
      let r2:=yax a2
      let r3:=yhm ((nth a0.2.2.1 a1 ([],[],false,[])).1,((nth a0.2.2.1 a1 ([],[],false,[])).2).1,(((nth a0.2.2.1 a1 ([],[],false,[])).2).2)) r2
      bif (!(!r3.2)) then
        bif ((r3.1.length:Int) !=1) then
          some ((0,false,()),())
        else
          bif (inb 0 r3.1.length) then
            some (((nth r3.1 0 0),true,()),())
          else none
      else
        some ((0,false,()),())
    else none
theorem yKV (x:InD ye2):zjH ⟨yyu,36,yE2⟩ Try.f179.results.toList yx4 ye2 ymH x=yjN x.1 x.2.1 x.2.2.1:=by kernel_rfl
theorem yHb:ConOk Try.prog 179 ⟨ye2,ymH,fun x=>yjN x.1 x.2.1 x.2.2.1⟩:=zkh (yDa) Try.func179 (by kernel_rfl) (by kernel_rfl) Try.ntmps179.symm (by decide) (fun x r h=>(yKV x).trans h)
def yiQ (a0:dA) (a1 a2:Int):Int×Bool:=(ykB a0 a1 a2,yj a0 a1 a2)
theorem yIX (a0:dA) (a1 a2:Int) (hk:zi9 ye2 (a0,a1,a2,())):yjN a0 a1 a2=(fun n=>some ((n.1,n.2,()),())) (yiQ a0 a1 a2):=by
  unfold yjN yiQ ykB ych
  simp only [zkV,yd8,yhm]
  rw [show yj a0 a1 a2=(yaV a0 a1 a2&&((ybA a0 a1 a2).2&&((ybA a0 a1 a2).1.length:Int)==1)) from rfl]
  rw [show ye8 (nth a0.2.2.1 a1 ([],[],false,[])) (dataAt a2)=ybA a0 a1 a2 from rfl]
  cases hl:yaV a0 a1 a2
  · rfl
  · rw [show inb a1 a0.2.2.1.length=true by unfold yaV at hl; exact (Bool.and_eq_true_iff.1 hl).1]
    cases (ybA a0 a1 a2).2
    · rfl
    · rw [bne]
      cases h1:(((ybA a0 a1 a2).1.length:Int)==1)
      · rfl
      · rw [show inb 0 (ybA a0 a1 a2).1.length=true from zjP.2 (by have:=beq_iff_eq.1 h1; omega)]; rfl
def yvj:Con:=⟨ye2,ymH,fun x=>(fun n=>some ((n.1,n.2,()),())) (yiQ x.1 x.2.1 x.2.2.1)⟩
theorem yJH:ConOk Try.prog 179 yvj:=(yHb).mono (fun x r hk h=>(yIX x.1 x.2.1 x.2.2.1 hk).trans h)
end
end
end Go.Tf
