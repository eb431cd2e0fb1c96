/- Functions of the program, and what they come to. -/
import Derived.Test.YtgmadfpnljibhaaGreatArrsF5
namespace Go.Tf
noncomputable section
open Go.Proofs
set_option synthInstance.maxHeartbeats 400000
set_option synthInstance.maxSize 10000
set_option linter.unusedVariables false
set_option linter.unusedSimpArgs false
set_option maxRecDepth 100000
section
def yHB:Code:=(Tryz.f121.body).getD .skip
def yH8:Env:=zj2 TT [(134,ygp)] []
theorem yOU:FrOk Tryz.prog ⟨yH8,12,fun _=>none⟩ yHB:=zj6 yc yd ⟨ym4,trivial⟩
def yRr:Nat→Option Seg:=fun _=>none
abbrev ymq:List Par:= [.rd tG]
abbrev yso:List OT:= [⟨false,tI,.fz⟩]
def yvP (a0:dG):Option (ResD yso×MutD ymq) :=
 let r1:=yb a0
 bif (!r1) then
 some ((0,()),())
 else
 some (((IntKind.i64.wrap (a0.2 * (IntKind.i64.wrap (a0.1 - 1)))),()),())
theorem yYc (x:InD ymq):zjx ⟨yH8,12,yRr⟩ Tryz.f121.results.toList yHB ymq yso x=yvP x.1:=by kernel_rfl
theorem yT3:ConOk Tryz.prog 121 ⟨ymq,yso,fun x=>yvP x.1⟩:=zj1 (yOU) Tryz.func121 (by kernel_rfl) (by kernel_rfl) Tryz.ntmps121.symm (by decide) (fun x r h=>(yYc x).trans h)
def yg (a0:dG):Int :=
 let r1:=yb a0
 bif (!r1) then
 0
 else
 (IntKind.i64.wrap (a0.2 * (IntKind.i64.wrap (a0.1 - 1))))
def yom:Con:=⟨ymq,yso,fun x=>(fun n=>some ((n,()),())) (yg x.1)⟩
theorem yWf (a0:dG):yvP a0=(fun n=>some ((n,()),())) (yg a0):=zkp (p:=fun (n:Int)=>((n,()),())) (zkb (p:=fun (n:Int)=>((n,()),())) rfl rfl)
theorem yw6:ConOk Tryz.prog 121 yom:=(yT3).mono (fun x r _ h=>(yWf x.1).trans h)
theorem yq0 (a:Int×Int):0≤yg a∧yg a≤32:=by
 unfold yg
 cases h:yb a
 ·simp
 ·obtain ⟨⟨h1,h2⟩,h3,h4⟩:=yi.1 h
  have h5:0≤a.2 * (a.1 - 1):=Int.mul_nonneg (by omega) (by omega)
  have h6:a.2 * (a.1 - 1)≤8 * 4:=Int.mul_le_mul h4 (by omega) (by omega) (by omega)
  simp only [Bool.not_true,cond_false,wr (show -9223372036854775808≤a.1 - 1 by omega) (by omega),wr (show -9223372036854775808≤a.2 * (a.1 - 1) by omega) (by omega)]
  omega
theorem yGP {a:Int×Int} (h:yb a=true):yg a=a.2 * (a.1 - 1):=by
 unfold yg
 obtain ⟨⟨h1,h2⟩,h3,h4⟩:=yi.1 h
 have h5:0≤a.2 * (a.1 - 1):=Int.mul_nonneg (by omega) (by omega)
 have h6:a.2 * (a.1 - 1)≤8 * 4:=Int.mul_le_mul h4 (by omega) (by omega) (by omega)
 simp only [h,Bool.not_true,cond_false,wr (show -9223372036854775808≤a.1 - 1 by omega) (by omega),wr (show -9223372036854775808≤a.2 * (a.1 - 1) by omega) (by omega)]
def yC (l:List dW) (s:Int):Int:=yW (fun e:dW=>e.1==s) l
def blkOk (g:dG) (b:Int):Bool:=leb 0 b&&leb b (yg g - 1)
def yT (g:dG) (b:Int):Int:=bif blkOk g b then b.tdiv (g.1 - 1) else -1
def yd5 (g:dG) (b:Int):Int:=bif blkOk g b then b.tmod (g.1 - 1) else -1
theorem ypv {g:dG} {b:Int} (h:blkOk g b=true):yb g=true∧(0≤b.tdiv (g.1 - 1)∧b.tdiv (g.1 - 1)≤g.2 - 1)∧(0≤b.tmod (g.1 - 1)∧b.tmod (g.1 - 1)≤g.1 - 2):=by
 simp only [blkOk,Bool.and_eq_true,zjE]at h
 cases hg:yb g
 ·have:yg g=0:=by unfold yg; rw [hg]; rfl
  omega
 ·rw [yGP hg]at h
  have h2:=yi.1 hg
  rw [Int.tdiv_eq_ediv_of_nonneg h.1,Int.tmod_eq_emod_of_nonneg h.1]
  have h3:=Int.ediv_lt_of_lt_mul (show 0 < g.1 - 1 by omega) (show b < g.2 * (g.1 - 1) by omega)
  have h4:=Int.ediv_nonneg h.1 (show 0≤g.1 - 1 by omega)
  have h5:=Int.emod_nonneg b (show g.1 - 1≠0 by omega)
  have h6:=Int.emod_lt_of_pos b (show 0 < g.1 - 1 by omega)
  exact ⟨rfl,⟨h4,by omega⟩,h5,by omega⟩
theorem yxz {g:dG} {b:Int} (h:blkOk g b=true):yaM g (yT g b)=true:=by
 obtain ⟨h1,h2,_⟩:=ypv h
 unfold yT
 rw [h,cond_true,ybC]
 exact ⟨h1,h2⟩
def yi1 (a:dA) (b:Int):Int:=bif !(yV a) then 1 else bif a.2.2.2.2.2.2.2.2.2.2.1 then 6 else bif blkOk a.2.1 b then 0 else 2
def yY (a:dA) (s:Int):List Int×Bool:=bif leb 0 (yC a.2.2.2.2.2.2.2.2.1 s) then ((nth a.2.2.2.2.2.2.2.2.1 (yC a.2.2.2.2.2.2.2.2.1 s) (0,[])).2,true) else bif a.2.2.2.2.2.2.2.2.2.2.2 then ([],false) else yAE a s
def yc2 (a:dA) (b:Int):Int×Int:=bif yi1 a b !=0 then (0,yi1 a b) else bif (yY a (yT a.2.1 b)).2 then (nth (yY a (yT a.2.1 b)).1 (yd5 a.2.1 b) 0,0) else (0,5)
theorem y1k {a:dA} {b:Int} (h:yi1 a b=0):yV a=true∧blkOk a.2.1 b=true∧a.2.2.2.2.2.2.2.2.2.2.1=false:=by
 unfold yi1 at h
 cases ha:yV a
 ·rw [ha]at h; exact absurd (show (1:Int)=0 from h) (by decide)
 ·rw [ha]at h
  cases hd:a.2.2.2.2.2.2.2.2.2.2.1
  ·rw [hd]at h
   cases hb:blkOk a.2.1 b
   ·rw [hb]at h; exact absurd (show (2:Int)=0 from h) (by decide)
   ·exact ⟨rfl,rfl,rfl⟩
  ·rw [hd]at h; exact absurd (show (6:Int)=0 from h) (by decide)
theorem y1X {a:dA} (h:yV a=true) {i:Nat} (hi:i < a.2.2.2.2.2.2.2.2.1.length):(0≤(nth a.2.2.2.2.2.2.2.2.1 i (0,[])).1∧(nth a.2.2.2.2.2.2.2.2.1 i (0,[])).1≤a.2.1.2 - 1)∧((nth a.2.2.2.2.2.2.2.2.1 i (0,[])).2.length:Int)=a.2.1.1 - 1∧(nth a.2.2.2.2.2.2.2.2.1 i (0,[])).2.all isW=true∧(0 < i→(nth a.2.2.2.2.2.2.2.2.1 ((i - 1:Nat):Int) (0,[])).1 < (nth a.2.2.2.2.2.2.2.2.1 i (0,[])).1):=by
 have h1:yaO a.2.1 a.2.2.2.2.2.2.2.2.1=true:=by simp only [yV,Bool.and_eq_true]at h; exact h.2.2.2.1
 simp only [yaO,Bool.not_eq_true',List.any_eq_false,List.mem_range]at h1
 have h2:=h1 i hi
 simp only [yhT,Bool.not_eq_true,Bool.or_eq_false_iff,Bool.not_eq_false',bne_eq_false_iff_eq,Bool.and_eq_true,Bool.and_eq_false_iff,decide_eq_false_iff_not,zjE]at h2
 refine ⟨h2.1,h2.2.1,h2.2.2.1,fun h0=> ?_⟩
 rcases h2.2.2.2 with h3 | h3
 ·exact absurd h0 h3
 ·have:=mt zkw (by rw [h3]; simp: ¬ leb (nth a.2.2.2.2.2.2.2.2.1 i (0,[])).1 (nth a.2.2.2.2.2.2.2.2.1 ((i - 1:Nat):Int) (0,[])).1=true)
  omega
theorem yy4 {a:dA} {s:Int} (h:yV a=true) (hs:yaM a.2.1 s=true) (h2:(yY a s).2=true):((yY a s).1.length:Int)=a.2.1.1 - 1:=by
 have hg:=yi.1 (ypu h)
 unfold yY at h2 ⊢
 cases hk:leb 0 (yC a.2.2.2.2.2.2.2.2.1 s)
 ·rw [hk]at h2
  simp only [cond_false]at h2 ⊢
  cases hb:a.2.2.2.2.2.2.2.2.2.2.2
  ·rw [hb]at h2
   simp only [cond_false]at h2 ⊢
   unfold yAE at h2 ⊢
   cases hw:(yN a s).2
   ·rw [hw]at h2; cases h2
   ·simp only [cond_true,List.length_map,List.length_range]; omega
  ·rw [hb]at h2; cases h2
 ·have h3:=zjD.1 (ytc (d:=((0,[]):dW)) hk).1
  have:=(y1X h (i:=(yC a.2.2.2.2.2.2.2.2.1 s).toNat) (by unfold yC; omega)).2.1
  rw [show (((yC a.2.2.2.2.2.2.2.2.1 s).toNat:Nat):Int)=yC a.2.2.2.2.2.2.2.2.1 s by have:=zjE.1 hk; omega]at this
  exact this
theorem yZo (g:dG) (b:Int):ya b 0 (IntKind.i64.wrap (yg g - 1))=blkOk g b:=by
 have:=yq0 g
 rw [wr (by omega) (by omega),ybX]; rfl
def yGU (a:dA):List Int:=bif (List.range (yg a.2.1).toNat).all (fun (b:Nat)=> !((yc2 a b).2 !=0)) then (List.range (yg a.2.1).toNat).map (fun (b:Nat)=>(yc2 a b).1) else []
theorem yw3 (a:Int×Int):yfp a=yg a:=by kernel_rfl
end
section
def yDf:Code:=(Tryz.f242.body).getD .skip
def yDT:Env:=zj2 TT [(120,yoj),(126,yv)] []
theorem yKs:FrOk Tryz.prog ⟨yDT,10,fun _=>none⟩ yDf:=zj6 yc yd ⟨yw4,yB,trivial⟩
def yLN:Nat→Option Seg:=fun _=>none
abbrev yh7:List Par:= [.rd tG,.rd tI]
abbrev ynY:List OT:= [⟨false,tB,.fz⟩]
def yrx (a0:dG) (a1:Int):Option (ResD ynY×MutD yh7) :=
 let r1:=yfp a0
 let r2:=yf a1 0 (IntKind.i64.wrap (r1 - 1))
 some ((r2,()),())
theorem ySd (x:InD yh7):zjx ⟨yDT,10,yLN⟩ Tryz.f242.results.toList yDf yh7 ynY x=yrx x.1 x.2.1:=by kernel_rfl
theorem yNm:ConOk Tryz.prog 242 ⟨yh7,ynY,fun x=>yrx x.1 x.2.1⟩:=zj1 (yKs) Tryz.func242 (by kernel_rfl) (by kernel_rfl) Tryz.ntmps242.symm (by decide) (fun x r h=>(ySd x).trans h)
def ybB (a0:dG) (a1:Int):Bool :=
 let r1:=yfp a0
 let r2:=yf a1 0 (IntKind.i64.wrap (r1 - 1))
 r2
def yjK:Con:=⟨yh7,ynY,fun x=>(fun n=>some ((n,()),())) (ybB x.1 x.2.1)⟩
theorem yQb (a0:dG) (a1:Int):yrx a0 a1=(fun n=>some ((n,()),())) (ybB a0 a1):=zkp (p:=fun (n:Bool)=>((n,()),())) rfl
theorem ytt:ConOk Tryz.prog 242 yjK:=(yNm).mono (fun x r _ h=>(yQb x.1 x.2.1).trans h)
theorem yE5 (g:dG) (b:Int):ybB g b=blkOk g b:=by
 unfold ybB
 simp only [yw3,yP,yZo]
end
section
def yAS:Code:=(Tryz.f171.body).getD .skip
def yBd:Env:=zj2 TT [(45,ygm),(242,yjK)] []
theorem yIO:FrOk Tryz.prog ⟨yBd,18,fun _=>none⟩ yAS:=zj6 yc yd ⟨ym1,ytt,trivial⟩
def yJD:Nat→Option Seg:=fun _=>none
abbrev ygD:List Par:= [.rd tA,.rd tI]
abbrev ylq:List OT:= [⟨false,tI,.fz⟩]
def ypS (a0:dA) (a1:Int):Option (ResD ylq×MutD ygD) :=
 let r1:=yH a0
 bif (!r1) then
 some ((1,()),())
 else
 bif a0.2.2.2.2.2.2.2.2.2.2.1 then
 some ((6,()),())
 else
 let r2:=ybB a0.2.1 a1
 bif (!r2) then
 some ((2,()),())
 else
 some ((0,()),())
theorem yOv (x:InD ygD):zjx ⟨yBd,18,yJD⟩ Tryz.f171.results.toList yAS ygD ylq x=ypS x.1 x.2.1:=by kernel_rfl
theorem yLa:ConOk Tryz.prog 171 ⟨ygD,ylq,fun x=>ypS x.1 x.2.1⟩:=zj1 (yIO) Tryz.func171 (by kernel_rfl) (by kernel_rfl) Tryz.ntmps171.symm (by decide) (fun x r h=>(yOv x).trans h)
def yhj (a0:dA) (a1:Int):Int :=
 let r1:=yH a0
 bif (!r1) then
 1
 else
 bif a0.2.2.2.2.2.2.2.2.2.2.1 then
 6
 else
 let r2:=ybB a0.2.1 a1
 bif (!r2) then
 2
 else
 0
def yxT:Con:=⟨ygD,ylq,fun x=>(fun n=>some ((n,()),())) (yhj x.1 x.2.1)⟩
theorem yM8 (a0:dA) (a1:Int):ypS a0 a1=(fun n=>some ((n,()),())) (yhj a0 a1):=zkp (p:=fun (n:Int)=>((n,()),())) (zkb (p:=fun (n:Int)=>((n,()),())) rfl (zkb (p:=fun (n:Int)=>((n,()),())) rfl (zkb (p:=fun (n:Int)=>((n,()),())) rfl rfl)))
theorem yNA:ConOk Tryz.prog 171 yxT:=(yLa).mono (fun x r _ h=>(yM8 x.1 x.2.1).trans h)
theorem yZ0 (a:dA) (b:Int):yhj a b=yi1 a b:=by
 unfold yhj yi1 yH
 simp only [yE5]
 cases yV a<;>cases a.2.2.2.2.2.2.2.2.2.2.1<;>cases blkOk a.2.1 b<;>rfl
end
section
def yxB:Code:=(Tryz.f204.body).getD .skip
def yxI:Env:=zj2 TT [(126,yv),(214,ywW)] []
theorem yGy:FrOk Tryz.prog ⟨yxI,20,fun _=>none⟩ yxB:=zj6 yc yd ⟨yB,yIr,trivial⟩
def yGR:Nat→Option Seg:=fun _=>none
abbrev yce:List Par:= [.rd tL,.rd tI]
abbrev yiH:List OT:= [⟨false,tI,.fz⟩]
def yf7 (a0:List Int) (a1:Int):Option (ResD yiH×MutD yce) :=
 let r1:=yhi a0
 let r2:=yf a1 0 (IntKind.i64.wrap ((a0.length:Int) - 1))
 bif r2 then
 bif (inb a1 a0.length) then
 some (((IntKind.i64.wrap ((BitVec.ofInt IntKind.i64.bits r1 ^^^ BitVec.ofInt IntKind.i64.bits (nth a0 a1 0)).toNat:Int)),()),())
 else none
 else
 some ((r1,()),())
theorem yJ8 (x:InD yce):zjx ⟨yxI,20,yGR⟩ Tryz.f204.results.toList yxB yce yiH x=yf7 x.1 x.2.1:=by kernel_rfl
theorem yHg:ConOk Tryz.prog 204 ⟨yce,yiH,fun x=>yf7 x.1 x.2.1⟩:=zj1 (yGy) Tryz.func204 (by kernel_rfl) (by kernel_rfl) Tryz.ntmps204.symm (by decide) (fun x r h=>(yJ8 x).trans h)
def yeE (a0:List Int) (a1:Int):Int:=ypB a0 a1
theorem yI5 (a0:List Int) (a1:Int) (hk:zi2 yce (a0,a1,())):yf7 a0 a1=(fun n=>some ((n,()),())) (yeE a0 a1):=by
 have hb:a0.length * 8≤2 ^ 47:=hk.1.1
 unfold yf7 yeE ypB yhi
 rw [yP,ypA (show a0.length≤1152921504606846976 by omega)]
 cases inb a1 a0.length<;>rfl
def yu2:Con:=⟨yce,yiH,fun x=>(fun n=>some ((n,()),())) (yeE x.1 x.2.1)⟩
theorem yJd:ConOk Tryz.prog 204 yu2:=(yHg).mono (fun x r hk h=>(yI5 x.1 x.2.1 hk).trans h)
end
section
def yoQ:Code:=(Tryz.f106.body).getD .skip
def yt7:Env:=zj2 TT [(45,ygm),(116,yeD),(117,yu4),(204,yu2)] []
theorem ySA:FrOk Tryz.prog ⟨yt7,62,fun _=>none⟩ yoQ:=zj6 yc yd ⟨ym1,yjP,yGH,yJd,trivial⟩
def yFB:Nat→Option Seg:=fun _=>none
def yb0:Shape:=⟨[(1,false,[.int .i64]),(2,false,[.ptr 0 0]),(6,false,[.at 800000000]),(7,false,[.int .i64]),(28,false,[.int .i64]),(29,false,[.int .i64])],[(0,[.int .i64,.int .i64,.int .i64,.br tM,.int .i64,.int .i64,.int .i64,.int .i64,.int .i64,.br tW,.int .i64,.bool,.bool])],[(800000000,tI,.fz)]⟩
def ygY:Shape:=⟨[(1,false,[.int .i64]),(2,false,[.ptr 0 0]),(6,false,[.at 800000000]),(7,false,[.ci .i64 (-1)]),(28,false,[.int .i64]),(29,false,[.ci .i64 0])],[(0,[.int .i64,.int .i64,.int .i64,.br tM,.int .i64,.int .i64,.int .i64,.int .i64,.int .i64,.br tW,.int .i64,.bool,.bool])],[(800000000,tI,.fz)]⟩
def ygM:Shape:=⟨[(6,false,[.at 800000000]),(7,false,[.int .i64])],[],[(800000000,tI,.fz)]⟩
def yg9:Shape:=⟨[(4,false,[.nil]),(5,false,[.bool])],[],[]⟩
abbrev yrn (v0 v1 v2 v3:Int) (v4:dA) (v5:List Int):(yb0).X:=(((v0,()),((),()),((),()),(v1,()),(v2,()),(v3,()),()),((v4.1,v4.2.1.1,v4.2.1.2,v4.2.2.1,v4.2.2.2.1,v4.2.2.2.2.1,v4.2.2.2.2.2.1,v4.2.2.2.2.2.2.1,v4.2.2.2.2.2.2.2.1,v4.2.2.2.2.2.2.2.2.1,v4.2.2.2.2.2.2.2.2.2.1,v4.2.2.2.2.2.2.2.2.2.2.1,v4.2.2.2.2.2.2.2.2.2.2.2,()),()),(v5,()))
abbrev yMU (v0 v1:Int) (v2:dA) (v3:List Int):(ygY).X:=(((v0,()),((),()),((),()),((),()),(v1,()),((),()),()),((v2.1,v2.2.1.1,v2.2.1.2,v2.2.2.1,v2.2.2.2.1,v2.2.2.2.2.1,v2.2.2.2.2.2.1,v2.2.2.2.2.2.2.1,v2.2.2.2.2.2.2.2.1,v2.2.2.2.2.2.2.2.2.1,v2.2.2.2.2.2.2.2.2.2.1,v2.2.2.2.2.2.2.2.2.2.2.1,v2.2.2.2.2.2.2.2.2.2.2.2,()),()),(v3,()))
abbrev yMN (v0:Int) (v1:List Int):(ygM).X:=((((),()),(v0,()),()),(),(v1,()))
abbrev yM4 (v0:Bool):(yg9).X:=((((),()),(v0,()),()),(),())
def yrB (v0 v1 v2 v3 v4 v5 v6:Int) (v7:List dM) (v8 v9 v10 v11 v12:Int) (v13:List dW) (v14:Int) (v15 v16:Bool) (v17:List Int):Option ((yb0).X ⊕ ((ygM).X ⊕ (yg9).X)) :=
 bif (ltb v3 v2) then
 bnd (ym0 (v4,(v5,v6),v7,v8,v9,v10,v11,v12,v13,v14,v15,v16) v3 v0) fun r4 =>
 bif (!r4.1.2.1) then
 bif (leb 0 v1) then
 some (.inr (.inr ((((),()),(false,()),()),(),())))
 else
 bif (!r4.1.2.1) then
 bif (zjR v17.length ([r4.1.1]:List Int).length 8) then
 some (.inl (((v0,()),((),()),((),()),(v3,()),(v2,()),((IntKind.i64.wrap (v3+1)),()),()),((v4,v5,v6,v7,v8,v9,v10,v11,v12,v13,v14,v15,v16,()),()),((v17++([r4.1.1]:List Int)),())))
 else none
 else
 bif (zjR v17.length ([r4.1.1]:List Int).length 8) then
 some (.inl (((v0,()),((),()),((),()),(v1,()),(v2,()),((IntKind.i64.wrap (v3+1)),()),()),((v4,v5,v6,v7,v8,v9,v10,v11,v12,v13,v14,v15,v16,()),()),((v17++([r4.1.1]:List Int)),())))
 else none
 else
 bif (!r4.1.2.1) then
 bif (zjR v17.length ([r4.1.1]:List Int).length 8) then
 some (.inl (((v0,()),((),()),((),()),(v3,()),(v2,()),((IntKind.i64.wrap (v3+1)),()),()),((v4,v5,v6,v7,v8,v9,v10,v11,v12,v13,v14,v15,v16,()),()),((v17++([r4.1.1]:List Int)),())))
 else none
 else
 bif (zjR v17.length ([r4.1.1]:List Int).length 8) then
 some (.inl (((v0,()),((),()),((),()),(v1,()),(v2,()),((IntKind.i64.wrap (v3+1)),()),()),((v4,v5,v6,v7,v8,v9,v10,v11,v12,v13,v14,v15,v16,()),()),((v17++([r4.1.1]:List Int)),())))
 else none
 else
 some (.inr (.inl ((((),()),(v1,()),()),(),(v17,()))))
def ycx (x:(yb0).X):=yrB x.1.1.1 x.1.2.2.2.1.1 x.1.2.2.2.2.1.1 x.1.2.2.2.2.2.1.1 x.2.1.1.1 x.2.1.1.2.1 x.2.1.1.2.2.1 x.2.1.1.2.2.2.1 x.2.1.1.2.2.2.2.1 x.2.1.1.2.2.2.2.2.1 x.2.1.1.2.2.2.2.2.2.1 x.2.1.1.2.2.2.2.2.2.2.1 x.2.1.1.2.2.2.2.2.2.2.2.1 x.2.1.1.2.2.2.2.2.2.2.2.2.1 x.2.1.1.2.2.2.2.2.2.2.2.2.2.1 x.2.1.1.2.2.2.2.2.2.2.2.2.2.2.1 x.2.1.1.2.2.2.2.2.2.2.2.2.2.2.2.1 x.2.2.1
def yzW (x:(ygY).X):(yb0).X:=(((x.1.1.1,()),((),()),((),()),((-1),()),(x.1.2.2.2.2.1.1,()),(0,()),()),((x.2.1.1.1,x.2.1.1.2.1,x.2.1.1.2.2.1,x.2.1.1.2.2.2.1,x.2.1.1.2.2.2.2.1,x.2.1.1.2.2.2.2.2.1,x.2.1.1.2.2.2.2.2.2.1,x.2.1.1.2.2.2.2.2.2.2.1,x.2.1.1.2.2.2.2.2.2.2.2.1,x.2.1.1.2.2.2.2.2.2.2.2.2.1,x.2.1.1.2.2.2.2.2.2.2.2.2.2.1,x.2.1.1.2.2.2.2.2.2.2.2.2.2.2.1,x.2.1.1.2.2.2.2.2.2.2.2.2.2.2.2.1,()),()),(x.2.2.1,()))
def yBl:Code:=(zdD yoQ 64 500).getD .skip
theorem yOf:zdD yoQ 64 125=some (.block 0 (.loop yBl)):=by kernel_rfl
theorem yQ3 (x:(yb0).X):zg0 ⟨yt7,62,yFB⟩ 0 yBl 500 yb0 ygM yg9 x=ycx x:=by kernel_rfl
def yz8 (x:(ygY).X):Nat:=18446744073709551616
def ysV (x:(ygY).X):Option ((ygM).X ⊕ (yg9).X):=zz ycx (yz8 x) (yzW x)
def yAq:Seg:=⟨ygY,ygM,yg9,ysV⟩
def yFC:Nat→Option Seg:=fun q=>bif Nat.beq q 125 then some yAq else yFB q
theorem ySB:FrOk Tryz.prog ⟨yt7,62,yFC⟩ yoQ:=(ySA).loop (sg:=yAq) yb0 yzW (by decide) yOf ycx yz8 (by decide) (fun _=>rfl) (fun x r _ h=>h) yQ3
abbrev ykm:List Par:= [.rd tA,.rd tI]
abbrev yuD:List OT:= [⟨false,tL,(.ow .fz)⟩,⟨false,tB,.fz⟩]
def yqN (a0:dA) (a1:Int):Option (ResD yuD×MutD ykm) :=
 let r1:=yH a0
 bif (!(!r1)) then
 bif (!a0.2.2.2.2.2.2.2.2.2.2.2) then
 let r2:=yam a0.2.1 a1
 bif (!r2) then
 some (([],false,()),())
 else
 zkh (ysV (((a1,()),((),()),((),()),((),()),((a0.2.2.1.length:Int),()),((),()),()),((a0.1,a0.2.1.1,a0.2.1.2,a0.2.2.1,a0.2.2.2.1,a0.2.2.2.2.1,a0.2.2.2.2.2.1,a0.2.2.2.2.2.2.1,a0.2.2.2.2.2.2.2.1,a0.2.2.2.2.2.2.2.2.1,a0.2.2.2.2.2.2.2.2.2.1,a0.2.2.2.2.2.2.2.2.2.2.1,a0.2.2.2.2.2.2.2.2.2.2.2,()),()),(([]:List Int),()))) (fun y4 =>
 bif (leb 0 y4.1.2.1.1) then
 let r6:=yeE y4.2.2.1 y4.1.2.1.1
 bif (inb y4.1.2.1.1 y4.2.2.1.length) then
 some (((y4.2.2.1.set (y4.1.2.1.1).toNat r6),true,()),())
 else none
 else
 some ((y4.2.2.1,true,()),())) (fun y4 =>
 some (([],y4.1.2.1.1,()),()))
 else
 some (([],false,()),())
 else
 some (([],false,()),())
theorem yZy (x:InD ykm):zjx ⟨yt7,62,yFC⟩ Tryz.f106.results.toList yoQ ykm yuD x=yqN x.1 x.2.1:=by kernel_rfl
theorem yWB:ConOk Tryz.prog 106 ⟨ykm,yuD,fun x=>yqN x.1 x.2.1⟩:=zj1 (ySB) Tryz.func106 (by kernel_rfl) (by kernel_rfl) Tryz.ntmps106.symm (by decide) (fun x r h=>(yZy x).trans h)
def ypM (a0:dA) (a1:Int):List Int×Bool:=bif yV a0&&(!a0.2.2.2.2.2.2.2.2.2.2.2&&yaM a0.2.1 a1) then yN a0 a1 else ([],false)
theorem yYG (a0:dA) (a1:Int) (hk:zi2 ykm (a0,a1,())):yqN a0 a1=(fun n=>some ((n.1,n.2,()),())) (ypM a0 a1):=by
 unfold yqN ypM yH
 rw [yE7]
 cases ha:yV a0
 ·rfl
 have hg:=yi.1 (ypu ha)
 have hl:=yD2 ha
 have h1:ysV (yMU a1 a0.2.2.1.length a0 [])=some (bif yfa (fun (i:Nat)=>ym a0 i a1) a0.2.1.1.toNat then .inr (yM4 false) else .inl (yMN (yo (fun (i:Nat)=>ym a0 i a1) a0.2.1.1.toNat) (yE a0 a1 a0.2.1.1.toNat))) :=
  ziO (step:=ycx) (fun i=>yrn a1 (yo (fun (i:Nat)=>ym a0 i a1) i) a0.2.2.1.length i a0 (yE a0 a1 i)) a0.2.1.1.toNat (fun i=> !ym a0 i a1&&leb 0 (yo (fun (i:Nat)=>ym a0 i a1) i)) _ _ (fun i hi=>by
   simp only [ycx,yrn,yrB,zj4 (show (i:Int) < a0.2.2.1.length by omega),cond_true,wr (show -9223372036854775808≤(i:Int)+1 by omega) (by omega),Int.natCast_add,Int.natCast_one,Int.toNat_natCast,zkr,yGM a0 i a1 (zkl (show i < a0.2.2.1.length by omega)),yhU,zkc,yo]
   rw [zka.2 (show ((yE a0 a1 i).length+ [yjr a0 i a1].length) * 8≤140737488355328 by simp only [List.length_cons,List.length_nil,yeM]; omega),yIz]
   cases ym a0 i a1<;>cases leb 0 (yo (fun (i:Nat)=>ym a0 i a1) i)<;>rfl) (by simp only [ycx,yrn,yrB,zkx (show (a0.2.2.1.length:Int)≤(a0.2.1.1.toNat:Int) by omega),cond_false]) _ (by show _ < 18446744073709551616; omega)
 rw [h1]
 cases a0.2.2.2.2.2.2.2.2.2.2.2
 ·cases yaM a0.2.1 a1
  ·rfl
  ·unfold yN
   cases yfa (fun (i:Nat)=>ym a0 i a1) a0.2.1.1.toNat
   ·simp only [cond_false,zki,yeE]
    cases hm:leb 0 (yo (fun (i:Nat)=>ym a0 i a1) a0.2.1.1.toNat)
    ·rfl
    ·obtain ⟨h2,h3⟩:=yXL a0 a1 a0.2.1.1.toNat hm
     rw [h2,h3]; rfl
   ·rfl
 ·rfl
def yGl:Con:=⟨ykm,yuD,fun x=>(fun n=>some ((n.1,n.2,()),())) (ypM x.1 x.2.1)⟩
theorem yY3:ConOk Tryz.prog 106 yGl:=(yWB).mono (fun x r hk h=>(yYG x.1 x.2.1 hk).trans h)
end
section
def yDa:Code:=(Tryz.f231.body).getD .skip
def yDO:Env:=zj2 TT [(116,yeD)] []
theorem yKl:FrOk Tryz.prog ⟨yDO,17,fun _=>none⟩ yDa:=zj6 yc yd ⟨yjP,trivial⟩
def yLI:Nat→Option Seg:=fun _=>none
abbrev yeT:List Par:= [.rd tG,.rd tI]
abbrev ynS:List OT:= [⟨false,tI,.fz⟩]
def yjV (a0:dG) (a1:Int):Option (ResD ynS×MutD yeT) :=
 let r1:=yam a0 a1
 bif (!r1) then
 some (((-1),()),())
 else
 bif (a0.1 !=0) then
 some (((IntKind.i64.wrap ((IntKind.i64.wrap (a0.1 - 1)) - (a1.tmod a0.1))),()),())
 else none
theorem yR7 (x:InD yeT):zjx ⟨yDO,17,yLI⟩ Tryz.f231.results.toList yDa yeT ynS x=yjV x.1 x.2.1:=by kernel_rfl
theorem yNg:ConOk Tryz.prog 231 ⟨yeT,ynS,fun x=>yjV x.1 x.2.1⟩:=zj1 (yKl) Tryz.func231 (by kernel_rfl) (by kernel_rfl) Tryz.ntmps231.symm (by decide) (fun x r h=>(yR7 x).trans h)
def yja (a0:dG) (a1:Int):Int:=yn a0 a1
theorem yP5 (a0:dG) (a1:Int) (hk:zi2 yeT (a0,a1,())):yjV a0 a1=(fun n=>some ((n,()),())) (yja a0 a1):=by
 unfold yjV yja
 rw [yE7]
 cases hs:yaM a0 a1
 ·unfold yn; rw [hs]; rfl
 ·have h1:=ybC.1 hs
  have h2:=yi.1 h1.1
  have h3:=ytW hs
  have h4:yn a0 a1=a0.1 - 1 - a1.tmod a0.1:=by unfold yn; rw [hs]; rfl
  rw [show (a0.1 !=0)=true from bne_iff_ne.2 (by omega),wr (show -9223372036854775808≤a0.1 - 1 by omega) (by omega),wr (show -9223372036854775808≤a0.1 - 1 - a1.tmod a0.1 by omega) (by omega),h4]; rfl
def yzM:Con:=⟨yeT,ynS,fun x=>(fun n=>some ((n,()),())) (yja x.1 x.2.1)⟩
theorem yQR:ConOk Tryz.prog 231 yzM:=(yNg).mono (fun x r hk h=>(yP5 x.1 x.2.1 hk).trans h)
end
end
end Go.Tf
