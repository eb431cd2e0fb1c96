/- Functions of the program, and what they come to. -/
import Derived.Test.YtgmadfpnljibhaaGreatStripesF20
namespace Go.Tf
noncomputable section
open Go.Proofs
set_option synthInstance.maxHeartbeats 400000
set_option synthInstance.maxSize 10000
set_option linter.unusedVariables false
set_option linter.unusedSimpArgs false
set_option maxRecDepth 100000
section
def yxt:Code:=(Tryz.f54.body).getD .skip
def yxE:Env:=zki TT [(103,yEn),(146,yvo),(147,ytb)] []
theorem yGo:FrOk Tryz.prog ⟨yxE,25,fun _=>none⟩ yxt:=zkp yb yd ⟨yWV,yGD,yEH,trivial⟩
def yGM:Nat→Option Seg:=fun _=>none
abbrev ycC:List Par:= [.rd tA,.rd tI,.rd tL]
abbrev yiY:List OT:= [⟨false,tA,(.pr .fz (.pr (.pr .fz .fz) (.pr (.ow (.pr (.ow .fz) (.pr (.ow (.pr .fz .fz)) (.pr .fz (.ow .fz))))) (.pr .fz (.pr .fz (.pr .fz (.pr .fz (.pr .fz (.pr (.ow (.pr .fz .fz)) (.pr .fz (.pr .fz .fz)))))))))))⟩,⟨false,tI,.fz⟩]
def ygy (a0:dA) (a1:Int) (a2:List Int):Option (ResD yiY×MutD ycC) :=
 let r1:=ynj a0
 let r2:=yy a0 a1 a2
 bif (r2 !=0) then
 some ((r1,r2,()),())
 else
 bnd (ylB r1 a1 a2) fun r3 =>
 some ((r3.2.1,r3.1.1,()),())
theorem yJ5 (x:InD ycC):zjH ⟨yxE,25,yGM⟩ Tryz.f54.results.toList yxt ycC yiY x=ygy x.1 x.2.1 x.2.2.1:=by kernel_rfl
theorem yHn:ConOk Tryz.prog 54 ⟨ycC,yiY,fun x=>ygy x.1 x.2.1 x.2.2.1⟩:=zkh (yGo) Tryz.func54 (by kernel_rfl) (by kernel_rfl) Tryz.ntmps54.symm (by decide) (fun x r h=>(yJ5 x).trans h)
def ye9 (a0:dA) (a1:Int) (a2:List Int):dA×Int:=yxh a0 a1 a2
theorem yI8 (a0:dA) (a1:Int) (a2:List Int) (hk:zi9 ycC (a0,a1,a2,())):ygy a0 a1 a2=(fun n=>some ((n.1,n.2,()),())) (ye9 a0 a1 a2):=by
 unfold ygy ye9 yxh
 simp only [ynj]
 cases hc:(yy a0 a1 a2 !=0)
 ·obtain ⟨ha,hl,_,_,hs,_,_⟩:=yt0 (bne_eq_false_iff_eq.1 hc)
  rw [yEK a0 a1 a2 (by unfold ygP; rw [hs,hl,ytV ha]; simp)]
  rfl
 ·rfl
def yvn:Con:=⟨ycC,yiY,fun x=>(fun n=>some ((n.1,n.2,()),())) (ye9 x.1 x.2.1 x.2.2.1)⟩
theorem yJi:ConOk Tryz.prog 54 yvn:=(yHn).mono (fun x r hk h=>(yI8 x.1 x.2.1 x.2.2.1 hk).trans h)
end
section
def yxr:Code:=(Tryz.f204.body).getD .skip
def yxC:Env:=zki TT [(126,yJ),(214,yqH)] []
theorem yGi:FrOk Tryz.prog ⟨yxC,20,fun _=>none⟩ yxr:=zkp yb yd ⟨yT,yy2,trivial⟩
def yGK:Nat→Option Seg:=fun _=>none
abbrev ycy:List Par:= [.rd tL,.rd tI]
abbrev yiU:List OT:= [⟨false,tI,.fz⟩]
def ygu (a0:List Int) (a1:Int):Option (ResD yiU×MutD ycy) :=
 let r1:=yb8 a0
 let r2:=yf a1 0 (IntKind.i64.wrap ((a0.length:Int) - 1))
 bif r2 then
 bif (inb a1 a0.length) then
 some (((IntKind.i64.wrap ((BitVec.ofInt IntKind.i64.bits r1 ^^^ BitVec.ofInt IntKind.i64.bits (nth a0 a1 0)).toNat:Int)),()),())
 else none
 else
 some ((r1,()),())
theorem yJ1 (x:InD ycy):zjH ⟨yxC,20,yGK⟩ Tryz.f204.results.toList yxr ycy yiU x=ygu x.1 x.2.1:=by kernel_rfl
theorem yHj:ConOk Tryz.prog 204 ⟨ycy,yiU,fun x=>ygu x.1 x.2.1⟩:=zkh (yGi) Tryz.func204 (by kernel_rfl) (by kernel_rfl) Tryz.ntmps204.symm (by decide) (fun x r h=>(yJ1 x).trans h)
def ye4 (a0:List Int) (a1:Int):Int:=ypE a0 a1
theorem yI4 (a0:List Int) (a1:Int) (hk:zi9 ycy (a0,a1,())):ygu a0 a1=(fun n=>some ((n,()),())) (ye4 a0 a1):=by
 have hb:a0.length * 8≤2 ^ 47:=hk.1.1
 unfold ygu ye4 ypE yb8
 rw [yai,ypD (show a0.length≤1152921504606846976 by omega)]
 cases inb a1 a0.length<;>rfl
def yve:Con:=⟨ycy,yiU,fun x=>(fun n=>some ((n,()),())) (ye4 x.1 x.2.1)⟩
theorem yJe:ConOk Tryz.prog 204 yve:=(yHj).mono (fun x r hk h=>(yI4 x.1 x.2.1 hk).trans h)
end
section
def yo1:Code:=(Tryz.f106.body).getD .skip
def yuo:Env:=zki TT [(45,yqF),(116,ycL),(117,yvi),(204,yve)] []
theorem ySz:FrOk Tryz.prog ⟨yuo,62,fun _=>none⟩ yo1:=zkp yb yd ⟨yy0,ygk,yGA,yJe,trivial⟩
def yFq:Nat→Option Seg:=fun _=>none
def yci:Shape:=⟨[(1,false,[.int .i64]),(2,false,[.ptr 0 0]),(6,false,[.at 800000000]),(7,false,[.int .i64]),(28,false,[.int .i64]),(29,false,[.int .i64])],[(0,[.int .i64,.int .i64,.int .i64,.br tM,.int .i64,.int .i64,.int .i64,.int .i64,.int .i64,.br tW,.int .i64,.bool,.bool])],[(800000000,tI,.fz)]⟩
def yhe:Shape:=⟨[(1,false,[.int .i64]),(2,false,[.ptr 0 0]),(6,false,[.at 800000000]),(7,false,[.ci .i64 (-1)]),(28,false,[.int .i64]),(29,false,[.ci .i64 0])],[(0,[.int .i64,.int .i64,.int .i64,.br tM,.int .i64,.int .i64,.int .i64,.int .i64,.int .i64,.br tW,.int .i64,.bool,.bool])],[(800000000,tI,.fz)]⟩
def yg3:Shape:=⟨[(6,false,[.at 800000000]),(7,false,[.int .i64])],[],[(800000000,tI,.fz)]⟩
def yhs:Shape:=⟨[(4,false,[.nil]),(5,false,[.bool])],[],[]⟩
abbrev yrp (v0 v1 v2 v3:Int) (v4:dA) (v5:List Int):(yci).X:=(((v0,()),((),()),((),()),(v1,()),(v2,()),(v3,()),()),((v4.1,v4.2.1.1,v4.2.1.2,v4.2.2.1,v4.2.2.2.1,v4.2.2.2.2.1,v4.2.2.2.2.2.1,v4.2.2.2.2.2.2.1,v4.2.2.2.2.2.2.2.1,v4.2.2.2.2.2.2.2.2.1,v4.2.2.2.2.2.2.2.2.2.1,v4.2.2.2.2.2.2.2.2.2.2.1,v4.2.2.2.2.2.2.2.2.2.2.2,()),()),(v5,()))
abbrev yMV (v0 v1:Int) (v2:dA) (v3:List Int):(yhe).X:=(((v0,()),((),()),((),()),((),()),(v1,()),((),()),()),((v2.1,v2.2.1.1,v2.2.1.2,v2.2.2.1,v2.2.2.2.1,v2.2.2.2.2.1,v2.2.2.2.2.2.1,v2.2.2.2.2.2.2.1,v2.2.2.2.2.2.2.2.1,v2.2.2.2.2.2.2.2.2.1,v2.2.2.2.2.2.2.2.2.2.1,v2.2.2.2.2.2.2.2.2.2.2.1,v2.2.2.2.2.2.2.2.2.2.2.2,()),()),(v3,()))
abbrev yMP (v0:Int) (v1:List Int):(yg3).X:=((((),()),(v0,()),()),(),(v1,()))
abbrev yM5 (v0:Bool):(yhs).X:=((((),()),(v0,()),()),(),())
def yrE (v0 v1 v2 v3 v4 v5 v6:Int) (v7:List dM) (v8 v9 v10 v11 v12:Int) (v13:List dW) (v14:Int) (v15 v16:Bool) (v17:List Int):Option ((yci).X ⊕ ((yg3).X ⊕ (yhs).X)) :=
 bif (ltb v3 v2) then
 bnd (ynm (v4,(v5,v6),v7,v8,v9,v10,v11,v12,v13,v14,v15,v16) v3 v0) fun r4 =>
 bif (!r4.1.2.1) then
 bif (leb 0 v1) then
 some (.inr (.inr ((((),()),(false,()),()),(),())))
 else
 bif (!r4.1.2.1) then
 bif (zj4 v17.length ([r4.1.1]:List Int).length 8) then
 some (.inl (((v0,()),((),()),((),()),(v3,()),(v2,()),((IntKind.i64.wrap (v3+1)),()),()),((v4,v5,v6,v7,v8,v9,v10,v11,v12,v13,v14,v15,v16,()),()),((v17++([r4.1.1]:List Int)),())))
 else none
 else
 bif (zj4 v17.length ([r4.1.1]:List Int).length 8) then
 some (.inl (((v0,()),((),()),((),()),(v1,()),(v2,()),((IntKind.i64.wrap (v3+1)),()),()),((v4,v5,v6,v7,v8,v9,v10,v11,v12,v13,v14,v15,v16,()),()),((v17++([r4.1.1]:List Int)),())))
 else none
 else
 bif (!r4.1.2.1) then
 bif (zj4 v17.length ([r4.1.1]:List Int).length 8) then
 some (.inl (((v0,()),((),()),((),()),(v3,()),(v2,()),((IntKind.i64.wrap (v3+1)),()),()),((v4,v5,v6,v7,v8,v9,v10,v11,v12,v13,v14,v15,v16,()),()),((v17++([r4.1.1]:List Int)),())))
 else none
 else
 bif (zj4 v17.length ([r4.1.1]:List Int).length 8) then
 some (.inl (((v0,()),((),()),((),()),(v1,()),(v2,()),((IntKind.i64.wrap (v3+1)),()),()),((v4,v5,v6,v7,v8,v9,v10,v11,v12,v13,v14,v15,v16,()),()),((v17++([r4.1.1]:List Int)),())))
 else none
 else
 some (.inr (.inl ((((),()),(v1,()),()),(),(v17,()))))
def ycP (x:(yci).X):=yrE x.1.1.1 x.1.2.2.2.1.1 x.1.2.2.2.2.1.1 x.1.2.2.2.2.2.1.1 x.2.1.1.1 x.2.1.1.2.1 x.2.1.1.2.2.1 x.2.1.1.2.2.2.1 x.2.1.1.2.2.2.2.1 x.2.1.1.2.2.2.2.2.1 x.2.1.1.2.2.2.2.2.2.1 x.2.1.1.2.2.2.2.2.2.2.1 x.2.1.1.2.2.2.2.2.2.2.2.1 x.2.1.1.2.2.2.2.2.2.2.2.2.1 x.2.1.1.2.2.2.2.2.2.2.2.2.2.1 x.2.1.1.2.2.2.2.2.2.2.2.2.2.2.1 x.2.1.1.2.2.2.2.2.2.2.2.2.2.2.2.1 x.2.2.1
def yzZ (x:(yhe).X):(yci).X:=(((x.1.1.1,()),((),()),((),()),((-1),()),(x.1.2.2.2.2.1.1,()),(0,()),()),((x.2.1.1.1,x.2.1.1.2.1,x.2.1.1.2.2.1,x.2.1.1.2.2.2.1,x.2.1.1.2.2.2.2.1,x.2.1.1.2.2.2.2.2.1,x.2.1.1.2.2.2.2.2.2.1,x.2.1.1.2.2.2.2.2.2.2.1,x.2.1.1.2.2.2.2.2.2.2.2.1,x.2.1.1.2.2.2.2.2.2.2.2.2.1,x.2.1.1.2.2.2.2.2.2.2.2.2.2.1,x.2.1.1.2.2.2.2.2.2.2.2.2.2.2.1,x.2.1.1.2.2.2.2.2.2.2.2.2.2.2.2.1,()),()),(x.2.2.1,()))
def yBp:Code:=(zdI yo1 64 500).getD .skip
theorem yOn:zdI yo1 64 125=some (.block 0 (.loop yBp)):=by kernel_rfl
theorem yQ3 (x:(yci).X):zg7 ⟨yuo,62,yFq⟩ 0 yBp 500 yci yg3 yhs x=ycP x:=by kernel_rfl
def yAa (x:(yhe).X):Nat:=18446744073709551616
def ysX (x:(yhe).X):Option ((yg3).X ⊕ (yhs).X):=zr ycP (yAa x) (yzZ x)
def yAr:Seg:=⟨yhe,yg3,yhs,ysX⟩
def yFr:Nat→Option Seg:=fun q=>bif Nat.beq q 125 then some yAr else yFq q
theorem ySA:FrOk Tryz.prog ⟨yuo,62,yFr⟩ yo1:=(ySz).loop (sg:=yAr) yci yzZ (by decide) yOn ycP yAa (by decide) (fun _=>rfl) (fun x r _ h=>h) yQ3
abbrev ykE:List Par:= [.rd tA,.rd tI]
abbrev yuT:List OT:= [⟨false,tL,(.ow .fz)⟩,⟨false,tB,.fz⟩]
def yqU (a0:dA) (a1:Int):Option (ResD yuT×MutD ykE) :=
 let r1:=yds a0
 bif (!(!r1)) then
 bif (!a0.2.2.2.2.2.2.2.2.2.2.2) then
 let r2:=yag a0.2.1 a1
 bif (!r2) then
 some (([],false,()),())
 else
 zjw (ysX (((a1,()),((),()),((),()),((),()),((a0.2.2.1.length:Int),()),((),()),()),((a0.1,a0.2.1.1,a0.2.1.2,a0.2.2.1,a0.2.2.2.1,a0.2.2.2.2.1,a0.2.2.2.2.2.1,a0.2.2.2.2.2.2.1,a0.2.2.2.2.2.2.2.1,a0.2.2.2.2.2.2.2.2.1,a0.2.2.2.2.2.2.2.2.2.1,a0.2.2.2.2.2.2.2.2.2.2.1,a0.2.2.2.2.2.2.2.2.2.2.2,()),()),(([]:List Int),()))) (fun y4 =>
 bif (leb 0 y4.1.2.1.1) then
 let r6:=ye4 y4.2.2.1 y4.1.2.1.1
 bif (inb y4.1.2.1.1 y4.2.2.1.length) then
 some (((y4.2.2.1.set (y4.1.2.1.1).toNat r6),true,()),())
 else none
 else
 some ((y4.2.2.1,true,()),())) (fun y4 =>
 some (([],y4.1.2.1.1,()),()))
 else
 some (([],false,()),())
 else
 some (([],false,()),())
theorem yZt (x:InD ykE):zjH ⟨yuo,62,yFr⟩ Tryz.f106.results.toList yo1 ykE yuT x=yqU x.1 x.2.1:=by kernel_rfl
theorem yWp:ConOk Tryz.prog 106 ⟨ykE,yuT,fun x=>yqU x.1 x.2.1⟩:=zkh (ySA) Tryz.func106 (by kernel_rfl) (by kernel_rfl) Tryz.ntmps106.symm (by decide) (fun x r h=>(yZt x).trans h)
def ypS (a0:dA) (a1:Int):List Int×Bool:=bif yw a0&&(!a0.2.2.2.2.2.2.2.2.2.2.2&&yI a0.2.1 a1) then yE a0 a1 else ([],false)
theorem yYA (a0:dA) (a1:Int) (hk:zi9 ykE (a0,a1,())):yqU a0 a1=(fun n=>some ((n.1,n.2,()),())) (ypS a0 a1):=by
 unfold yqU ypS yds
 rw [yxp]
 cases ha:yw a0
 ·rfl
 have hg:=yi.1 (ydV ha)
 have hl:=ytV ha
 have h1:ysX (yMV a1 a0.2.2.1.length a0 [])=some (bif yeK (fun (i:Nat)=>ym a0 i a1) a0.2.1.1.toNat then .inr (yM5 false) else .inl (yMP (yr (fun (i:Nat)=>ym a0 i a1) a0.2.1.1.toNat) (yK a0 a1 a0.2.1.1.toNat))) :=
  zf4 (step:=ycP) (fun i=>yrp a1 (yr (fun (i:Nat)=>ym a0 i a1) i) a0.2.2.1.length i a0 (yK a0 a1 i)) a0.2.1.1.toNat (fun i=> !ym a0 i a1&&leb 0 (yr (fun (i:Nat)=>ym a0 i a1) i)) _ _ (fun i hi=>by
   simp only [ycP,yrp,yrE,zjI (show (i:Int) < a0.2.2.1.length by omega),cond_true,wr (show -9223372036854775808≤(i:Int)+1 by omega) (by omega),Int.natCast_add,Int.natCast_one,Int.toNat_natCast,zkV,yGF a0 i a1 (zkO (show i < a0.2.2.1.length by omega)),yh6,zky,yr]
   rw [zkw.2 (show ((yK a0 a1 i).length+ [yjJ a0 i a1].length) * 8≤140737488355328 by simp only [List.length_cons,List.length_nil,yfe]; omega),yIA]
   cases ym a0 i a1<;>cases leb 0 (yr (fun (i:Nat)=>ym a0 i a1) i)<;>rfl) (by simp only [ycP,yrp,yrE,zkm (show (a0.2.2.1.length:Int)≤(a0.2.1.1.toNat:Int) by omega),cond_false]) _ (by show _ < 18446744073709551616; omega)
 rw [h1]
 cases a0.2.2.2.2.2.2.2.2.2.2.2
 ·cases yI a0.2.1 a1
  ·rfl
  ·unfold yE
   cases yeK (fun (i:Nat)=>ym a0 i a1) a0.2.1.1.toNat
   ·simp only [cond_false,zkJ,ye4]
    cases hm:leb 0 (yr (fun (i:Nat)=>ym a0 i a1) a0.2.1.1.toNat)
    ·rfl
    ·obtain ⟨h2,h3⟩:=yXz a0 a1 a0.2.1.1.toNat hm
     rw [h2,h3]; rfl
   ·rfl
 ·rfl
def yF5:Con:=⟨ykE,yuT,fun x=>(fun n=>some ((n.1,n.2,()),())) (ypS x.1 x.2.1)⟩
theorem yYV:ConOk Tryz.prog 106 yF5:=(yWp).mono (fun x r hk h=>(yYA x.1 x.2.1 hk).trans h)
end
section
def ymC:Code:=(Tryz.f55.body).getD .skip
def yr5:Env:=zki TT [(106,yF5),(148,yvc)] []
theorem yOI:FrOk Tryz.prog ⟨yr5,39,fun _=>none⟩ ymC:=zkp yb yd ⟨yYV,yGw,trivial⟩
def yDj:Nat→Option Seg:=fun _=>none
def ybB:Shape:=⟨[(1,false,[.int .i64]),(2,false,[.ptr 0 0]),(6,false,[.at 800000000]),(8,false,[.at 800000001]),(22,false,[.int .i64]),(23,false,[.int .i64])],[(0,[.int .i64,.int .i64,.int .i64,.br tM,.int .i64,.int .i64,.int .i64,.int .i64,.int .i64,.br tW,.int .i64,.bool,.bool])],[(800000000,tI,.fz),(800000001,tI,.fz)]⟩
def yf1:Shape:=⟨[(1,false,[.int .i64]),(2,false,[.ptr 0 0]),(6,false,[.at 800000000]),(8,false,[.at 800000001]),(22,false,[.int .i64]),(23,false,[.ci .i64 0])],[(0,[.int .i64,.int .i64,.int .i64,.br tM,.int .i64,.int .i64,.int .i64,.int .i64,.int .i64,.br tW,.int .i64,.bool,.bool])],[(800000000,tI,.fz),(800000001,tI,.fz)]⟩
def yfP:Shape:=⟨[(8,false,[.at 800000000])],[],[(800000000,tI,.fz)]⟩
def yjS:Shape:=⟨[],[],[]⟩
abbrev ypF (v0 v1 v2:Int) (v3:dA) (v4 v5:List Int):(ybB).X:=(((v0,()),((),()),((),()),((),()),(v1,()),(v2,()),()),((v3.1,v3.2.1.1,v3.2.1.2,v3.2.2.1,v3.2.2.2.1,v3.2.2.2.2.1,v3.2.2.2.2.2.1,v3.2.2.2.2.2.2.1,v3.2.2.2.2.2.2.2.1,v3.2.2.2.2.2.2.2.2.1,v3.2.2.2.2.2.2.2.2.2.1,v3.2.2.2.2.2.2.2.2.2.2.1,v3.2.2.2.2.2.2.2.2.2.2.2,()),()),(v4,v5,()))
abbrev yKI (v0 v1:Int) (v2:dA) (v3 v4:List Int):(yf1).X:=(((v0,()),((),()),((),()),((),()),(v1,()),((),()),()),((v2.1,v2.2.1.1,v2.2.1.2,v2.2.2.1,v2.2.2.2.1,v2.2.2.2.2.1,v2.2.2.2.2.2.1,v2.2.2.2.2.2.2.1,v2.2.2.2.2.2.2.2.1,v2.2.2.2.2.2.2.2.2.1,v2.2.2.2.2.2.2.2.2.2.1,v2.2.2.2.2.2.2.2.2.2.2.1,v2.2.2.2.2.2.2.2.2.2.2.2,()),()),(v3,v4,()))
abbrev yys (v0:List Int):(yfP).X:=((((),()),()),(),(v0,()))
def yp0 (v0 v1 v2 v3 v4 v5:Int) (v6:List dM) (v7 v8 v9 v10 v11:Int) (v12:List dW) (v13:Int) (v14 v15:Bool) (v16 v17:List Int):Option ((ybB).X ⊕ ((yfP).X ⊕ (yjS).X)) :=
 bif (ltb v2 v1) then
 let r3:=yfH (v4,v5) v0 v2
 bif (inb r3 v16.length) then
 bif (zj4 v17.length ([(nth v16 r3 0)]:List Int).length 8) then
 some (.inl (((v0,()),((),()),((),()),((),()),(v1,()),((IntKind.i64.wrap (v2+1)),()),()),((v3,v4,v5,v6,v7,v8,v9,v10,v11,v12,v13,v14,v15,()),()),(v16,(v17++([(nth v16 r3 0)]:List Int)),())))
 else none
 else none
 else
 some (.inr (.inl ((((),()),()),(),(v17,()))))
def ybR (x:(ybB).X):=yp0 x.1.1.1 x.1.2.2.2.2.1.1 x.1.2.2.2.2.2.1.1 x.2.1.1.1 x.2.1.1.2.1 x.2.1.1.2.2.1 x.2.1.1.2.2.2.1 x.2.1.1.2.2.2.2.1 x.2.1.1.2.2.2.2.2.1 x.2.1.1.2.2.2.2.2.2.1 x.2.1.1.2.2.2.2.2.2.2.1 x.2.1.1.2.2.2.2.2.2.2.2.1 x.2.1.1.2.2.2.2.2.2.2.2.2.1 x.2.1.1.2.2.2.2.2.2.2.2.2.2.1 x.2.1.1.2.2.2.2.2.2.2.2.2.2.2.1 x.2.1.1.2.2.2.2.2.2.2.2.2.2.2.2.1 x.2.2.1 x.2.2.2.1
def yxV (x:(yf1).X):(ybB).X:=(((x.1.1.1,()),((),()),((),()),((),()),(x.1.2.2.2.2.1.1,()),(0,()),()),((x.2.1.1.1,x.2.1.1.2.1,x.2.1.1.2.2.1,x.2.1.1.2.2.2.1,x.2.1.1.2.2.2.2.1,x.2.1.1.2.2.2.2.2.1,x.2.1.1.2.2.2.2.2.2.1,x.2.1.1.2.2.2.2.2.2.2.1,x.2.1.1.2.2.2.2.2.2.2.2.1,x.2.1.1.2.2.2.2.2.2.2.2.2.1,x.2.1.1.2.2.2.2.2.2.2.2.2.2.1,x.2.1.1.2.2.2.2.2.2.2.2.2.2.2.1,x.2.1.1.2.2.2.2.2.2.2.2.2.2.2.2.1,()),()),(x.2.2.1,x.2.2.2.1,()))
def yzz:Code:=(zdI ymC 64 500).getD .skip
theorem yLW:zdI ymC 64 125=some (.block 0 (.loop yzz)):=by kernel_rfl
theorem yND (x:(ybB).X):zg7 ⟨yr5,39,yDj⟩ 0 yzz 500 ybB yfP yjS x=ybR x:=by kernel_rfl
def yyc (x:(yf1).X):Nat:=18446744073709551616
def yq7 (x:(yf1).X):Option ((yfP).X ⊕ (yjS).X):=zr ybR (yyc x) (yxV x)
def yyC:Seg:=⟨yf1,yfP,yjS,yq7⟩
def yDk:Nat→Option Seg:=fun q=>bif Nat.beq q 125 then some yyC else yDj q
theorem yOJ:FrOk Tryz.prog ⟨yr5,39,yDk⟩ ymC:=(yOI).loop (sg:=yyC) ybB yxV (by decide) yLW ybR yyc (by decide) (fun _=>rfl) (fun x r _ h=>h) yND
abbrev yhP:List Par:= [.rd tA,.rd tI]
abbrev ysf:List OT:= [⟨false,tL,(.ow .fz)⟩,⟨false,tB,.fz⟩]
def yoH (a0:dA) (a1:Int):Option (ResD ysf×MutD yhP) :=
 let r1:=ypS a0 a1
 bif (!r1.2) then
 some (([],false,()),())
 else
 zjw (yq7 (((a1,()),((),()),((),()),((),()),((IntKind.i64.wrap (a0.2.1.1 - 1)),()),((),()),()),((a0.1,a0.2.1.1,a0.2.1.2,a0.2.2.1,a0.2.2.2.1,a0.2.2.2.2.1,a0.2.2.2.2.2.1,a0.2.2.2.2.2.2.1,a0.2.2.2.2.2.2.2.1,a0.2.2.2.2.2.2.2.2.1,a0.2.2.2.2.2.2.2.2.2.1,a0.2.2.2.2.2.2.2.2.2.2.1,a0.2.2.2.2.2.2.2.2.2.2.2,()),()),(r1.1,([]:List Int),()))) (fun y3 =>
 some ((y3.2.2.1,true,()),())) (fun y3 =>
 none)
theorem yXR (x:InD yhP):zjH ⟨yr5,39,yDk⟩ Tryz.f55.results.toList ymC yhP ysf x=yoH x.1 x.2.1:=by kernel_rfl
theorem yTH:ConOk Tryz.prog 55 ⟨yhP,ysf,fun x=>yoH x.1 x.2.1⟩:=zkh (yOJ) Tryz.func55 (by kernel_rfl) (by kernel_rfl) Tryz.ntmps55.symm (by decide) (fun x r h=>(yXR x).trans h)
def ydX (a0:dA) (a1:Int):List Int×Bool:=yvq a0 a1
theorem yVN (a0:dA) (a1:Int) (hk:zi9 yhP (a0,a1,())):yoH a0 a1=(fun n=>some ((n.1,n.2,()),())) (ydX a0 a1):=by
 unfold yoH ydX yvq ypS
 cases hc:(yw a0&&(!a0.2.2.2.2.2.2.2.2.2.2.2&&yI a0.2.1 a1))
 ·rfl
 simp only [Bool.and_eq_true]at hc
 have hg:=yi.1 (ydV hc.1)
 have hs:=hc.2.2
 unfold yvp
 simp only [cond_true]
 cases hw:(yE a0 a1).2
 ·rfl
 ·have hL:=yLv hw
  have h1:yq7 (yKI a1 (a0.2.1.1 - 1) a0 (yE a0 a1).1 [])=some (.inl (yys ((List.range (a0.2.1.1 - 1).toNat).foldl (fun l (i:Nat)=>l++ [nth (yE a0 a1).1 (yao a0.2.1 a1 i) 0]) []))) :=
   zks (step:=ybR) (a0.2.1.1 - 1).toNat (fun i s=>ypF a1 (a0.2.1.1 - 1) i a0 (yE a0 a1).1 s) (fun l (i:Nat)=>l++ [nth (yE a0 a1).1 (yao a0.2.1 a1 i) 0]) (fun i s=>s.length=i) (fun s=> .inl (yys s)) (fun i s hi hs2=>⟨by
    have hd:=yLC hs (show (0:Int)≤i by omega) (show (i:Int)≤a0.2.1.1 - 2 by omega)
    simp only [ybR,ypF,yp0,zjI (show (i:Int) < a0.2.1.1 - 1 by omega),cond_true,wr (show -9223372036854775808≤(i:Int)+1 by omega) (by omega),Int.natCast_add,Int.natCast_one,Int.toNat_natCast,zkV,yfH,zjP.2 (show 0≤yao a0.2.1 a1 i∧yao a0.2.1 a1 i < (yE a0 a1).1.length by omega)]
    rw [zkw.2 (show (s.length+ [nth (yE a0 a1).1 (yao a0.2.1 a1 i) 0].length) * 8≤140737488355328 by simp only [List.length_cons,List.length_nil]; omega)]; rfl,by simp [hs2]⟩) (fun s hs2=>by simp only [ybR,ypF,yp0,zkm (show a0.2.1.1 - 1≤((a0.2.1.1 - 1).toNat:Int) by omega),cond_false]) [] rfl _ (by show _ < 18446744073709551616; omega)
  simp only [wr (show -9223372036854775808≤a0.2.1.1 - 1 by omega) (by omega)]
  rw [h1,yqJ]; rfl
def yD9:Con:=⟨yhP,ysf,fun x=>(fun n=>some ((n.1,n.2,()),())) (ydX x.1 x.2.1)⟩
theorem yWH:ConOk Tryz.prog 55 yD9:=(yTH).mono (fun x r hk h=>(yVN x.1 x.2.1 hk).trans h)
end
section
def ya6:Code:=(Tryz.f6.body).getD .skip
def yej:Env:=zki TT [(12,yJX),(25,yBG),(26,yBI),(32,yIv),(36,yj4),(45,yqF),(52,yNV),(53,yvf),(54,yvn),(55,yD9),(56,ypz)] []
theorem yIQ:FrOk Tryz.prog ⟨yej,132,fun _=>none⟩ ya6:=zkp yb yd ⟨y0F,yUo,yUq,yZ9,ytw,yy0,y1l,yJf,yJi,yWH,yAq,trivial⟩
def yxw:Nat→Option Seg:=fun _=>none
def yaB:Shape:=⟨[(0,false,[.fz tY]),(3,false,[.ptr 12416 0]),(4,false,[.int .i64]),(5,false,[.at 800000000]),(6,false,[.int .i64])],[(12416,[.int .i64,.int .i64,.int .i64,.at 800000001,.int .i64,.int .i64,.int .i64,.int .i64,.int .i64,.at 800000002,.int .i64,.bool,.bool])],[(800000000,tI,.fz),(800000001,tM,(.pr (.ow .fz) (.pr (.ow (.pr .fz .fz)) (.pr .fz (.ow .fz))))),(800000002,tW,(.pr .fz .fz))]⟩
def ydp:Shape:=⟨[(0,false,[.fz tY]),(3,false,[.ptr 12416 0]),(4,false,[.int .i64]),(5,false,[.at 800000000]),(6,false,[.ci .i64 0])],[(12416,[.int .i64,.int .i64,.int .i64,.at 800000001,.int .i64,.int .i64,.int .i64,.int .i64,.int .i64,.at 800000002,.int .i64,.bool,.bool])],[(800000000,tI,.fz),(800000001,tM,(.pr (.ow .fz) (.pr (.ow (.pr .fz .fz)) (.pr .fz (.ow .fz))))),(800000002,tW,(.pr .fz .fz))]⟩
def ydm:Shape:=⟨[(3,false,[.ptr 12416 0]),(4,false,[.int .i64]),(5,false,[.at 800000000])],[(12416,[.int .i64,.int .i64,.int .i64,.at 800000001,.int .i64,.int .i64,.int .i64,.int .i64,.int .i64,.at 800000002,.int .i64,.bool,.bool])],[(800000000,tI,.fz),(800000001,tM,(.pr (.ow .fz) (.pr (.ow (.pr .fz .fz)) (.pr .fz (.ow .fz))))),(800000002,tW,(.pr .fz .fz))]⟩
def ygp:Shape:=⟨[],[],[]⟩
abbrev ylh (v0:List Int) (v1 v2:Int) (v3:dA) (v4:List Int):(yaB).X:=(((v0,()),((),()),(v1,()),((),()),(v2,()),()),((v3.1,v3.2.1.1,v3.2.1.2,(),v3.2.2.2.1,v3.2.2.2.2.1,v3.2.2.2.2.2.1,v3.2.2.2.2.2.2.1,v3.2.2.2.2.2.2.2.1,(),v3.2.2.2.2.2.2.2.2.2.1,v3.2.2.2.2.2.2.2.2.2.2.1,v3.2.2.2.2.2.2.2.2.2.2.2,()),()),(v4,v3.2.2.1,v3.2.2.2.2.2.2.2.2.1,()))
abbrev yGt (v0:List Int) (v1:Int) (v2:dA) (v3:List Int):(ydp).X:=(((v0,()),((),()),(v1,()),((),()),((),()),()),((v2.1,v2.2.1.1,v2.2.1.2,(),v2.2.2.2.1,v2.2.2.2.2.1,v2.2.2.2.2.2.1,v2.2.2.2.2.2.2.1,v2.2.2.2.2.2.2.2.1,(),v2.2.2.2.2.2.2.2.2.2.1,v2.2.2.2.2.2.2.2.2.2.2.1,v2.2.2.2.2.2.2.2.2.2.2.2,()),()),(v3,v2.2.2.1,v2.2.2.2.2.2.2.2.2.1,()))
abbrev yt9 (v0:Int) (v1:dA) (v2:List Int):(ydm).X:=((((),()),(v0,()),((),()),()),((v1.1,v1.2.1.1,v1.2.1.2,(),v1.2.2.2.1,v1.2.2.2.2.1,v1.2.2.2.2.2.1,v1.2.2.2.2.2.2.1,v1.2.2.2.2.2.2.2.1,(),v1.2.2.2.2.2.2.2.2.2.1,v1.2.2.2.2.2.2.2.2.2.2.1,v1.2.2.2.2.2.2.2.2.2.2.2,()),()),(v2,v1.2.2.1,v1.2.2.2.2.2.2.2.2.1,()))
def ylH (v0:List Int) (v1 v2 v3 v4 v5 v6 v7 v8 v9 v10 v11:Int) (v12 v13:Bool) (v14:List Int) (v15:List dM) (v16:List dW):Option ((yaB).X ⊕ ((ydm).X ⊕ (ygp).X)) :=
 bif (ltb v2 (IntKind.i64.wrap (v4 - 1))) then
 bnd (yjE v0 (IntKind.i64.wrap (v2+3))) fun r5 =>
 bif (zj4 v14.length ([(IntKind.i64.wrap (r5.1.1 * 200))]:List Int).length 8) then
 some (.inl (((v0,()),((),()),(v1,()),((),()),((IntKind.i64.wrap (v2+1)),()),()),((v3,v4,v5,(),v6,v7,v8,v9,v10,(),v11,v12,v13,()),()),((v14++([(IntKind.i64.wrap (r5.1.1 * 200))]:List Int)),v15,v16,())))
 else none
 else
 some (.inr (.inl ((((),()),(v1,()),((),()),()),((v3,v4,v5,(),v6,v7,v8,v9,v10,(),v11,v12,v13,()),()),(v14,v15,v16,()))))
def yaM (x:(yaB).X):=ylH x.1.1.1 x.1.2.2.1.1 x.1.2.2.2.2.1.1 x.2.1.1.1 x.2.1.1.2.1 x.2.1.1.2.2.1 x.2.1.1.2.2.2.2.1 x.2.1.1.2.2.2.2.2.1 x.2.1.1.2.2.2.2.2.2.1 x.2.1.1.2.2.2.2.2.2.2.1 x.2.1.1.2.2.2.2.2.2.2.2.1 x.2.1.1.2.2.2.2.2.2.2.2.2.2.1 x.2.1.1.2.2.2.2.2.2.2.2.2.2.2.1 x.2.1.1.2.2.2.2.2.2.2.2.2.2.2.2.1 x.2.2.1 x.2.2.2.1 x.2.2.2.2.1
def yt3 (x:(ydp).X):(yaB).X:=(((x.1.1.1,()),((),()),(x.1.2.2.1.1,()),((),()),(0,()),()),((x.2.1.1.1,x.2.1.1.2.1,x.2.1.1.2.2.1,(),x.2.1.1.2.2.2.2.1,x.2.1.1.2.2.2.2.2.1,x.2.1.1.2.2.2.2.2.2.1,x.2.1.1.2.2.2.2.2.2.2.1,x.2.1.1.2.2.2.2.2.2.2.2.1,(),x.2.1.1.2.2.2.2.2.2.2.2.2.2.1,x.2.1.1.2.2.2.2.2.2.2.2.2.2.2.1,x.2.1.1.2.2.2.2.2.2.2.2.2.2.2.2.1,()),()),(x.2.2.1,x.2.2.2.1,x.2.2.2.2.1,()))
def yu9:Code:=(zdI ya6 64 1012).getD .skip
theorem yGP:zdI ya6 64 253=some (.block 0 (.loop yu9)):=by kernel_rfl
theorem yHs (x:(yaB).X):zg7 ⟨yej,132,yxw⟩ 0 yu9 1012 yaB ydm ygp x=yaM x:=by kernel_rfl
def yt6 (x:(ydp).X):Nat:=18446744073709551616
def ylS (x:(ydp).X):Option ((ydm).X ⊕ (ygp).X):=zr yaM (yt6 x) (yt3 x)
def yue:Seg:=⟨ydp,ydm,ygp,ylS⟩
def ypb:Nat→Option Seg:=fun q=>bif Nat.beq q 253 then some yue else yxw q
theorem yIR:FrOk Tryz.prog ⟨yej,132,ypb⟩ ya6:=(yIQ).loop (sg:=yue) yaB yt3 (by decide) yGP yaM yt6 (by decide) (fun _=>rfl) (fun x r _ h=>h) yHs
def yal:Shape:=⟨[(3,false,[.ptr 12416 0]),(4,false,[.int .i64]),(5,false,[.at 800000000]),(7,false,[.ptr 41408 0]),(11,false,[.at 800000001]),(12,false,[.bool]),(13,false,[.int .i64])],[(12416,[.int .i64,.int .i64,.int .i64,.at 800000002,.int .i64,.int .i64,.int .i64,.int .i64,.int .i64,.at 800000003,.int .i64,.bool,.bool]),(41408,[.int .i64,.int .i64,.int .i64,.at 800000004,.int .i64,.int .i64,.int .i64,.int .i64,.int .i64,.at 800000005,.int .i64,.bool,.bool])],[(800000000,tI,.fz),(800000001,tI,.fz),(800000002,tM,(.pr (.ow .fz) (.pr (.ow (.pr .fz .fz)) (.pr .fz (.ow .fz))))),(800000003,tW,(.pr .fz .fz)),(800000004,tM,(.pr (.ow (.ow .fz)) (.pr (.ow (.pr .fz (.ow .fz))) (.pr .fz (.ow .fz))))),(800000005,tW,(.pr .fz (.ow .fz)))]⟩
def ycH:Shape:=⟨[(3,false,[.ptr 12416 0]),(4,false,[.int .i64]),(5,false,[.at 800000000]),(7,false,[.ptr 41408 0]),(11,false,[.at 800000001]),(12,false,[.bool]),(13,false,[.ci .i64 0])],[(12416,[.int .i64,.int .i64,.int .i64,.at 800000002,.int .i64,.int .i64,.int .i64,.int .i64,.int .i64,.at 800000003,.int .i64,.bool,.bool]),(41408,[.int .i64,.int .i64,.int .i64,.at 800000004,.int .i64,.int .i64,.int .i64,.int .i64,.int .i64,.at 800000005,.int .i64,.bool,.bool])],[(800000000,tI,.fz),(800000001,tI,.fz),(800000002,tM,(.pr (.ow .fz) (.pr (.ow (.pr .fz .fz)) (.pr .fz (.ow .fz))))),(800000003,tW,(.pr .fz .fz)),(800000004,tM,(.pr (.ow (.ow .fz)) (.pr (.ow (.pr .fz (.ow .fz))) (.pr .fz (.ow .fz))))),(800000005,tW,(.pr .fz (.ow .fz)))]⟩
def ycE:Shape:=⟨[(3,false,[.ptr 12416 0]),(5,false,[.at 800000000]),(7,false,[.ptr 41408 0]),(11,false,[.at 800000001]),(12,false,[.bool])],[(12416,[.int .i64,.int .i64,.int .i64,.at 800000002,.int .i64,.int .i64,.int .i64,.int .i64,.int .i64,.at 800000003,.int .i64,.bool,.bool]),(41408,[.int .i64,.int .i64,.int .i64,.at 800000004,.int .i64,.int .i64,.int .i64,.int .i64,.int .i64,.at 800000005,.int .i64,.bool,.bool])],[(800000000,tI,.fz),(800000001,tI,.fz),(800000002,tM,(.pr (.ow .fz) (.pr (.ow (.pr .fz .fz)) (.pr .fz (.ow .fz))))),(800000003,tW,(.pr .fz .fz)),(800000004,tM,(.pr (.ow (.ow .fz)) (.pr (.ow (.pr .fz (.ow .fz))) (.pr .fz (.ow .fz))))),(800000005,tW,(.pr .fz (.ow .fz)))]⟩
def yfs:Shape:=⟨[(2,false,[.bool])],[],[]⟩
abbrev yjA (v0:Int) (v1:Bool) (v2:Int) (v3 v4:dA) (v5 v6:List Int):(yal).X:=((((),()),(v0,()),((),()),((),()),((),()),(v1,()),(v2,()),()),((v3.1,v3.2.1.1,v3.2.1.2,(),v3.2.2.2.1,v3.2.2.2.2.1,v3.2.2.2.2.2.1,v3.2.2.2.2.2.2.1,v3.2.2.2.2.2.2.2.1,(),v3.2.2.2.2.2.2.2.2.2.1,v3.2.2.2.2.2.2.2.2.2.2.1,v3.2.2.2.2.2.2.2.2.2.2.2,()),(v4.1,v4.2.1.1,v4.2.1.2,(),v4.2.2.2.1,v4.2.2.2.2.1,v4.2.2.2.2.2.1,v4.2.2.2.2.2.2.1,v4.2.2.2.2.2.2.2.1,(),v4.2.2.2.2.2.2.2.2.2.1,v4.2.2.2.2.2.2.2.2.2.2.1,v4.2.2.2.2.2.2.2.2.2.2.2,()),()),(v5,v6,v3.2.2.1,v3.2.2.2.2.2.2.2.2.1,v4.2.2.1,v4.2.2.2.2.2.2.2.2.1,()))
abbrev yE0 (v0:Int) (v1:Bool) (v2 v3:dA) (v4 v5:List Int):(ycH).X:=((((),()),(v0,()),((),()),((),()),((),()),(v1,()),((),()),()),((v2.1,v2.2.1.1,v2.2.1.2,(),v2.2.2.2.1,v2.2.2.2.2.1,v2.2.2.2.2.2.1,v2.2.2.2.2.2.2.1,v2.2.2.2.2.2.2.2.1,(),v2.2.2.2.2.2.2.2.2.2.1,v2.2.2.2.2.2.2.2.2.2.2.1,v2.2.2.2.2.2.2.2.2.2.2.2,()),(v3.1,v3.2.1.1,v3.2.1.2,(),v3.2.2.2.1,v3.2.2.2.2.1,v3.2.2.2.2.2.1,v3.2.2.2.2.2.2.1,v3.2.2.2.2.2.2.2.1,(),v3.2.2.2.2.2.2.2.2.2.1,v3.2.2.2.2.2.2.2.2.2.2.1,v3.2.2.2.2.2.2.2.2.2.2.2,()),()),(v4,v5,v2.2.2.1,v2.2.2.2.2.2.2.2.2.1,v3.2.2.1,v3.2.2.2.2.2.2.2.2.1,()))
abbrev yEX (v0:Bool) (v1 v2:dA) (v3 v4:List Int):(ycE).X:=((((),()),((),()),((),()),((),()),(v0,()),()),((v1.1,v1.2.1.1,v1.2.1.2,(),v1.2.2.2.1,v1.2.2.2.2.1,v1.2.2.2.2.2.1,v1.2.2.2.2.2.2.1,v1.2.2.2.2.2.2.2.1,(),v1.2.2.2.2.2.2.2.2.2.1,v1.2.2.2.2.2.2.2.2.2.2.1,v1.2.2.2.2.2.2.2.2.2.2.2,()),(v2.1,v2.2.1.1,v2.2.1.2,(),v2.2.2.2.1,v2.2.2.2.2.1,v2.2.2.2.2.2.1,v2.2.2.2.2.2.2.1,v2.2.2.2.2.2.2.2.1,(),v2.2.2.2.2.2.2.2.2.2.1,v2.2.2.2.2.2.2.2.2.2.2.1,v2.2.2.2.2.2.2.2.2.2.2.2,()),()),(v3,v4,v1.2.2.1,v1.2.2.2.2.2.2.2.2.1,v2.2.2.1,v2.2.2.2.2.2.2.2.2.1,()))
def yjF (v0:Int) (v1:Bool) (v2 v3 v4 v5 v6 v7 v8 v9 v10 v11:Int) (v12 v13:Bool) (v14 v15 v16 v17 v18 v19 v20 v21 v22:Int) (v23 v24:Bool) (v25 v26:List Int) (v27:List dM) (v28:List dW) (v29:List dM) (v30:List dW):Option ((yal).X ⊕ ((ycE).X ⊕ (yfs).X)) :=
 bif (ltb v2 v5) then
 let r14:=ydX (v3,(v4,v5),v27,v6,v7,v8,v9,v10,v28,v11,v12,v13) v2
 let r15:=ydX (v14,(v15,v16),v29,v17,v18,v19,v20,v21,v30,v22,v23,v24) v2
 bif (v2 !=v0) then
 bif (!(!(r14.2==r15.2))) then
 let r16:=yae r14.1 r15.1
 bif (!r16) then
 some (.inr (.inr (((false,()),()),(),())))
 else
 some (.inl ((((),()),(v0,()),((),()),((),()),((),()),(v1,()),((IntKind.i64.wrap (v2+1)),()),()),((v3,v4,v5,(),v6,v7,v8,v9,v10,(),v11,v12,v13,()),(v14,v15,v16,(),v17,v18,v19,v20,v21,(),v22,v23,v24,()),()),(v25,v26,v27,v28,v29,v30,())))
 else
 some (.inr (.inr (((false,()),()),(),())))
 else
 some (.inl ((((),()),(v0,()),((),()),((),()),((),()),(v1,()),((IntKind.i64.wrap (v2+1)),()),()),((v3,v4,v5,(),v6,v7,v8,v9,v10,(),v11,v12,v13,()),(v14,v15,v16,(),v17,v18,v19,v20,v21,(),v22,v23,v24,()),()),(v25,v26,v27,v28,v29,v30,())))
 else
 some (.inr (.inl ((((),()),((),()),((),()),((),()),(v1,()),()),((v3,v4,v5,(),v6,v7,v8,v9,v10,(),v11,v12,v13,()),(v14,v15,v16,(),v17,v18,v19,v20,v21,(),v22,v23,v24,()),()),(v25,v26,v27,v28,v29,v30,()))))
def yaw (x:(yal).X):=yjF x.1.2.1.1 x.1.2.2.2.2.2.1.1 x.1.2.2.2.2.2.2.1.1 x.2.1.1.1 x.2.1.1.2.1 x.2.1.1.2.2.1 x.2.1.1.2.2.2.2.1 x.2.1.1.2.2.2.2.2.1 x.2.1.1.2.2.2.2.2.2.1 x.2.1.1.2.2.2.2.2.2.2.1 x.2.1.1.2.2.2.2.2.2.2.2.1 x.2.1.1.2.2.2.2.2.2.2.2.2.2.1 x.2.1.1.2.2.2.2.2.2.2.2.2.2.2.1 x.2.1.1.2.2.2.2.2.2.2.2.2.2.2.2.1 x.2.1.2.1.1 x.2.1.2.1.2.1 x.2.1.2.1.2.2.1 x.2.1.2.1.2.2.2.2.1 x.2.1.2.1.2.2.2.2.2.1 x.2.1.2.1.2.2.2.2.2.2.1 x.2.1.2.1.2.2.2.2.2.2.2.1 x.2.1.2.1.2.2.2.2.2.2.2.2.1 x.2.1.2.1.2.2.2.2.2.2.2.2.2.2.1 x.2.1.2.1.2.2.2.2.2.2.2.2.2.2.2.1 x.2.1.2.1.2.2.2.2.2.2.2.2.2.2.2.2.1 x.2.2.1 x.2.2.2.1 x.2.2.2.2.1 x.2.2.2.2.2.1 x.2.2.2.2.2.2.1 x.2.2.2.2.2.2.2.1
def yrS (x:(ycH).X):(yal).X:=((((),()),(x.1.2.1.1,()),((),()),((),()),((),()),(x.1.2.2.2.2.2.1.1,()),(0,()),()),((x.2.1.1.1,x.2.1.1.2.1,x.2.1.1.2.2.1,(),x.2.1.1.2.2.2.2.1,x.2.1.1.2.2.2.2.2.1,x.2.1.1.2.2.2.2.2.2.1,x.2.1.1.2.2.2.2.2.2.2.1,x.2.1.1.2.2.2.2.2.2.2.2.1,(),x.2.1.1.2.2.2.2.2.2.2.2.2.2.1,x.2.1.1.2.2.2.2.2.2.2.2.2.2.2.1,x.2.1.1.2.2.2.2.2.2.2.2.2.2.2.2.1,()),(x.2.1.2.1.1,x.2.1.2.1.2.1,x.2.1.2.1.2.2.1,(),x.2.1.2.1.2.2.2.2.1,x.2.1.2.1.2.2.2.2.2.1,x.2.1.2.1.2.2.2.2.2.2.1,x.2.1.2.1.2.2.2.2.2.2.2.1,x.2.1.2.1.2.2.2.2.2.2.2.2.1,(),x.2.1.2.1.2.2.2.2.2.2.2.2.2.2.1,x.2.1.2.1.2.2.2.2.2.2.2.2.2.2.2.1,x.2.1.2.1.2.2.2.2.2.2.2.2.2.2.2.2.1,()),()),(x.2.2.1,x.2.2.2.1,x.2.2.2.2.1,x.2.2.2.2.2.1,x.2.2.2.2.2.2.1,x.2.2.2.2.2.2.2.1,()))
def ytW:Code:=(zdI ya6 64 32756).getD .skip
theorem yFY:zdI ya6 64 8189=some (.block 2 (.loop ytW)):=by kernel_rfl
theorem yGG (x:(yal).X):zg7 ⟨yej,132,ypb⟩ 2 ytW 32756 yal ycE yfs x=yaw x:=by kernel_rfl
def yrV (x:(ycH).X):Nat:=18446744073709551616
def yky (x:(ycH).X):Option ((ycE).X ⊕ (yfs).X):=zr yaw (yrV x) (yrS x)
def yr2:Seg:=⟨ycH,ycE,yfs,yky⟩
def yxx:Nat→Option Seg:=fun q=>bif Nat.beq q 8189 then some yr2 else ypb q
theorem yIS:FrOk Tryz.prog ⟨yej,132,yxx⟩ ya6:=(yIR).loop (sg:=yr2) yal yrS (by decide) yFY yaw yrV (by decide) (fun _=>rfl) (fun x r _ h=>h) yGG
abbrev yel:List Par:= [.kp tYs .fz]
abbrev ylV:List OT:= [⟨false,tB,.fz⟩]
def yjv (a0:List Int):Option (ResD ylV×MutD yel) :=
 let r1:=yAK a0
 bif r1 then
 some ((true,()),())
 else
 bnd (yeE a0) fun r2 =>
 bnd (yjE a0 2) fun r3 =>
 bif (r2.1.1.2.1.2 !=0) then
 zjw (ylS (((a0,()),((),()),((r3.1.1.tmod r2.1.1.2.1.2),()),((),()),((),()),()),((r2.1.1.1,r2.1.1.2.1.1,r2.1.1.2.1.2,(),r2.1.1.2.2.2.1,r2.1.1.2.2.2.2.1,r2.1.1.2.2.2.2.2.1,r2.1.1.2.2.2.2.2.2.1,r2.1.1.2.2.2.2.2.2.2.1,(),r2.1.1.2.2.2.2.2.2.2.2.2.1,r2.1.1.2.2.2.2.2.2.2.2.2.2.1,r2.1.1.2.2.2.2.2.2.2.2.2.2.2,()),()),(([]:List Int),r2.1.1.2.2.1,r2.1.1.2.2.2.2.2.2.2.2.1,()))) (fun y5 =>
 let r7:=ye5 (y5.2.1.1.1,(y5.2.1.1.2.1,y5.2.1.1.2.2.1),y5.2.2.2.1,y5.2.1.1.2.2.2.2.1,y5.2.1.1.2.2.2.2.2.1,y5.2.1.1.2.2.2.2.2.2.1,y5.2.1.1.2.2.2.2.2.2.2.1,y5.2.1.1.2.2.2.2.2.2.2.2.1,y5.2.2.2.2.1,y5.2.1.1.2.2.2.2.2.2.2.2.2.2.1,y5.2.1.1.2.2.2.2.2.2.2.2.2.2.2.1,y5.2.1.1.2.2.2.2.2.2.2.2.2.2.2.2.1) y5.1.2.1.1 y5.2.2.1
 let r8:=ye9 (y5.2.1.1.1,(y5.2.1.1.2.1,y5.2.1.1.2.2.1),y5.2.2.2.1,y5.2.1.1.2.2.2.2.1,y5.2.1.1.2.2.2.2.2.1,y5.2.1.1.2.2.2.2.2.2.1,y5.2.1.1.2.2.2.2.2.2.2.1,y5.2.1.1.2.2.2.2.2.2.2.2.1,y5.2.2.2.2.1,y5.2.1.1.2.2.2.2.2.2.2.2.2.2.1,y5.2.1.1.2.2.2.2.2.2.2.2.2.2.2.1,y5.2.1.1.2.2.2.2.2.2.2.2.2.2.2.2.1) y5.1.2.1.1 y5.2.2.1
 bif (!(r7.2 !=r8.2)) then
 bnd (yeC r7.1 r8.1) fun r9 =>
 bif (!(!r9.1.1)) then
 bif (r7.2 !=0) then
 some ((false,()),())
 else
 let r10:=ydX r7.1 y5.1.2.1.1
 zjw (yky ((((),()),(y5.1.2.1.1,()),((),()),((),()),((),()),(r10.2,()),((),()),()),((y5.2.1.1.1,y5.2.1.1.2.1,y5.2.1.1.2.2.1,(),y5.2.1.1.2.2.2.2.1,y5.2.1.1.2.2.2.2.2.1,y5.2.1.1.2.2.2.2.2.2.1,y5.2.1.1.2.2.2.2.2.2.2.1,y5.2.1.1.2.2.2.2.2.2.2.2.1,(),y5.2.1.1.2.2.2.2.2.2.2.2.2.2.1,y5.2.1.1.2.2.2.2.2.2.2.2.2.2.2.1,y5.2.1.1.2.2.2.2.2.2.2.2.2.2.2.2.1,()),(r7.1.1,r7.1.2.1.1,r7.1.2.1.2,(),r7.1.2.2.2.1,r7.1.2.2.2.2.1,r7.1.2.2.2.2.2.1,r7.1.2.2.2.2.2.2.1,r7.1.2.2.2.2.2.2.2.1,(),r7.1.2.2.2.2.2.2.2.2.2.1,r7.1.2.2.2.2.2.2.2.2.2.2.1,r7.1.2.2.2.2.2.2.2.2.2.2.2,()),()),(y5.2.2.1,r10.1,y5.2.2.2.1,y5.2.2.2.2.1,r7.1.2.2.1,r7.1.2.2.2.2.2.2.2.2.1,()))) (fun y16 =>
 bif y16.1.2.2.2.2.1.1 then
 let r18:=yae y16.2.2.2.1 y16.2.2.1
 bif r18 then
 let r19:=yr0 (y16.2.1.2.1.1,(y16.2.1.2.1.2.1,y16.2.1.2.1.2.2.1),y16.2.2.2.2.2.2.1,y16.2.1.2.1.2.2.2.2.1,y16.2.1.2.1.2.2.2.2.2.1,y16.2.1.2.1.2.2.2.2.2.2.1,y16.2.1.2.1.2.2.2.2.2.2.2.1,y16.2.1.2.1.2.2.2.2.2.2.2.2.1,y16.2.2.2.2.2.2.2.1,y16.2.1.2.1.2.2.2.2.2.2.2.2.2.2.1,y16.2.1.2.1.2.2.2.2.2.2.2.2.2.2.2.1,y16.2.1.2.1.2.2.2.2.2.2.2.2.2.2.2.2.1)
 bif r19 then
 let r20:=yds (y16.2.1.2.1.1,(y16.2.1.2.1.2.1,y16.2.1.2.1.2.2.1),y16.2.2.2.2.2.2.1,y16.2.1.2.1.2.2.2.2.1,y16.2.1.2.1.2.2.2.2.2.1,y16.2.1.2.1.2.2.2.2.2.2.1,y16.2.1.2.1.2.2.2.2.2.2.2.1,y16.2.1.2.1.2.2.2.2.2.2.2.2.1,y16.2.2.2.2.2.2.2.1,y16.2.1.2.1.2.2.2.2.2.2.2.2.2.2.1,y16.2.1.2.1.2.2.2.2.2.2.2.2.2.2.2.1,y16.2.1.2.1.2.2.2.2.2.2.2.2.2.2.2.2.1)
 bif r20 then
 bnd (ybh y16.2.2.2.2.2.2.2.1 y16.2.2.2.2.2.1) fun r21 =>
 some ((r21.1.1,()),())
 else
 some ((false,()),())
 else
 some ((false,()),())
 else
 some ((false,()),())
 else
 some ((false,()),())) (fun y16 =>
 some ((y16.1.1.1,()),()))
 else
 some ((false,()),())
 else
 some ((false,()),())) (fun y5 =>
 none)
 else none
theorem yOD (x:InD yel):zjH ⟨yej,132,yxx⟩ Tryz.f6.results.toList ya6 yel ylV x=yjv x.1:=by kernel_rfl
theorem yK7:ConOk Tryz.prog 6 ⟨yel,ylV,fun x=>yjv x.1⟩:=zkh (yIS) Tryz.func6 (by kernel_rfl) (by kernel_rfl) Tryz.ntmps6.symm (by decide) (fun x r h=>(yOD x).trans h)
def ytu (a0:List Int):Bool:=true
theorem yNc (a0:List Int) (hk:zi9 yel (a0,())):yjv a0=(fun n=>some ((n,()),())) (ytu a0):=by
 have hb:a0.length≤140737488355328:=by have:a0.length * 1≤2 ^ 47:=hk.1.1; omega
 have hx:=y04 hk.1
 obtain ⟨a,V,e,hw,hi⟩:=y08 a0 hb
 have hg:=yi.1 hi.xc.1
 obtain ⟨e2,r0,r1⟩:=y09 (i:=2) hb hx (by omega) (by omega)
 have s0:0≤(atV a0 2).tmod a.2.1.2:=Int.tmod_nonneg _ r0
 have s1:(atV a0 2).tmod a.2.1.2 < a.2.1.2:=Int.tmod_lt_of_pos _ (by omega)
 have hso:=yZT hi s0 s1
 obtain ⟨s,hse⟩: ∃ s,s=(atV a0 2).tmod a.2.1.2:=⟨_,rfl⟩
 rw [← hse]at s0 s1 hso
 obtain ⟨d,hd⟩: ∃ d,d=(List.range (a.2.1.1 - 1).toNat).map (fun (i:Nat)=>atV a0 ((i:Int)+(3:Nat)) * 200):=⟨_,rfl⟩
 have hdl:(d.length:Int)=a.2.1.1 - 1:=by rw [hd,List.length_map,List.length_range]; omega
 have hdw:d.all isW=true:=by rw [hd]; exact y05 hb hx 200 (by omega) (by omega) 3 _ (by omega)
 have hq:a.2.2.2.2.2.1 < 60000:=by have:=hi.xs; omega
 have hc:=y2b hi (by omega) hso hdl hdw
 obtain ⟨hw2,hcz⟩:=y0p s d hw hq (by omega)
 have hu:downA (yu a s d).2=false:=hw2.2.2.1.1
 obtain ⟨hi2,_⟩:=yPz hi hso hdl hdw hq (by omega) hu
 have hlen:yuN (yu a s d).2:=yCp (yCw (yCn hi2)) (by have:=ypC hi2.xc.2.2.1 hi2.xc.1; omega)
 have hwr:yxh a s d=((yu a s d).2,0):=by unfold yxh; rw [hc,hcz]; rfl
 have hdo:yvq (yu a s d).2 s=(d,true):=by
  have eg:(yu a s d).2.2.1=a.2.1:=yuf a s d
  rw [yG4 hi2 s0 (by rw [eg]; exact s1),decide_eq_true (y1s hi hso hdw hq (by omega) hu),cond_true,eg,y03 hso hdl]
 have hdo2: ∀ t:Int,0≤t→t < a.2.1.2→t≠s→yvq (yu a s d).2 t=yvq a t:=fun t t0 t1 hts=>by
  have eg:(yu a s d).2.2.1=a.2.1:=yuf a s d
  rw [yG4 hi2 t0 (by rw [eg]; exact t1),yG4 hi t0 t1,y0N hi hso hdw hq (by omega) hu t0 t1 hts,eg,yZj hts]
 have l1:ylS (yGt a0 s a [])=some (.inl (yt9 s a d)):=by
  have:=zks (step:=yaM) (a.2.1.1 - 1).toNat (fun i l=>ylh a0 s i a l) (fun l (i:Nat)=>l++ [atV a0 ((i:Int)+(3:Nat)) * 200]) (fun i l=>l.length=i) (fun l=> .inl (yt9 s a l)) (fun i l hil hl=>by
   obtain ⟨e3,a1,a2⟩:=y09 (i:=(i:Int)+3) hb hx (by omega) (by omega)
   refine ⟨?_,by rw [List.length_append,hl]; rfl⟩
   simp only [yaM,ylh,ylH,wr (show -9223372036854775808≤a.2.1.1 - 1 by omega) (by omega),zjI (show (i:Int) < a.2.1.1 - 1 by omega),cond_true,wr (show -9223372036854775808≤(i:Int)+3 by omega) (by omega),e3,zky,wr (show -9223372036854775808≤atV a0 ((i:Int)+3) * 200 by omega) (by omega),wr (show -9223372036854775808≤(i:Int)+1 by omega) (by omega)]
   rw [zkw.2 (show (l.length+ [atV a0 ((i:Int)+3) * 200].length) * 8≤140737488355328 by simp only [List.length_cons,List.length_nil]; omega)]; rfl) (fun l hl=>by simp only [yaM,ylh,ylH,wr (show -9223372036854775808≤a.2.1.1 - 1 by omega) (by omega),zkm (show a.2.1.1 - 1≤(((a.2.1.1 - 1).toNat:Nat):Int) by omega),cond_false]) [] rfl 18446744073709551616 (by omega)
  rw [yqJ,List.nil_append,← hd]at this
  exact this
 have l2:yky (yE0 s true a (yu a s d).2 d d)=some (.inl (yEX true a (yu a s d).2 d d)) :=
  zjs (step:=yaw) (fun i=>yjA s true i a (yu a s d).2 d d) a.2.1.2.toNat _ (fun i hil=>by
   simp only [yaw,yjA,yjF,zjI (show (i:Int) < a.2.1.2 by omega),cond_true,wr (show -9223372036854775808≤(i:Int)+1 by omega) (by omega),Int.natCast_add,Int.natCast_one,Int.toNat_natCast,zkV,ydX]
   by_cases his:(i:Int)=s
   ·rw [show ((i:Int) !=s)=false from bne_eq_false_iff_eq.2 his]; rfl
   ·rw [show ((i:Int) !=s)=true from bne_iff_ne.2 his,hdo2 i (by omega) (by omega) his,yh8,beq_self_eq_true]; rfl) (by simp only [yaw,yjA,yjF,zkm (show a.2.1.2≤((a.2.1.2.toNat:Nat):Int) by omega),cond_false]) 18446744073709551616 (by omega)
 unfold yjv ytu
 simp only [e,e2,zky,← hse]
 cases yAK a0
 ·rw [show (a.2.1.2 !=0)=true from bne_iff_ne.2 (by omega)]
  simp only [cond_false,cond_true]
  refine (congrArg (fun z=>zjw z _ _) l1).trans ?_
  simp only [zkJ,zkV,ye5,ye9,hwr,zky,bne_self_eq_false,Bool.not_false,Bool.not_true,cond_true,cond_false,y2t _ hlen,ydX,hdo]
  refine (congrArg (fun z=>zjw z _ _) l2).trans ?_
  simp only [zkJ,zkV,cond_true,yh8,yr0,y2S hi2,yds,yCn hi2]
  simp only [yN7,yUR _ (show a.2.2.2.2.2.2.2.2.1.length≤1000000000 by have:=ypC hi.xc.2.2.1 hi.xc.1; omega),zky]
 ·rfl
def yJW:Con:=⟨yel,ylV,fun x=>(fun n=>some ((n,()),())) (ytu x.1)⟩
theorem yNz:ConOk Tryz.prog 6 yJW:=(yK7).mono (fun x r hk h=>(yNc x.1 hk).trans h)
end
end
end Go.Tf
