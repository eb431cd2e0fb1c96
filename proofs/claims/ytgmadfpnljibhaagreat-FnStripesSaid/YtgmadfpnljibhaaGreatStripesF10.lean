/- Functions of the program, and what they come to. -/
import Derived.Test.YtgmadfpnljibhaaGreatStripesF9
namespace Go.Tf
noncomputable section
open Go.Proofs
set_option synthInstance.maxHeartbeats 400000
set_option synthInstance.maxSize 10000
set_option linter.unusedVariables false
set_option linter.unusedSimpArgs false
set_option maxRecDepth 100000
section
def yHO:Code:=(Tryz.f271.body).getD .skip
def yIk:Env:=zki TT [(239,yF8)] []
theorem yO4:FrOk Tryz.prog ⟨yIk,18,fun _=>none⟩ yHO:=zkp yb yd ⟨yYY,trivial⟩
def yRy:Nat→Option Seg:=fun _=>none
abbrev yhX:List Par:= [.rd tN]
abbrev ysw:List OT:= [⟨false,tL,(.ow .fz)⟩]
def yoQ (a0:dN):Option (ResD ysw×MutD yhX) :=
 let r1:=ybg a0
 bif (!r1) then
 some ((([]:List Int),()),())
 else
 bif (zj4 ([21322,a0.1,a0.2.1,(a0.2.2.length:Int)]:List Int).length a0.2.2.length 8) then
 some (((([21322,a0.1,a0.2.1,(a0.2.2.length:Int)]:List Int)++a0.2.2),()),())
 else none
theorem yX9 (x:InD yhX):zjH ⟨yIk,18,yRy⟩ Tryz.f271.results.toList yHO yhX ysw x=yoQ x.1:=by kernel_rfl
theorem yTZ:ConOk Tryz.prog 271 ⟨yhX,ysw,fun x=>yoQ x.1⟩:=zkh (yO4) Tryz.func271 (by kernel_rfl) (by kernel_rfl) Tryz.ntmps271.symm (by decide) (fun x r h=>(yX9 x).trans h)
def yni (a0:dN):List Int:=ypW a0
theorem yV5 (a0:dN) (hk:zi9 yhX (a0,())):yoQ a0=(fun n=>some ((n,()),())) (yni a0):=by
 unfold yoQ yni ypW
 cases hr:ybg a0
 ·rfl
 ·have:=(yXD.1 hr).2.2.1
  rw [zkw.2 (show (([21322,a0.1,a0.2.1,(a0.2.2.length:Int)]:List Int).length+a0.2.2.length) * 8≤140737488355328 by simp only [List.length_cons,List.length_nil]; omega)]; rfl
def yEg:Con:=⟨yhX,ysw,fun x=>(fun n=>some ((n,()),())) (yni x.1)⟩
theorem yWO:ConOk Tryz.prog 271 yEg:=(yTZ).mono (fun x r hk h=>(yV5 x.1 hk).trans h)
end
section
def yo7:Code:=(Tryz.f229.body).getD .skip
def yuu:Env:=zki TT [(160,yEh),(207,yld),(261,yoA),(271,yEg)] []
theorem ySW:FrOk Tryz.prog ⟨yuu,24,fun _=>none⟩ yo7:=zkp yb yd ⟨yWP,ysS,yw3,yWO,trivial⟩
def yFE:Nat→Option Seg:=fun _=>none
def ydh:Shape:=⟨[(0,false,[.ptr 1000000000 0]),(3,false,[.ptr 0 0]),(4,false,[.int .i64])],[(0,[.int .i64,.int .i64,.br tI]),(1000000000,[.int .i64,.int .i64,.int .i64,.at 800000000,.int .i64,.int .i64,.int .i64,.int .i64,.int .i64,.at 800000001,.int .i64,.bool,.bool])],[(800000000,tM,(.pr (.ow .fz) (.pr (.ow (.pr .fz .fz)) (.pr .fz (.ow .fz))))),(800000001,tW,(.pr .fz .fz))]⟩
def yiP:Shape:=⟨[(0,false,[.ptr 1000000000 0]),(3,false,[.ptr 0 0]),(4,false,[.ci .i64 0])],[(0,[.int .i64,.int .i64,.br tI]),(1000000000,[.int .i64,.int .i64,.int .i64,.at 800000000,.int .i64,.int .i64,.int .i64,.int .i64,.int .i64,.at 800000001,.int .i64,.bool,.bool])],[(800000000,tM,(.pr (.ow .fz) (.pr (.ow (.pr .fz .fz)) (.pr .fz (.ow .fz))))),(800000001,tW,(.pr .fz .fz))]⟩
def yiA:Shape:=⟨[(0,false,[.ptr 1000000000 0])],[(1000000000,[.int .i64,.int .i64,.int .i64,.at 800000000,.int .i64,.int .i64,.int .i64,.int .i64,.int .i64,.at 800000001,.int .i64,.bool,.bool])],[(800000000,tM,(.pr (.ow .fz) (.pr (.ow (.pr .fz .fz)) (.pr .fz (.ow .fz))))),(800000001,tW,(.pr .fz .fz))]⟩
def yor:Shape:=⟨[],[],[]⟩
abbrev ytr (v0:Int) (v1:dN) (v2:dA):(ydh).X:=((((),()),((),()),(v0,()),()),((v1.1,v1.2.1,v1.2.2,()),(v2.1,v2.2.1.1,v2.2.1.2,(),v2.2.2.2.1,v2.2.2.2.2.1,v2.2.2.2.2.2.1,v2.2.2.2.2.2.2.1,v2.2.2.2.2.2.2.2.1,(),v2.2.2.2.2.2.2.2.2.2.1,v2.2.2.2.2.2.2.2.2.2.2.1,v2.2.2.2.2.2.2.2.2.2.2.2,()),()),(v2.2.2.1,v2.2.2.2.2.2.2.2.2.1,()))
abbrev yPV (v0:dN) (v1:dA):(yiP).X:=((((),()),((),()),((),()),()),((v0.1,v0.2.1,v0.2.2,()),(v1.1,v1.2.1.1,v1.2.1.2,(),v1.2.2.2.1,v1.2.2.2.2.1,v1.2.2.2.2.2.1,v1.2.2.2.2.2.2.1,v1.2.2.2.2.2.2.2.1,(),v1.2.2.2.2.2.2.2.2.2.1,v1.2.2.2.2.2.2.2.2.2.2.1,v1.2.2.2.2.2.2.2.2.2.2.2,()),()),(v1.2.2.1,v1.2.2.2.2.2.2.2.2.1,()))
abbrev yCu (v0:dA):(yiA).X:=((((),()),()),((v0.1,v0.2.1.1,v0.2.1.2,(),v0.2.2.2.1,v0.2.2.2.2.1,v0.2.2.2.2.2.1,v0.2.2.2.2.2.2.1,v0.2.2.2.2.2.2.2.1,(),v0.2.2.2.2.2.2.2.2.2.1,v0.2.2.2.2.2.2.2.2.2.2.1,v0.2.2.2.2.2.2.2.2.2.2.2,()),()),(v0.2.2.1,v0.2.2.2.2.2.2.2.2.1,()))
def ytP (v0 v1 v2:Int) (v3:List Int) (v4 v5 v6 v7 v8 v9 v10 v11 v12:Int) (v13 v14:Bool) (v15:List dM) (v16:List dW):Option ((ydh).X ⊕ ((yiA).X ⊕ (yor).X)) :=
 bif (ltb v0 (v15.length:Int)) then
 let r4:=yM v1
 let r5:=yni (v1,v2,v3)
 bnd (yfa (v4,(v5,v6),v15,v7,v8,v9,v10,v11,v16,v12,v13,v14) v0 r4 r5) fun r6 =>
 some (.inl ((((),()),((),()),((IntKind.i64.wrap (v0+1)),()),()),((v1,v2,v3,()),(r6.2.1.1,r6.2.1.2.1.1,r6.2.1.2.1.2,(),r6.2.1.2.2.2.1,r6.2.1.2.2.2.2.1,r6.2.1.2.2.2.2.2.1,r6.2.1.2.2.2.2.2.2.1,r6.2.1.2.2.2.2.2.2.2.1,(),r6.2.1.2.2.2.2.2.2.2.2.2.1,r6.2.1.2.2.2.2.2.2.2.2.2.2.1,r6.2.1.2.2.2.2.2.2.2.2.2.2.2,()),()),(r6.2.1.2.2.1,r6.2.1.2.2.2.2.2.2.2.2.1,())))
 else
 some (.inr (.inl ((((),()),()),((v4,v5,v6,(),v7,v8,v9,v10,v11,(),v12,v13,v14,()),()),(v15,v16,()))))
def ydP (x:(ydh).X):=ytP x.1.2.2.1.1 x.2.1.1.1 x.2.1.1.2.1 x.2.1.1.2.2.1 x.2.1.2.1.1 x.2.1.2.1.2.1 x.2.1.2.1.2.2.1 x.2.1.2.1.2.2.2.2.1 x.2.1.2.1.2.2.2.2.2.1 x.2.1.2.1.2.2.2.2.2.2.1 x.2.1.2.1.2.2.2.2.2.2.2.1 x.2.1.2.1.2.2.2.2.2.2.2.2.1 x.2.1.2.1.2.2.2.2.2.2.2.2.2.2.1 x.2.1.2.1.2.2.2.2.2.2.2.2.2.2.2.1 x.2.1.2.1.2.2.2.2.2.2.2.2.2.2.2.2.1 x.2.2.1 x.2.2.2.1
def yB3 (x:(yiP).X):(ydh).X:=((((),()),((),()),(0,()),()),((x.2.1.1.1,x.2.1.1.2.1,x.2.1.1.2.2.1,()),(x.2.1.2.1.1,x.2.1.2.1.2.1,x.2.1.2.1.2.2.1,(),x.2.1.2.1.2.2.2.2.1,x.2.1.2.1.2.2.2.2.2.1,x.2.1.2.1.2.2.2.2.2.2.1,x.2.1.2.1.2.2.2.2.2.2.2.1,x.2.1.2.1.2.2.2.2.2.2.2.2.1,(),x.2.1.2.1.2.2.2.2.2.2.2.2.2.2.1,x.2.1.2.1.2.2.2.2.2.2.2.2.2.2.2.1,x.2.1.2.1.2.2.2.2.2.2.2.2.2.2.2.2.1,()),()),(x.2.2.1,x.2.2.2.1,()))
def yD6:Code:=(zdI yo7 64 52).getD .skip
theorem yRW:zdI yo7 64 13=some (.block 0 (.loop yD6)):=by kernel_rfl
theorem yUO (x:(ydh).X):zg7 ⟨yuu,24,yFE⟩ 0 yD6 52 ydh yiA yor x=ydP x:=by kernel_rfl
def yCj (x:(yiP).X):Nat:=18446744073709551616
def yuJ (x:(yiP).X):Option ((yiA).X ⊕ (yor).X):=zr ydP (yCj x) (yB3 x)
def yCW:Seg:=⟨yiP,yiA,yor,yuJ⟩
def yFF:Nat→Option Seg:=fun q=>bif Nat.beq q 13 then some yCW else yFE q
theorem ySX:FrOk Tryz.prog ⟨yuu,24,yFF⟩ yo7:=(ySW).loop (sg:=yCW) ydh yB3 (by decide) yRW ydP yCj (by decide) (fun _=>rfl) (fun x r _ h=>h) yUO
abbrev ykV:List Par:= [.pt tA (.pr .fz (.pr (.pr .fz .fz) (.pr (.ow (.pr (.ow .fz) (.pr (.ow (.pr .fz .fz)) (.pr .fz (.ow .fz))))) (.pr .fz (.pr .fz (.pr .fz (.pr .fz (.pr .fz (.pr (.ow (.pr .fz .fz)) (.pr .fz (.pr .fz .fz))))))))))),.rd tN]
abbrev yu6:List OT:= []
def yq2 (a0:dA) (a1:dN):Option (ResD yu6×MutD ykV) :=
 zjw (yuJ ((((),()),((),()),((),()),()),((a1.1,a1.2.1,a1.2.2,()),(a0.1,a0.2.1.1,a0.2.1.2,(),a0.2.2.2.1,a0.2.2.2.2.1,a0.2.2.2.2.2.1,a0.2.2.2.2.2.2.1,a0.2.2.2.2.2.2.2.1,(),a0.2.2.2.2.2.2.2.2.2.1,a0.2.2.2.2.2.2.2.2.2.2.1,a0.2.2.2.2.2.2.2.2.2.2.2,()),()),(a0.2.2.1,a0.2.2.2.2.2.2.2.2.1,()))) (fun y6 =>
 let r8:=yd2 (y6.2.1.1.1,(y6.2.1.1.2.1,y6.2.1.1.2.2.1),y6.2.2.1,y6.2.1.1.2.2.2.2.1,y6.2.1.1.2.2.2.2.2.1,y6.2.1.1.2.2.2.2.2.2.1,y6.2.1.1.2.2.2.2.2.2.2.1,y6.2.1.1.2.2.2.2.2.2.2.2.1,y6.2.2.2.1,y6.2.1.1.2.2.2.2.2.2.2.2.2.2.1,y6.2.1.1.2.2.2.2.2.2.2.2.2.2.2.1,y6.2.1.1.2.2.2.2.2.2.2.2.2.2.2.2.1)
 some ((),(r8,()))) (fun y6 =>
 none)
theorem yZH (x:InD ykV):zjH ⟨yuu,24,yFF⟩ Tryz.f229.results.toList yo7 ykV yu6 x=yq2 x.1 x.2.1:=by kernel_rfl
theorem yWD:ConOk Tryz.prog 229 ⟨ykV,yu6,fun x=>yq2 x.1 x.2.1⟩:=zkh (ySX) Tryz.func229 (by kernel_rfl) (by kernel_rfl) Tryz.ntmps229.symm (by decide) (fun x r h=>(yZH x).trans h)
def ylu (a0:dA) (a1:dN):dA:=yF a0 a1
theorem yYM (a0:dA) (a1:dN) (hk:zi9 ykV (a0,a1,())):yq2 a0 a1=(fun n=>some ((),(n,()))) (ylu a0 a1):=by
 have hb:a0.2.2.1.length * 80≤2 ^ 47:=hk.1.2.2.1.1
 have h1:yuJ (yPV a1 a0)=some (.inl (yCu ((List.range a0.2.2.1.length).foldl (ybi a1) a0))) :=
  zks (step:=ydP) a0.2.2.1.length (fun i s=>ytr i a1 s) (ybi a1) (fun _ s=>s.2.2.1.length=a0.2.2.1.length) (fun s=> .inl (yCu s)) (fun i s hi hs=>⟨by
   simp only [ydP,ytr,ytP,hs,zjI (show (i:Int) < a0.2.2.1.length by omega),cond_true,wr (show -9223372036854775808≤(i:Int)+1 by omega) (by omega),Int.natCast_add,Int.natCast_one,Int.toNat_natCast,zkV,yni]
   rw [ynp s i (yM a1.1) (ypW a1) (zkO (by rw [hs]; exact hi))]
   rfl,(ymv a1 s i).trans hs⟩) (fun s hs=>by simp only [ydP,ytr,ytP,hs,zkm (Int.le_refl _),cond_false]) a0 rfl _ (by show _ < 18446744073709551616; omega)
 unfold yq2 ylu yF
 exact (congrArg (fun z=>zjw z _ _) h1).trans rfl
def yGd:Con:=⟨ykV,yu6,fun x=>(fun n=>some ((),(n,()))) (ylu x.1 x.2.1)⟩
theorem yY3:ConOk Tryz.prog 229 yGd:=(yWD).mono (fun x r hk h=>(yYM x.1 x.2.1 hk).trans h)
end
section
def yo4:Code:=(Tryz.f289.body).getD .skip
def yur:Env:=zki TT [] []
theorem ySN:FrOk Tryz.prog ⟨yur,18,fun _=>none⟩ yo4:=zkp yb yd trivial
def yFy:Nat→Option Seg:=fun _=>none
def yde:Shape:=⟨[(0,false,[.br tI]),(3,false,[.int .i64]),(4,false,[.int .i64])],[],[]⟩
def yiM:Shape:=⟨[(0,false,[.br tI]),(3,false,[.ci .i64 0]),(4,false,[.ci .i64 0])],[],[]⟩
def yix:Shape:=⟨[(3,false,[.int .i64])],[],[]⟩
def yoo:Shape:=⟨[],[],[]⟩
abbrev yto (v0:List Int) (v1 v2:Int):(yde).X:=(((v0,()),(v1,()),(v2,()),()),(),())
abbrev yPS (v0:List Int):(yiM).X:=(((v0,()),((),()),((),()),()),(),())
abbrev yCs (v0:Int):(yix).X:=(((v0,()),()),(),())
def ytM (v0:List Int) (v1 v2:Int):Option ((yde).X ⊕ ((yix).X ⊕ (yoo).X)) :=
 bif (ltb v2 (v0.length:Int)) then
 bif (inb v2 v0.length) then
 some (.inl (((v0,()),((IntKind.i64.wrap ((BitVec.ofInt IntKind.i64.bits v1 ^^^ BitVec.ofInt IntKind.i64.bits (nth v0 v2 0)).toNat:Int)),()),((IntKind.i64.wrap (v2+1)),()),()),(),()))
 else none
 else
 some (.inr (.inl (((v1,()),()),(),())))
def ydM (x:(yde).X):=ytM x.1.1.1 x.1.2.1.1 x.1.2.2.1.1
def yBZ (x:(yiM).X):(yde).X:=(((x.1.1.1,()),(0,()),(0,()),()),(),())
def yD2:Code:=(zdI yo4 64 116).getD .skip
theorem yRS:zdI yo4 64 29=some (.block 0 (.loop yD2)):=by kernel_rfl
theorem yUK (x:(yde).X):zg7 ⟨yur,18,yFy⟩ 0 yD2 116 yde yix yoo x=ydM x:=by kernel_rfl
def yCf (x:(yiM).X):Nat:=18446744073709551616
def yuF (x:(yiM).X):Option ((yix).X ⊕ (yoo).X):=zr ydM (yCf x) (yBZ x)
def yCS:Seg:=⟨yiM,yix,yoo,yuF⟩
def yFz:Nat→Option Seg:=fun q=>bif Nat.beq q 29 then some yCS else yFy q
theorem ySO:FrOk Tryz.prog ⟨yur,18,yFz⟩ yo4:=(ySN).loop (sg:=yCS) yde yBZ (by decide) yRS ydM yCf (by decide) (fun _=>rfl) (fun x r _ h=>h) yUK
abbrev ykQ:List Par:= [.rd tL]
abbrev yu1:List OT:= [⟨false,tI,.fz⟩]
def yqZ (a0:List Int):Option (ResD yu1×MutD ykQ) :=
 zjw (yuF (((a0,()),((),()),((),()),()),(),())) (fun y0 =>
 some ((y0.1.1.1,()),())) (fun y0 =>
 none)
theorem yZB (x:InD ykQ):zjH ⟨yur,18,yFz⟩ Tryz.f289.results.toList yo4 ykQ yu1 x=yqZ x.1:=by kernel_rfl
theorem yWx:ConOk Tryz.prog 289 ⟨ykQ,yu1,fun x=>yqZ x.1⟩:=zkh (ySO) Tryz.func289 (by kernel_rfl) (by kernel_rfl) Tryz.ntmps289.symm (by decide) (fun x r h=>(yZB x).trans h)
def ylr (a0:List Int):Int:=xorOf a0
theorem yYI (a0:List Int) (hk:zi9 ykQ (a0,())):yqZ a0=(fun n=>some ((n,()),())) (ylr a0):=by
 have hb:a0.length * 8≤2 ^ 47:=hk.1.1
 have h1:yuF (yPS a0)=some (.inl (yCs (xorOf a0))) :=
  zkk (step:=ydM) a0 0 (fun i s=>yto a0 s i) xw (fun _ _=>True) (fun s=> .inl (yCs s)) (fun i s hi _=>⟨by
   simp only [ydM,yto,ytM,zjI (show (i:Int) < a0.length by omega),cond_true,wr (show -9223372036854775808≤(i:Int)+1 by omega) (by omega),Int.natCast_add,Int.natCast_one,Int.toNat_natCast,zkO hi,zjW]; rfl,trivial⟩) (fun s _=>by simp only [ydM,yto,ytM,zkm (Int.le_refl _),cond_false]) 0 trivial _ (by show _ < 18446744073709551616; omega)
 unfold yqZ ylr
 rw [h1]; rfl
def yF9:Con:=⟨ykQ,yu1,fun x=>(fun n=>some ((n,()),())) (ylr x.1)⟩
theorem yYZ:ConOk Tryz.prog 289 yF9:=(yWx).mono (fun x r hk h=>(yYI x.1 hk).trans h)
end
section
def yze:Code:=(Tryz.f273.body).getD .skip
def yzy:Env:=zki TT [(289,yF9)] []
theorem yG1:FrOk Tryz.prog ⟨yzy,5,fun _=>none⟩ yze:=zkp yb yd ⟨yYZ,trivial⟩
def yIE:Nat→Option Seg:=fun _=>none
abbrev yfO:List Par:= [.rd tL]
abbrev yjR:List OT:= [⟨false,tI,.fz⟩]
def ynO (a0:List Int):Option (ResD yjR×MutD yfO) :=
 let r1:=ylr a0
 some ((r1,()),())
theorem yMe (x:InD yfO):zjH ⟨yzy,5,yIE⟩ Tryz.f273.results.toList yze yfO yjR x=ynO x.1:=by kernel_rfl
theorem yJd:ConOk Tryz.prog 273 ⟨yfO,yjR,fun x=>ynO x.1⟩:=zkh (yG1) Tryz.func273 (by kernel_rfl) (by kernel_rfl) Tryz.ntmps273.symm (by decide) (fun x r h=>(yMe x).trans h)
def yj8 (a0:List Int):Int :=
 let r1:=ylr a0
 r1
def ywn:Con:=⟨yfO,yjR,fun x=>(fun n=>some ((n,()),())) (yj8 x.1)⟩
theorem yK2 (a0:List Int):ynO a0=(fun n=>some ((n,()),())) (yj8 a0):=zkS (p:=fun (n:Int)=>((n,()),())) rfl
theorem yLe:ConOk Tryz.prog 273 ywn:=(yJd).mono (fun x r _ h=>(yK2 x.1).trans h)
end
section
def ymH:Code:=(Tryz.f230.body).getD .skip
def ysa:Env:=zki TT [(48,yvk),(141,yfu),(207,yld),(272,yrm),(273,ywn)] []
theorem yPr:FrOk Tryz.prog ⟨ysa,61,fun _=>none⟩ ymH:=zkp yb yd ⟨yGB,ylC,ysS,yCC,yLe,trivial⟩
def yDz:Nat→Option Seg:=fun _=>none
def ydg:Shape:=⟨[(0,false,[.ptr 1000000000 0]),(1,false,[.int .i64]),(2,false,[.br tI]),(6,false,[.int .i64]),(7,false,[.int .i64])],[(1000000000,[.int .i64,.int .i64,.int .i64,.at 800000000,.int .i64,.int .i64,.int .i64,.int .i64,.int .i64,.at 800000001,.int .i64,.bool,.bool])],[(800000000,tM,(.pr (.ow .fz) (.pr (.ow (.pr .fz .fz)) (.pr .fz (.ow .fz))))),(800000001,tW,(.pr .fz .fz))]⟩
def yiO:Shape:=⟨[(0,false,[.ptr 1000000000 0]),(1,false,[.int .i64]),(2,false,[.br tI]),(6,false,[.int .i64]),(7,false,[.ci .i64 0])],[(1000000000,[.int .i64,.int .i64,.int .i64,.at 800000000,.int .i64,.int .i64,.int .i64,.int .i64,.int .i64,.at 800000001,.int .i64,.bool,.bool])],[(800000000,tM,(.pr (.ow .fz) (.pr (.ow (.pr .fz .fz)) (.pr .fz (.ow .fz))))),(800000001,tW,(.pr .fz .fz))]⟩
def yiz:Shape:=⟨[],[(1000000000,[.int .i64,.int .i64,.int .i64,.at 800000000,.int .i64,.int .i64,.int .i64,.int .i64,.int .i64,.at 800000001,.int .i64,.bool,.bool])],[(800000000,tM,(.pr (.ow .fz) (.pr (.ow (.pr .fz .fz)) (.pr .fz (.ow .fz))))),(800000001,tW,(.pr .fz .fz))]⟩
def yoq:Shape:=⟨[],[],[]⟩
abbrev ytq (v0:Int) (v1:List Int) (v2 v3:Int) (v4:dA):(ydg).X:=((((),()),(v0,()),(v1,()),(v2,()),(v3,()),()),((v4.1,v4.2.1.1,v4.2.1.2,(),v4.2.2.2.1,v4.2.2.2.2.1,v4.2.2.2.2.2.1,v4.2.2.2.2.2.2.1,v4.2.2.2.2.2.2.2.1,(),v4.2.2.2.2.2.2.2.2.2.1,v4.2.2.2.2.2.2.2.2.2.2.1,v4.2.2.2.2.2.2.2.2.2.2.2,()),()),(v4.2.2.1,v4.2.2.2.2.2.2.2.2.1,()))
abbrev yPU (v0:Int) (v1:List Int) (v2:Int) (v3:dA):(yiO).X:=((((),()),(v0,()),(v1,()),(v2,()),((),()),()),((v3.1,v3.2.1.1,v3.2.1.2,(),v3.2.2.2.1,v3.2.2.2.2.1,v3.2.2.2.2.2.1,v3.2.2.2.2.2.2.1,v3.2.2.2.2.2.2.2.1,(),v3.2.2.2.2.2.2.2.2.2.1,v3.2.2.2.2.2.2.2.2.2.2.1,v3.2.2.2.2.2.2.2.2.2.2.2,()),()),(v3.2.2.1,v3.2.2.2.2.2.2.2.2.1,()))
abbrev yCt (v0:dA):(yiz).X:=((),((v0.1,v0.2.1.1,v0.2.1.2,(),v0.2.2.2.1,v0.2.2.2.2.1,v0.2.2.2.2.2.1,v0.2.2.2.2.2.2.1,v0.2.2.2.2.2.2.2.1,(),v0.2.2.2.2.2.2.2.2.2.1,v0.2.2.2.2.2.2.2.2.2.2.1,v0.2.2.2.2.2.2.2.2.2.2.2,()),()),(v0.2.2.1,v0.2.2.2.2.2.2.2.2.1,()))
def ytO (v0:Int) (v1:List Int) (v2 v3 v4 v5 v6 v7 v8 v9 v10 v11 v12:Int) (v13 v14:Bool) (v15:List dM) (v16:List dW):Option ((ydg).X ⊕ ((yiz).X ⊕ (yoq).X)) :=
 bif (ltb v3 (v15.length:Int)) then
 let r9:=yj8 v1
 bif (v3 !=v2) then
 bif (v5 !=0) then
 bif (inb ((IntKind.i64.wrap ((IntKind.i64.wrap ((IntKind.i64.wrap (v3 - v2)) - 1))+v5)).tmod v5) v1.length) then
 let r10:=ydZ (v4,(v5,v6),v15,v7,v8,v9,v10,v11,v16,v12,v13,v14) v3 v0
 bif r10 then
 let r11:=ybm v0
 bnd (yfa (v4,(v5,v6),v15,v7,v8,v9,v10,v11,v16,v12,v13,v14) v3 r11 ([(nth v1 ((IntKind.i64.wrap ((IntKind.i64.wrap ((IntKind.i64.wrap (v3 - v2)) - 1))+v5)).tmod v5) 0)]:List Int)) fun r12 =>
 some (.inl ((((),()),(v0,()),(v1,()),(v2,()),((IntKind.i64.wrap (v3+1)),()),()),((r12.2.1.1,r12.2.1.2.1.1,r12.2.1.2.1.2,(),r12.2.1.2.2.2.1,r12.2.1.2.2.2.2.1,r12.2.1.2.2.2.2.2.1,r12.2.1.2.2.2.2.2.2.1,r12.2.1.2.2.2.2.2.2.2.1,(),r12.2.1.2.2.2.2.2.2.2.2.2.1,r12.2.1.2.2.2.2.2.2.2.2.2.2.1,r12.2.1.2.2.2.2.2.2.2.2.2.2.2,()),()),(r12.2.1.2.2.1,r12.2.1.2.2.2.2.2.2.2.2.1,())))
 else
 some (.inl ((((),()),(v0,()),(v1,()),(v2,()),((IntKind.i64.wrap (v3+1)),()),()),((v4,v5,v6,(),v7,v8,v9,v10,v11,(),v12,v13,v14,()),()),(v15,v16,())))
 else none
 else none
 else
 let r13:=ydZ (v4,(v5,v6),v15,v7,v8,v9,v10,v11,v16,v12,v13,v14) v3 v0
 bif r13 then
 let r14:=ybm v0
 bnd (yfa (v4,(v5,v6),v15,v7,v8,v9,v10,v11,v16,v12,v13,v14) v3 r14 ([r9]:List Int)) fun r15 =>
 some (.inl ((((),()),(v0,()),(v1,()),(v2,()),((IntKind.i64.wrap (v3+1)),()),()),((r15.2.1.1,r15.2.1.2.1.1,r15.2.1.2.1.2,(),r15.2.1.2.2.2.1,r15.2.1.2.2.2.2.1,r15.2.1.2.2.2.2.2.1,r15.2.1.2.2.2.2.2.2.1,r15.2.1.2.2.2.2.2.2.2.1,(),r15.2.1.2.2.2.2.2.2.2.2.2.1,r15.2.1.2.2.2.2.2.2.2.2.2.2.1,r15.2.1.2.2.2.2.2.2.2.2.2.2.2,()),()),(r15.2.1.2.2.1,r15.2.1.2.2.2.2.2.2.2.2.1,())))
 else
 some (.inl ((((),()),(v0,()),(v1,()),(v2,()),((IntKind.i64.wrap (v3+1)),()),()),((v4,v5,v6,(),v7,v8,v9,v10,v11,(),v12,v13,v14,()),()),(v15,v16,())))
 else
 some (.inr (.inl ((),((v4,v5,v6,(),v7,v8,v9,v10,v11,(),v12,v13,v14,()),()),(v15,v16,()))))
def ydO (x:(ydg).X):=ytO x.1.2.1.1 x.1.2.2.1.1 x.1.2.2.2.1.1 x.1.2.2.2.2.1.1 x.2.1.1.1 x.2.1.1.2.1 x.2.1.1.2.2.1 x.2.1.1.2.2.2.2.1 x.2.1.1.2.2.2.2.2.1 x.2.1.1.2.2.2.2.2.2.1 x.2.1.1.2.2.2.2.2.2.2.1 x.2.1.1.2.2.2.2.2.2.2.2.1 x.2.1.1.2.2.2.2.2.2.2.2.2.2.1 x.2.1.1.2.2.2.2.2.2.2.2.2.2.2.1 x.2.1.1.2.2.2.2.2.2.2.2.2.2.2.2.1 x.2.2.1 x.2.2.2.1
def yB2 (x:(yiO).X):(ydg).X:=((((),()),(x.1.2.1.1,()),(x.1.2.2.1.1,()),(x.1.2.2.2.1.1,()),(0,()),()),((x.2.1.1.1,x.2.1.1.2.1,x.2.1.1.2.2.1,(),x.2.1.1.2.2.2.2.1,x.2.1.1.2.2.2.2.2.1,x.2.1.1.2.2.2.2.2.2.1,x.2.1.1.2.2.2.2.2.2.2.1,x.2.1.1.2.2.2.2.2.2.2.2.1,(),x.2.1.1.2.2.2.2.2.2.2.2.2.2.1,x.2.1.1.2.2.2.2.2.2.2.2.2.2.2.1,x.2.1.1.2.2.2.2.2.2.2.2.2.2.2.2.1,()),()),(x.2.2.1,x.2.2.2.1,()))
def yD5:Code:=(zdI ymH 64 28).getD .skip
theorem yRV:zdI ymH 64 7=some (.block 0 (.loop yD5)):=by kernel_rfl
theorem yUN (x:(ydg).X):zg7 ⟨ysa,61,yDz⟩ 0 yD5 28 ydg yiz yoq x=ydO x:=by kernel_rfl
def yCi (x:(yiO).X):Nat:=18446744073709551616
def yuI (x:(yiO).X):Option ((yiz).X ⊕ (yoq).X):=zr ydO (yCi x) (yB2 x)
def yCV:Seg:=⟨yiO,yiz,yoq,yuI⟩
def yDA:Nat→Option Seg:=fun q=>bif Nat.beq q 7 then some yCV else yDz q
theorem yPs:FrOk Tryz.prog ⟨ysa,61,yDA⟩ ymH:=(yPr).loop (sg:=yCV) ydg yB2 (by decide) yRV ydO yCi (by decide) (fun _=>rfl) (fun x r _ h=>h) yUN
abbrev yfE:List Par:= [.pt tA (.pr .fz (.pr (.pr .fz .fz) (.pr (.ow (.pr (.ow .fz) (.pr (.ow (.pr .fz .fz)) (.pr .fz (.ow .fz))))) (.pr .fz (.pr .fz (.pr .fz (.pr .fz (.pr .fz (.pr (.ow (.pr .fz .fz)) (.pr .fz (.pr .fz .fz))))))))))),.rd tI,.rd tL]
abbrev ym7:List OT:= []
def yoW (a0:dA) (a1:Int) (a2:List Int):Option (ResD ym7×MutD yfE) :=
 let r1:=ydu a0.2.1 a1
 zjw (yuI ((((),()),(a1,()),(a2,()),(r1,()),((),()),()),((a0.1,a0.2.1.1,a0.2.1.2,(),a0.2.2.2.1,a0.2.2.2.2.1,a0.2.2.2.2.2.1,a0.2.2.2.2.2.2.1,a0.2.2.2.2.2.2.2.1,(),a0.2.2.2.2.2.2.2.2.2.1,a0.2.2.2.2.2.2.2.2.2.2.1,a0.2.2.2.2.2.2.2.2.2.2.2,()),()),(a0.2.2.1,a0.2.2.2.2.2.2.2.2.1,()))) (fun y15 =>
 some ((),((y15.2.1.1.1,(y15.2.1.1.2.1,y15.2.1.1.2.2.1),y15.2.2.1,y15.2.1.1.2.2.2.2.1,y15.2.1.1.2.2.2.2.2.1,y15.2.1.1.2.2.2.2.2.2.1,y15.2.1.1.2.2.2.2.2.2.2.1,y15.2.1.1.2.2.2.2.2.2.2.2.1,y15.2.2.2.1,y15.2.1.1.2.2.2.2.2.2.2.2.2.2.1,y15.2.1.1.2.2.2.2.2.2.2.2.2.2.2.1,y15.2.1.1.2.2.2.2.2.2.2.2.2.2.2.2.1),()))) (fun y15 =>
 none)
theorem yYp (x:InD yfE):zjH ⟨ysa,61,yDA⟩ Tryz.f230.results.toList ymH yfE ym7 x=yoW x.1 x.2.1 x.2.2.1:=by kernel_rfl
theorem yUf:ConOk Tryz.prog 230 ⟨yfE,ym7,fun x=>yoW x.1 x.2.1 x.2.2.1⟩:=zkh (yPs) Tryz.func230 (by kernel_rfl) (by kernel_rfl) Tryz.ntmps230.symm (by decide) (fun x r h=>(yYp x).trans h)
def ysO (a0:dA) (a1:Int) (a2:List Int):dA:=yA a0 a1 a2
def ynq (a0:dA) (a1:Int) (a2:List Int):Bool:=yI a0.2.1 a1&&((a2.length:Int)==a0.2.1.1 - 1&&(a0.2.2.1.length:Int)==a0.2.1.1)
theorem yWg (a0:dA) (a1:Int) (a2:List Int) (hk:zi9 yfE (a0,a1,a2,())) (hq:ynq a0 a1 a2=true):yoW a0 a1 a2=(fun n=>some ((),(n,()))) (ysO a0 a1 a2):=by
 simp only [ynq,Bool.and_eq_true,beq_iff_eq]at hq
 have hg:=yi.1 (yN.1 hq.1).1
 have hp:=ygz hq.1
 have h1:yuI (yPU a1 a2 (ye a0.2.1 a1) a0)=some (.inl (yCt (yA a0 a1 a2))) :=
  zks (step:=ydO) a0.2.2.1.length (fun i s=>ytq a1 a2 (ye a0.2.1 a1) i s) (yaH (ye a0.2.1 a1) a0.2.1.1 a1 a2) (fun _ s=>s.2.2.1.length=a0.2.2.1.length∧s.2.1=a0.2.1) (fun s=> .inl (yCt s)) (fun i s hi hs=>⟨by
   have hN:s.2.1.1=a0.2.1.1:=by rw [hs.2]
   simp only [ydO,ytq,ytO,hs.1,zjI (show (i:Int) < a0.2.2.1.length by omega),cond_true,wr (show -9223372036854775808≤(i:Int)+1 by omega) (by omega),Int.natCast_add,Int.natCast_one,Int.toNat_natCast,zkV,ylr,yj8,ydZ,ygT,yaH,ycc]
   rw [← hN]
   by_cases he:(i:Int)=ye a0.2.1 a1
   ·rw [show ((i:Int) !=ye a0.2.1 a1)=false by simp [he],show ((i:Int)==ye a0.2.1 a1)=true from beq_iff_eq.2 he]
    rw [ynp s i (dataAt a1) [xorOf a2] (zkO (by rw [hs.1]; exact hi))]
    cases yby s i a1<;>rfl
   ·have hd:=y3Y (N:=s.2.1.1) (i:=i) (p:=ye a0.2.1 a1) ⟨by omega,by omega⟩ ⟨by omega,by omega⟩ ⟨hp.1,by omega⟩ he
    rw [show ((i:Int) !=ye a0.2.1 a1)=true from bne_iff_ne.2 he,show ((i:Int)==ye a0.2.1 a1)=false from beq_eq_false_iff_ne.2 he,show (s.2.1.1 !=0)=true from bne_iff_ne.2 (by omega),
     wr (show -9223372036854775808≤(i:Int) - ye a0.2.1 a1 by omega) (by omega),wr (show -9223372036854775808≤(i:Int) - ye a0.2.1 a1 - 1 by omega) (by omega),wr (show -9223372036854775808≤(i:Int) - ye a0.2.1 a1 - 1+s.2.1.1 by omega) (by omega),zjP.2 (show 0≤((i:Int) - ye a0.2.1 a1 - 1+s.2.1.1).tmod s.2.1.1∧((i:Int) - ye a0.2.1 a1 - 1+s.2.1.1).tmod s.2.1.1 < a2.length by omega)]
    rw [ynp s i (dataAt a1) [nth a2 (((i:Int) - ye a0.2.1 a1 - 1+s.2.1.1).tmod s.2.1.1) 0] (zkO (by rw [hs.1]; exact hi))]
    cases yby s i a1<;>rfl,(ynu _ _ _ _ s i).trans hs.1,(yaf (yJY _ _ _ _ s i)).trans hs.2⟩) (fun s hs=>by simp only [ydO,ytq,ytO,hs.1,zkm (Int.le_refl _),cond_false]) a0 ⟨rfl,rfl⟩ _ (by show _ < 18446744073709551616; omega)
 unfold yoW ysO ydu
 exact (congrArg (fun z=>zjw z _ _) h1).trans rfl
def yh7 (a0:dA) (a1:Int) (a2:List Int):Option (ResD ym7×MutD yfE):=bif ynq a0 a1 a2 then (fun n=>some ((),(n,()))) (ysO a0 a1 a2) else none
theorem yW5 (a0:dA) (a1:Int) (a2:List Int) (h:ynq a0 a1 a2=true):yh7 a0 a1 a2=(fun n=>some ((),(n,()))) (ysO a0 a1 a2):=by unfold yh7; rw [h]; rfl
def yEt:Con:=⟨yfE,ym7,fun x=>yh7 x.1 x.2.1 x.2.2.1⟩
theorem yW1:ConOk Tryz.prog 230 yEt:=(yUf).mono (fun x r hk h=>zkW h (fun hq=>yWg x.1 x.2.1 x.2.2.1 hk hq))
end
section
def yFk:Code:=(Tryz.f147.body).getD .skip
def yFW:Env:=zki TT [(208,yta),(229,yGd),(230,yEt)] []
theorem yMN:FrOk Tryz.prog ⟨yFW,54,fun _=>none⟩ yFk:=zkp yb yd ⟨yEG,yY3,yW1,trivial⟩
def yOk:Nat→Option Seg:=fun _=>none
abbrev yer:List Par:= [.pt tA (.pr .fz (.pr (.pr .fz .fz) (.pr (.ow (.pr (.ow .fz) (.pr (.ow (.pr .fz .fz)) (.pr .fz (.ow .fz))))) (.pr .fz (.pr .fz (.pr .fz (.pr .fz (.pr .fz (.pr (.ow (.pr .fz .fz)) (.pr .fz (.pr .fz .fz))))))))))),.rd tI,.rd tL]
abbrev yk7:List OT:= [⟨false,tI,.fz⟩]
def ymt (a0:dA) (a1:Int) (a2:List Int):Option (ResD yk7×MutD yer) :=
 bif (leb 4 (IntKind.i64.wrap (a0.2.2.2.2.2.1 - a0.2.2.2.2.2.2.1))) then
 let r1:=ygO a0
 bif r1.2.2.2.2.2.2.2.2.2.2.1 then
 some ((6,()),(r1,()))
 else
 bif (zj4 ([]:List Int).length a2.length 8) then
 let r2:=ylu r1 (r1.2.2.2.2.2.1,a1,(([]:List Int)++a2))
 bif r2.2.2.2.2.2.2.2.2.2.2.1 then
 some ((6,()),(r2,()))
 else
 bnd (yh7 (r2.1,r2.2.1,r2.2.2.1,r2.2.2.2.1,r2.2.2.2.2.1,(IntKind.i64.wrap (r2.2.2.2.2.2.1+1)),r2.2.2.2.2.2.2) a1 a2) fun r3 =>
 bif r3.2.1.2.2.2.2.2.2.2.2.2.2.1 then
 some ((6,()),(r3.2.1,()))
 else
 some ((0,()),(r3.2.1,()))
 else none
 else
 bif a0.2.2.2.2.2.2.2.2.2.2.1 then
 some ((6,()),(a0,()))
 else
 bif (zj4 ([]:List Int).length a2.length 8) then
 let r4:=ylu a0 (a0.2.2.2.2.2.1,a1,(([]:List Int)++a2))
 bif r4.2.2.2.2.2.2.2.2.2.2.1 then
 some ((6,()),(r4,()))
 else
 bnd (yh7 (r4.1,r4.2.1,r4.2.2.1,r4.2.2.2.1,r4.2.2.2.2.1,(IntKind.i64.wrap (r4.2.2.2.2.2.1+1)),r4.2.2.2.2.2.2) a1 a2) fun r5 =>
 bif r5.2.1.2.2.2.2.2.2.2.2.2.2.1 then
 some ((6,()),(r5.2.1,()))
 else
 some ((0,()),(r5.2.1,()))
 else none
theorem yVA (x:InD yer):zjH ⟨yFW,54,yOk⟩ Tryz.f147.results.toList yFk yer yk7 x=ymt x.1 x.2.1 x.2.2.1:=by kernel_rfl
theorem yQM:ConOk Tryz.prog 147 ⟨yer,yk7,fun x=>ymt x.1 x.2.1 x.2.2.1⟩:=zkh (yMN) Tryz.func147 (by kernel_rfl) (by kernel_rfl) Tryz.ntmps147.symm (by decide) (fun x r h=>(yVA x).trans h)
def ylv (a0:dA) (a1:Int) (a2:List Int):Int×dA:=yu a0 a1 a2
def ygP (a0:dA) (a1:Int) (a2:List Int):Bool:=yI a0.2.1 a1&&((a2.length:Int)==a0.2.1.1 - 1&&(a0.2.2.1.length:Int)==a0.2.1.1)
theorem yTD (a0:dA) (a1:Int) (a2:List Int) (hk:zi9 yer (a0,a1,a2,())) (hq:ygP a0 a1 a2=true):ymt a0 a1 a2=(fun n=>some ((n.1,()),(n.2,()))) (ylv a0 a1 a2):=by
 have hq':=hq
 simp only [ygP,Bool.and_eq_true,beq_iff_eq]at hq
 have hg:=yi.1 (yN.1 hq.1).1
 have hap:zj4 ([]:List Int).length a2.length 8=true:=zkw.2 (by simp only [List.length_nil]; omega)
 have key: ∀ b:dA,b.2.1=a0.2.1→b.2.2.1.length=a0.2.2.1.length→yh7 (yO (yF b (b.2.2.2.2.2.1,a1,a2))) a1 a2=some ((),(yA (yO (yF b (b.2.2.2.2.2.1,a1,a2))) a1 a2,())):=fun b h1 h2=>yW5 _ _ _ (by
  unfold ynq
  rw [show (yO (yF b (b.2.2.2.2.2.1,a1,a2))).2.1=a0.2.1 from (yaf (ybj _ _)).trans h1,show (yO (yF b (b.2.2.2.2.2.1,a1,a2))).2.2.1.length=a0.2.2.1.length from (y0X _ _).trans h2]
  exact hq')
 unfold ymt ylv yu yk
 simp only [yIz,ylu,List.nil_append,hap,cond_true]
 cases leb 4 (IntKind.i64.wrap (a0.2.2.2.2.2.1 - a0.2.2.2.2.2.2.1))
 ·have hd:=key a0 rfl rfl
  simp only [cond_false]
  generalize yF a0 (a0.2.2.2.2.2.1,a1,a2)=R at hd ⊢
  generalize yA (yO R) a1 a2=Q at hd ⊢
  unfold yO at hd
  simp only [cond_false,hd,zky]
  unfold downA
  cases a0.2.2.2.2.2.2.2.2.2.2.1
  ·cases R.2.2.2.2.2.2.2.2.2.2.1
   ·cases Q.2.2.2.2.2.2.2.2.2.2.1<;>rfl
   ·rfl
  ·rfl
 ·have hd:=key (checkA a0) (yJV a0) (ytZ a0)
  simp only [cond_true]
  generalize checkA a0=C at hd ⊢
  generalize yF C (C.2.2.2.2.2.1,a1,a2)=R at hd ⊢
  generalize yA (yO R) a1 a2=Q at hd ⊢
  unfold yO at hd
  simp only [cond_true,hd,zky]
  unfold downA
  cases C.2.2.2.2.2.2.2.2.2.2.1
  ·cases R.2.2.2.2.2.2.2.2.2.2.1
   ·cases Q.2.2.2.2.2.2.2.2.2.2.1<;>rfl
   ·rfl
  ·rfl
def ylB (a0:dA) (a1:Int) (a2:List Int):Option (ResD yk7×MutD yer):=bif ygP a0 a1 a2 then (fun n=>some ((n.1,()),(n.2,()))) (ylv a0 a1 a2) else none
theorem yEK (a0:dA) (a1:Int) (a2:List Int) (h:ygP a0 a1 a2=true):ylB a0 a1 a2=(fun n=>some ((n.1,()),(n.2,()))) (ylv a0 a1 a2):=by unfold ylB; rw [h]; rfl
def ytb:Con:=⟨yer,yk7,fun x=>ylB x.1 x.2.1 x.2.2.1⟩
theorem yEH:ConOk Tryz.prog 147 ytb:=(yQM).mono (fun x r hk h=>zkW h (fun hq=>yTD x.1 x.2.1 x.2.2.1 hk hq))
end
end
end Go.Tf
