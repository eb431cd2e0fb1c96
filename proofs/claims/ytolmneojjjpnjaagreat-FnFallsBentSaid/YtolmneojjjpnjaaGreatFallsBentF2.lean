/- Functions of the program, and what they come to. -/
import Derived.Test.YtolmneojjjpnjaaGreatFallsBentF1
namespace Go.Tf
noncomputable section
open Go.Proofs Go.Proofs.Tryz IntKind
set_option synthInstance.maxHeartbeats 400000
set_option synthInstance.maxSize 10000
set_option linter.unusedVariables false
set_option linter.unusedSimpArgs false
set_option maxRecDepth 100000
def yup:Code:=(f169.body).getD .skip
def yE2:Env:=zkw TT [(91,yvV),(206,ykF),(207,yIl),(208,yoa)] []
theorem yXW:FrOk prog ⟨yE2,24,fun _=>none⟩ yup:=zkA mixed yd ⟨yKy,ysy,y2r,yzr,trivial⟩
def yJU:Nat→Option Seg:=fun _=>none
def ydD:Shape:=⟨[(0,false,[.ptr 1000000000 0]),(3,false,[.ptr 0 0]),(4,false,[.int .i64])],[(0,[.int .i64,.int .i64,.br tI]),(1000000000,[.int .i64,.int .i64,.int .i64,.at 800000000,.int .i64,.int .i64,.int .i64,.int .i64,.int .i64,.at 800000001,.int .i64,.bool,.bool])],[(800000000,tM,(.pr (.ow .fz) (.pr (.ow (.pr .fz .fz)) (.pr .fz (.ow .fz))))),(800000001,tW,(.pr .fz .fz))]⟩
def yiV:Shape:=⟨[(0,false,[.ptr 1000000000 0]),(3,false,[.ptr 0 0]),(4,false,[.ci .i64 0])],[(0,[.int .i64,.int .i64,.br tI]),(1000000000,[.int .i64,.int .i64,.int .i64,.at 800000000,.int .i64,.int .i64,.int .i64,.int .i64,.int .i64,.at 800000001,.int .i64,.bool,.bool])],[(800000000,tM,(.pr (.ow .fz) (.pr (.ow (.pr .fz .fz)) (.pr .fz (.ow .fz))))),(800000001,tW,(.pr .fz .fz))]⟩
def yiG:Shape:=⟨[(0,false,[.ptr 1000000000 0])],[(1000000000,[.int .i64,.int .i64,.int .i64,.at 800000000,.int .i64,.int .i64,.int .i64,.int .i64,.int .i64,.at 800000001,.int .i64,.bool,.bool])],[(800000000,tM,(.pr (.ow .fz) (.pr (.ow (.pr .fz .fz)) (.pr .fz (.ow .fz))))),(800000001,tW,(.pr .fz .fz))]⟩
def ynZ:Shape:=⟨[],[],[]⟩
abbrev ytl (v0:Int) (v1:dN) (v2:dA):(ydD).X:=((((),()),((),()),(v0,()),()),((v1.1,v1.2.1,v1.2.2,()),(v2.1,v2.2.1.1,v2.2.1.2,(),v2.2.2.2.1,v2.2.2.2.2.1,v2.2.2.2.2.2.1,v2.2.2.2.2.2.2.1,v2.2.2.2.2.2.2.2.1,(),v2.2.2.2.2.2.2.2.2.2.1,v2.2.2.2.2.2.2.2.2.2.2.1,v2.2.2.2.2.2.2.2.2.2.2.2,()),()),(v2.2.2.1,v2.2.2.2.2.2.2.2.2.1,()))
abbrev yUm (v0:dN) (v1:dA):(yiV).X:=((((),()),((),()),((),()),()),((v0.1,v0.2.1,v0.2.2,()),(v1.1,v1.2.1.1,v1.2.1.2,(),v1.2.2.2.1,v1.2.2.2.2.1,v1.2.2.2.2.2.1,v1.2.2.2.2.2.2.1,v1.2.2.2.2.2.2.2.1,(),v1.2.2.2.2.2.2.2.2.2.1,v1.2.2.2.2.2.2.2.2.2.2.1,v1.2.2.2.2.2.2.2.2.2.2.2,()),()),(v1.2.2.1,v1.2.2.2.2.2.2.2.2.1,()))
abbrev yGR (v0:dA):(yiG).X:=((((),()),()),((v0.1,v0.2.1.1,v0.2.1.2,(),v0.2.2.2.1,v0.2.2.2.2.1,v0.2.2.2.2.2.1,v0.2.2.2.2.2.2.1,v0.2.2.2.2.2.2.2.1,(),v0.2.2.2.2.2.2.2.2.2.1,v0.2.2.2.2.2.2.2.2.2.2.1,v0.2.2.2.2.2.2.2.2.2.2.2,()),()),(v0.2.2.1,v0.2.2.2.2.2.2.2.2.1,()))
def yt1 (v0 v1 v2:Int) (v3:List Int) (v4 v5 v6 v7 v8 v9 v10 v11 v12:Int) (v13 v14:Bool) (v15:List dM) (v16:List dW):Option ((ydD).X ⊕ ((yiG).X ⊕ (ynZ).X)) :=bif(ltb v0 (v15.length:Int))then let r4:=yl v1;let r5:=ymw (v1,v2,v3);bnd (yfI (v4,(v5,v6),v15,v7,v8,v9,v10,v11,v16,v12,v13,v14) v0 r4 r5) fun r6 =>some (.inl ((((),()),((),()),((i64.wrap (v0+1)),()),()),((v1,v2,v3,()),(r6.2.1.1,r6.2.1.2.1.1,r6.2.1.2.1.2,(),r6.2.1.2.2.2.1,r6.2.1.2.2.2.2.1,r6.2.1.2.2.2.2.2.1,r6.2.1.2.2.2.2.2.2.1,r6.2.1.2.2.2.2.2.2.2.1,(),r6.2.1.2.2.2.2.2.2.2.2.2.1,r6.2.1.2.2.2.2.2.2.2.2.2.2.1,r6.2.1.2.2.2.2.2.2.2.2.2.2.2,()),()),(r6.2.1.2.2.1,r6.2.1.2.2.2.2.2.2.2.2.1,()))) else some (.inr (.inl ((((),()),()),((v4,v5,v6,(),v7,v8,v9,v10,v11,(),v12,v13,v14,()),()),(v15,v16,()))))
def yeg (x:(ydD).X):=yt1 x.1.2.2.1.1 x.2.1.1.1 x.2.1.1.2.1 x.2.1.1.2.2.1 x.2.1.2.1.1 x.2.1.2.1.2.1 x.2.1.2.1.2.2.1 x.2.1.2.1.2.2.2.2.1 x.2.1.2.1.2.2.2.2.2.1 x.2.1.2.1.2.2.2.2.2.2.1 x.2.1.2.1.2.2.2.2.2.2.2.1 x.2.1.2.1.2.2.2.2.2.2.2.2.1 x.2.1.2.1.2.2.2.2.2.2.2.2.2.2.1 x.2.1.2.1.2.2.2.2.2.2.2.2.2.2.2.1 x.2.1.2.1.2.2.2.2.2.2.2.2.2.2.2.2.1 x.2.2.1 x.2.2.2.1
def yGp (x:(yiV).X):(ydD).X:=((((),()),((),()),(0,()),()),((x.2.1.1.1,x.2.1.1.2.1,x.2.1.1.2.2.1,()),(x.2.1.2.1.1,x.2.1.2.1.2.1,x.2.1.2.1.2.2.1,(),x.2.1.2.1.2.2.2.2.1,x.2.1.2.1.2.2.2.2.2.1,x.2.1.2.1.2.2.2.2.2.2.1,x.2.1.2.1.2.2.2.2.2.2.2.1,x.2.1.2.1.2.2.2.2.2.2.2.2.1,(),x.2.1.2.1.2.2.2.2.2.2.2.2.2.2.1,x.2.1.2.1.2.2.2.2.2.2.2.2.2.2.2.1,x.2.1.2.1.2.2.2.2.2.2.2.2.2.2.2.2.1,()),()),(x.2.2.1,x.2.2.2.1,()))
def yH7:Code:=(zd7 yup 64 52).getD .skip
theorem yW9:zd7 yup 64 13=some (.block 0 (.loop yH7)):=by kernel_rfl
theorem yZZ (x:(ydD).X):zhu ⟨yE2,24,yJU⟩ 0 yH7 52 ydD yiG ynZ x=yeg x:=by kernel_rfl
def yGF (x:(yiV).X):Nat:=18446744073709551616
def yuU (x:(yiV).X):Option ((yiG).X ⊕ (ynZ).X):=zF yeg (yGF x) (yGp x)
def yHw:Seg:=⟨yiV,yiG,ynZ,yuU⟩
def y0v:Nat→Option Seg:=fun q=>bif Nat.beq q 13 then some yHw else yJU q
theorem yXX:FrOk prog ⟨yE2,24,y0v⟩ yup:=(yXW).loop (sg:=yHw) ydD yGp (by decide) yW9 yeg yGF (by decide) (fun _=>rfl) (fun x r _ h=>h) yZZ
abbrev yvc:List Par:= [.pt tA (.pr .fz (.pr (.pr .fz .fz) (.pr (.ow (.pr (.ow .fz) (.pr (.ow (.pr .fz .fz)) (.pr .fz (.ow .fz))))) (.pr .fz (.pr .fz (.pr .fz (.pr .fz (.pr .fz (.pr (.ow (.pr .fz .fz)) (.pr .fz (.pr .fz .fz))))))))))),.rd tN]
abbrev yFF:List OT:= []
def yzH (a0:dA) (a1:dN):Option (zaY yFF×zak yvc) :=zkt (yuU ((((),()),((),()),((),()),()),((a1.1,a1.2.1,a1.2.2,()),(a0.1,a0.2.1.1,a0.2.1.2,(),a0.2.2.2.1,a0.2.2.2.2.1,a0.2.2.2.2.2.1,a0.2.2.2.2.2.2.1,a0.2.2.2.2.2.2.2.1,(),a0.2.2.2.2.2.2.2.2.2.1,a0.2.2.2.2.2.2.2.2.2.2.1,a0.2.2.2.2.2.2.2.2.2.2.2,()),()),(a0.2.2.1,a0.2.2.2.2.2.2.2.2.1,()))) (fun y6 =>let r8:=yen (y6.2.1.1.1,(y6.2.1.1.2.1,y6.2.1.1.2.2.1),y6.2.2.1,y6.2.1.1.2.2.2.2.1,y6.2.1.1.2.2.2.2.2.1,y6.2.1.1.2.2.2.2.2.2.1,y6.2.1.1.2.2.2.2.2.2.2.1,y6.2.1.1.2.2.2.2.2.2.2.2.1,y6.2.2.2.1,y6.2.1.1.2.2.2.2.2.2.2.2.2.2.1,y6.2.1.1.2.2.2.2.2.2.2.2.2.2.2.1,y6.2.1.1.2.2.2.2.2.2.2.2.2.2.2.2.1);some ((),(r8,()))) (fun y6 =>none)
theorem y2d:ConOk prog 169 ⟨yvc,yFF,fun x=>yzH x.1 x.2.1⟩:=zkI (yXX) func169 ntmps169.symm fun x=>by kernel_rfl
def yfH (a0:dA) (a1:dN):dA:=yc0 a0 a1
theorem y4G (a0:dA) (a1:dN) (hk:zjx yvc (a0,a1,())):yzH a0 a1=(fun n=>some ((),(n,()))) (yfH a0 a1):=by
 have hb:a0.2.2.1.length*80≤2^47:=hk.1.2.2.1.1
 have h1:yuU (yUm a1 a0)=some (.inl (yGR ((List.range a0.2.2.1.length).foldl (yeM a1) a0))) :=
  zkD (step:=yeg) a0.2.2.1.length (fun i s=>ytl i a1 s) (yeM a1) (fun _ s=>s.2.2.1.length=a0.2.2.1.length) (fun s=> .inl (yGR s)) (fun i s hi hs=>⟨by
   simp only[yeg,ytl,yt1,hs,zky (show(i:Int)<a0.2.2.1.length by omega),cond_true,wq ((i:Int)+1) (by omega) (by omega),Int.natCast_add,Int.natCast_one,Int.toNat_natCast,zkX,ymw];rw[ymB s i (yl a1.1) (yo6 a1) (zkR (by rw[hs]; exact hi))]
   rfl,(yql a1 s i).trans hs⟩) (fun s hs=>by simp only[yeg,ytl,yt1,hs,zk3 (Int.le_refl _),cond_false]) a0 rfl _ (by show _<18446744073709551616; omega)
 unfold yzH yfH yc0;exact(congrArg (fun z=>zkt z _ _) h1).trans rfl
def yzh:Con:=⟨yvc,yFF,fun x=>(fun n=>some ((),(n,()))) (yfH x.1 x.2.1)⟩
theorem yLW:ConOk prog 169 yzh:=(y2d).mono (fun x r hk h=>(y4G x.1 x.2.1 hk).trans h)
def yuk:Code:=(f230.body).getD .skip
def yEX:Env:=zkw TT [] []
theorem yXF:FrOk prog ⟨yEX,18,fun _=>none⟩ yuk:=zkA mixed yd trivial
def yJP:Nat→Option Seg:=fun _=>none
def ydz:Shape:=⟨[(0,false,[.br tI]),(3,false,[.int .i64]),(4,false,[.int .i64])],[],[]⟩
def yiR:Shape:=⟨[(0,false,[.br tI]),(3,false,[.ci .i64 0]),(4,false,[.ci .i64 0])],[],[]⟩
def yiC:Shape:=⟨[(3,false,[.int .i64])],[],[]⟩
def ynV:Shape:=⟨[],[],[]⟩
abbrev yth (v0:List Int) (v1 v2:Int):(ydz).X:=(((v0,()),(v1,()),(v2,()),()),(),())
abbrev yUi (v0:List Int):(yiR).X:=(((v0,()),((),()),((),()),()),(),())
abbrev yGP (v0:Int):(yiC).X:=(((v0,()),()),(),())
def ytX (v0:List Int) (v1 v2:Int):Option ((ydz).X ⊕ ((yiC).X ⊕ (ynV).X)) :=bif(ltb v2 (v0.length:Int))then bif(inb v2 v0.length)then some (.inl (((v0,()),((i64.wrap ((BitVec.ofInt IntKind.i64.bits v1 ^^^ BitVec.ofInt IntKind.i64.bits (nth v0 v2 0)).toNat:Int)),()),((i64.wrap (v2+1)),()),()),(),())) else none else some (.inr (.inl (((v1,()),()),(),())))
def yec (x:(ydz).X):=ytX x.1.1.1 x.1.2.1.1 x.1.2.2.1.1
def yGk (x:(yiR).X):(ydz).X:=(((x.1.1.1,()),(0,()),(0,()),()),(),())
def yH2:Code:=(zd7 yuk 64 116).getD .skip
theorem yW4:zd7 yuk 64 29=some (.block 0 (.loop yH2)):=by kernel_rfl
theorem yZU (x:(ydz).X):zhu ⟨yEX,18,yJP⟩ 0 yH2 116 ydz yiC ynV x=yec x:=by kernel_rfl
def yGA (x:(yiR).X):Nat:=18446744073709551616
def yuP (x:(yiR).X):Option ((yiC).X ⊕ (ynV).X):=zF yec (yGA x) (yGk x)
def yHr:Seg:=⟨yiR,yiC,ynV,yuP⟩
def y0q:Nat→Option Seg:=fun q=>bif Nat.beq q 29 then some yHr else yJP q
theorem yXG:FrOk prog ⟨yEX,18,y0q⟩ yuk:=(yXF).loop (sg:=yHr) ydz yGk (by decide) yW4 yec yGA (by decide) (fun _=>rfl) (fun x r _ h=>h) yZU
abbrev yu8:List Par:= [.rd tL]
abbrev yFu:List OT:= [⟨false,tI,.fz⟩]
def yzE (a0:List Int):Option (zaY yFu×zak yu8) :=zkt (yuP (((a0,()),((),()),((),()),()),(),())) (fun y0 =>some ((y0.1.1.1,()),())) (fun y0 =>none)
theorem y1W:ConOk prog 230 ⟨yu8,yFu,fun x=>yzE x.1⟩:=zkI (yXG) func230 ntmps230.symm fun x=>by kernel_rfl
def ykT (a0:List Int):Int:=yfZ a0
theorem y4C (a0:List Int) (hk:zjx yu8 (a0,())):yzE a0=(fun n=>some ((n,()),())) (ykT a0):=by
 have hb:a0.length*8≤2^47:=hk.1.1
 have h1:yuP (yUi a0)=some (.inl (yGP (yfZ a0))) :=
  zkx (step:=yec) a0 0 (fun i s=>yth a0 s i) xw (fun _ _=>True) (fun s=> .inl (yGP s)) (fun i s hi _=>⟨by
   simp only[yec,yth,ytX,zky (show(i:Int)<a0.length by omega),cond_true,wq ((i:Int)+1) (by omega) (by omega),Int.natCast_add,Int.natCast_one,Int.toNat_natCast,zkR hi,zkS]; rfl,trivial⟩) (fun s _=>by simp only[yec,yth,ytX,zk3 (Int.le_refl _),cond_false]) 0 trivial _ (by show _<18446744073709551616; omega)
 unfold yzE ykT;rw[h1]; rfl
def yJ6:Con:=⟨yu8,yFu,fun x=>(fun n=>some ((n,()),())) (ykT x.1)⟩
theorem y4Q:ConOk prog 230 yJ6:=(y1W).mono (fun x r hk h=>(y4C x.1 hk).trans h)
def yPw:Code:=(f210.body).getD .skip
def yPM:Env:=zkw TT [(230,yJ6)] []
theorem yK8:FrOk prog ⟨yPM,5,fun _=>none⟩ yPw:=zkA mixed yd ⟨y4Q,trivial⟩
abbrev yqK:List Par:= [.rd tL]
abbrev yqO:List OT:= [⟨false,tI,.fz⟩]
def yx2 (a0:List Int):Option (zaY yqO×zak yqK) :=let r1:=ykT a0;some ((r1,()),())
theorem yMM:ConOk prog 210 ⟨yqK,yqO,fun x=>yx2 x.1⟩:=zkI (yK8) func210 ntmps210.symm fun x=>by kernel_rfl
def ykc (a0:List Int):Int :=let r1:=ykT a0;r1
def yxv:Con:=⟨yqK,yqO,fun x=>(fun n=>some ((n,()),())) (ykc x.1)⟩
theorem yOM (a0:List Int):yx2 a0=(fun n=>some ((n,()),())) (ykc a0):=zkV (p:=fun(n:Int)=>((n,()),())) rfl
theorem yO1:ConOk prog 210 yxv:=(yMM).mono (fun x r _ h=>(yOM x.1).trans h)
def yr2:Code:=(f170.body).getD .skip
def yBw:Env:=zkw TT [(113,ydN),(206,ykF),(209,yqU),(210,yxv),(211,yvS)] []
theorem yTR:FrOk prog ⟨yBw,61,fun _=>none⟩ yr2:=zkA mixed yd ⟨yg6,ysy,yG3,yO1,yKw,trivial⟩
def yHO:Nat→Option Seg:=fun _=>none
def ydC:Shape:=⟨[(0,false,[.ptr 1000000000 0]),(1,false,[.int .i64]),(2,false,[.br tI]),(6,false,[.int .i64]),(7,false,[.int .i64])],[(1000000000,[.int .i64,.int .i64,.int .i64,.at 800000000,.int .i64,.int .i64,.int .i64,.int .i64,.int .i64,.at 800000001,.int .i64,.bool,.bool])],[(800000000,tM,(.pr (.ow .fz) (.pr (.ow (.pr .fz .fz)) (.pr .fz (.ow .fz))))),(800000001,tW,(.pr .fz .fz))]⟩
def yiU:Shape:=⟨[(0,false,[.ptr 1000000000 0]),(1,false,[.int .i64]),(2,false,[.br tI]),(6,false,[.int .i64]),(7,false,[.ci .i64 0])],[(1000000000,[.int .i64,.int .i64,.int .i64,.at 800000000,.int .i64,.int .i64,.int .i64,.int .i64,.int .i64,.at 800000001,.int .i64,.bool,.bool])],[(800000000,tM,(.pr (.ow .fz) (.pr (.ow (.pr .fz .fz)) (.pr .fz (.ow .fz))))),(800000001,tW,(.pr .fz .fz))]⟩
def yiF:Shape:=⟨[],[(1000000000,[.int .i64,.int .i64,.int .i64,.at 800000000,.int .i64,.int .i64,.int .i64,.int .i64,.int .i64,.at 800000001,.int .i64,.bool,.bool])],[(800000000,tM,(.pr (.ow .fz) (.pr (.ow (.pr .fz .fz)) (.pr .fz (.ow .fz))))),(800000001,tW,(.pr .fz .fz))]⟩
def ynY:Shape:=⟨[],[],[]⟩
abbrev ytk (v0:Int) (v1:List Int) (v2 v3:Int) (v4:dA):(ydC).X:=((((),()),(v0,()),(v1,()),(v2,()),(v3,()),()),((v4.1,v4.2.1.1,v4.2.1.2,(),v4.2.2.2.1,v4.2.2.2.2.1,v4.2.2.2.2.2.1,v4.2.2.2.2.2.2.1,v4.2.2.2.2.2.2.2.1,(),v4.2.2.2.2.2.2.2.2.2.1,v4.2.2.2.2.2.2.2.2.2.2.1,v4.2.2.2.2.2.2.2.2.2.2.2,()),()),(v4.2.2.1,v4.2.2.2.2.2.2.2.2.1,()))
abbrev yUl (v0:Int) (v1:List Int) (v2:Int) (v3:dA):(yiU).X:=((((),()),(v0,()),(v1,()),(v2,()),((),()),()),((v3.1,v3.2.1.1,v3.2.1.2,(),v3.2.2.2.1,v3.2.2.2.2.1,v3.2.2.2.2.2.1,v3.2.2.2.2.2.2.1,v3.2.2.2.2.2.2.2.1,(),v3.2.2.2.2.2.2.2.2.2.1,v3.2.2.2.2.2.2.2.2.2.2.1,v3.2.2.2.2.2.2.2.2.2.2.2,()),()),(v3.2.2.1,v3.2.2.2.2.2.2.2.2.1,()))
abbrev yGQ (v0:dA):(yiF).X:=((),((v0.1,v0.2.1.1,v0.2.1.2,(),v0.2.2.2.1,v0.2.2.2.2.1,v0.2.2.2.2.2.1,v0.2.2.2.2.2.2.1,v0.2.2.2.2.2.2.2.1,(),v0.2.2.2.2.2.2.2.2.2.1,v0.2.2.2.2.2.2.2.2.2.2.1,v0.2.2.2.2.2.2.2.2.2.2.2,()),()),(v0.2.2.1,v0.2.2.2.2.2.2.2.2.1,()))
def yt0 (v0:Int) (v1:List Int) (v2 v3 v4 v5 v6 v7 v8 v9 v10 v11 v12:Int) (v13 v14:Bool) (v15:List dM) (v16:List dW):Option ((ydC).X ⊕ ((yiF).X ⊕ (ynY).X)) :=bif(ltb v3 (v15.length:Int))then let r9:=ykc v1;bif(v3 !=v2)then bif(v5 !=0)then bif(inb ((i64.wrap ((i64.wrap ((i64.wrap (v3-v2))-1))+v5)).tmod v5) v1.length)then let r10:=yel (v4,(v5,v6),v15,v7,v8,v9,v10,v11,v16,v12,v13,v14) v3 v0;bif r10 then let r11:=yaO v0;bnd (yfI (v4,(v5,v6),v15,v7,v8,v9,v10,v11,v16,v12,v13,v14) v3 r11 ([(nth v1 ((i64.wrap ((i64.wrap ((i64.wrap (v3-v2))-1))+v5)).tmod v5) 0)]:List Int)) fun r12 =>some (.inl ((((),()),(v0,()),(v1,()),(v2,()),((i64.wrap (v3+1)),()),()),((r12.2.1.1,r12.2.1.2.1.1,r12.2.1.2.1.2,(),r12.2.1.2.2.2.1,r12.2.1.2.2.2.2.1,r12.2.1.2.2.2.2.2.1,r12.2.1.2.2.2.2.2.2.1,r12.2.1.2.2.2.2.2.2.2.1,(),r12.2.1.2.2.2.2.2.2.2.2.2.1,r12.2.1.2.2.2.2.2.2.2.2.2.2.1,r12.2.1.2.2.2.2.2.2.2.2.2.2.2,()),()),(r12.2.1.2.2.1,r12.2.1.2.2.2.2.2.2.2.2.1,()))) else some (.inl ((((),()),(v0,()),(v1,()),(v2,()),((i64.wrap (v3+1)),()),()),((v4,v5,v6,(),v7,v8,v9,v10,v11,(),v12,v13,v14,()),()),(v15,v16,()))) else none else none else let r13:=yel (v4,(v5,v6),v15,v7,v8,v9,v10,v11,v16,v12,v13,v14) v3 v0;bif r13 then let r14:=yaO v0;bnd (yfI (v4,(v5,v6),v15,v7,v8,v9,v10,v11,v16,v12,v13,v14) v3 r14 ([r9]:List Int)) fun r15 =>some (.inl ((((),()),(v0,()),(v1,()),(v2,()),((i64.wrap (v3+1)),()),()),((r15.2.1.1,r15.2.1.2.1.1,r15.2.1.2.1.2,(),r15.2.1.2.2.2.1,r15.2.1.2.2.2.2.1,r15.2.1.2.2.2.2.2.1,r15.2.1.2.2.2.2.2.2.1,r15.2.1.2.2.2.2.2.2.2.1,(),r15.2.1.2.2.2.2.2.2.2.2.2.1,r15.2.1.2.2.2.2.2.2.2.2.2.2.1,r15.2.1.2.2.2.2.2.2.2.2.2.2.2,()),()),(r15.2.1.2.2.1,r15.2.1.2.2.2.2.2.2.2.2.1,()))) else some (.inl ((((),()),(v0,()),(v1,()),(v2,()),((i64.wrap (v3+1)),()),()),((v4,v5,v6,(),v7,v8,v9,v10,v11,(),v12,v13,v14,()),()),(v15,v16,()))) else some (.inr (.inl ((),((v4,v5,v6,(),v7,v8,v9,v10,v11,(),v12,v13,v14,()),()),(v15,v16,()))))
def yef (x:(ydC).X):=yt0 x.1.2.1.1 x.1.2.2.1.1 x.1.2.2.2.1.1 x.1.2.2.2.2.1.1 x.2.1.1.1 x.2.1.1.2.1 x.2.1.1.2.2.1 x.2.1.1.2.2.2.2.1 x.2.1.1.2.2.2.2.2.1 x.2.1.1.2.2.2.2.2.2.1 x.2.1.1.2.2.2.2.2.2.2.1 x.2.1.1.2.2.2.2.2.2.2.2.1 x.2.1.1.2.2.2.2.2.2.2.2.2.2.1 x.2.1.1.2.2.2.2.2.2.2.2.2.2.2.1 x.2.1.1.2.2.2.2.2.2.2.2.2.2.2.2.1 x.2.2.1 x.2.2.2.1
def yGo (x:(yiU).X):(ydC).X:=((((),()),(x.1.2.1.1,()),(x.1.2.2.1.1,()),(x.1.2.2.2.1.1,()),(0,()),()),((x.2.1.1.1,x.2.1.1.2.1,x.2.1.1.2.2.1,(),x.2.1.1.2.2.2.2.1,x.2.1.1.2.2.2.2.2.1,x.2.1.1.2.2.2.2.2.2.1,x.2.1.1.2.2.2.2.2.2.2.1,x.2.1.1.2.2.2.2.2.2.2.2.1,(),x.2.1.1.2.2.2.2.2.2.2.2.2.2.1,x.2.1.1.2.2.2.2.2.2.2.2.2.2.2.1,x.2.1.1.2.2.2.2.2.2.2.2.2.2.2.2.1,()),()),(x.2.2.1,x.2.2.2.1,()))
def yH6:Code:=(zd7 yr2 64 28).getD .skip
theorem yW8:zd7 yr2 64 7=some (.block 0 (.loop yH6)):=by kernel_rfl
theorem yZY (x:(ydC).X):zhu ⟨yBw,61,yHO⟩ 0 yH6 28 ydC yiF ynY x=yef x:=by kernel_rfl
def yGE (x:(yiU).X):Nat:=18446744073709551616
def yuT (x:(yiU).X):Option ((yiF).X ⊕ (ynY).X):=zF yef (yGE x) (yGo x)
def yHv:Seg:=⟨yiU,yiF,ynY,yuT⟩
def yWz:Nat→Option Seg:=fun q=>bif Nat.beq q 7 then some yHv else yHO q
theorem yTS:FrOk prog ⟨yBw,61,yWz⟩ yr2:=(yTR).loop (sg:=yHv) ydC yGo (by decide) yW8 yef yGE (by decide) (fun _=>rfl) (fun x r _ h=>h) yZY
abbrev ymg:List Par:= [.pt tA (.pr .fz (.pr (.pr .fz .fz) (.pr (.ow (.pr (.ow .fz) (.pr (.ow (.pr .fz .fz)) (.pr .fz (.ow .fz))))) (.pr .fz (.pr .fz (.pr .fz (.pr .fz (.pr .fz (.pr (.ow (.pr .fz .fz)) (.pr .fz (.pr .fz .fz))))))))))),.rd tI,.rd tL]
abbrev ysr:List OT:= []
def ywY (a0:dA) (a1:Int) (a2:List Int):Option (zaY ysr×zak ymg) :=let r1:=ydU a0.2.1 a1;zkt (yuT ((((),()),(a1,()),(a2,()),(r1,()),((),()),()),((a0.1,a0.2.1.1,a0.2.1.2,(),a0.2.2.2.1,a0.2.2.2.2.1,a0.2.2.2.2.2.1,a0.2.2.2.2.2.2.1,a0.2.2.2.2.2.2.2.1,(),a0.2.2.2.2.2.2.2.2.2.1,a0.2.2.2.2.2.2.2.2.2.2.1,a0.2.2.2.2.2.2.2.2.2.2.2,()),()),(a0.2.2.1,a0.2.2.2.2.2.2.2.2.1,()))) (fun y15 =>some ((),((y15.2.1.1.1,(y15.2.1.1.2.1,y15.2.1.1.2.2.1),y15.2.2.1,y15.2.1.1.2.2.2.2.1,y15.2.1.1.2.2.2.2.2.1,y15.2.1.1.2.2.2.2.2.2.1,y15.2.1.1.2.2.2.2.2.2.2.1,y15.2.1.1.2.2.2.2.2.2.2.2.1,y15.2.2.2.1,y15.2.1.1.2.2.2.2.2.2.2.2.2.2.1,y15.2.1.1.2.2.2.2.2.2.2.2.2.2.2.1,y15.2.1.1.2.2.2.2.2.2.2.2.2.2.2.2.1),()))) (fun y15 =>none)
theorem yZn:ConOk prog 170 ⟨ymg,ysr,fun x=>ywY x.1 x.2.1 x.2.2.1⟩:=zkI (yTS) func170 ntmps170.symm fun x=>by kernel_rfl
def ysu (a0:dA) (a1:Int) (a2:List Int):dA:=yL a0 a1 a2
def yig (a0:dA) (a1:Int) (a2:List Int):Bool:=ycH a0.2.1 a1&&((a2.length:Int)==a0.2.1.1-1&&(a0.2.2.1.length:Int)==a0.2.1.1)
theorem y1H (a0:dA) (a1:Int) (a2:List Int) (hk:zjx ymg (a0,a1,a2,())) (hq:yig a0 a1 a2=true):ywY a0 a1 a2=(fun n=>some ((),(n,()))) (ysu a0 a1 a2):=by
 simp only[yig,Bool.and_eq_true,beq_iff_eq]at hq;have hg:=yk.1 (ybD.1 hq.1).1;have hp:=yo5 hq.1
 have h1:yuT (yUl a1 a2 (yh a0.2.1 a1) a0)=some (.inl (yGQ (yL a0 a1 a2))) :=
  zkD (step:=yef) a0.2.2.1.length (fun i s=>ytk a1 a2 (yh a0.2.1 a1) i s) (ybH (yh a0.2.1 a1) a0.2.1.1 a1 a2) (fun _ s=>s.2.2.1.length=a0.2.2.1.length∧s.2.1=a0.2.1) (fun s=> .inl (yGQ s)) (fun i s hi hs=>⟨by
   have hN:s.2.1.1=a0.2.1.1:=by rw[hs.2]
   simp only[yef,ytk,yt0,hs.1,zky (show(i:Int)<a0.2.2.1.length by omega),cond_true,wq ((i:Int)+1) (by omega) (by omega),Int.natCast_add,Int.natCast_one,Int.toNat_natCast,zkX,ykT,ykc,yel,ye8,ybH,yzS];rw[← hN];by_cases he:(i:Int)=yh a0.2.1 a1
   ·rw[show((i:Int) !=yh a0.2.1 a1)=false by simp[he],show((i:Int)==yh a0.2.1 a1)=true from beq_iff_eq.2 he]
    rw[ymB s i (ycA a1) [yfZ a2] (zkR (by rw[hs.1]; exact hi))];cases yeK s i a1<;>rfl
   ·have hd:=y8U (N:=s.2.1.1) (i:=i) (p:=yh a0.2.1 a1) ⟨by omega,by omega⟩ ⟨by omega,by omega⟩ ⟨hp.1,by omega⟩ he
    rw[show((i:Int) !=yh a0.2.1 a1)=true from bne_iff_ne.2 he,show((i:Int)==yh a0.2.1 a1)=false from beq_eq_false_iff_ne.2 he,show(s.2.1.1 !=0)=true from bne_iff_ne.2 (by omega),
     wq ((i:Int)-yh a0.2.1 a1) (by omega) (by omega),wq ((i:Int)-yh a0.2.1 a1-1) (by omega) (by omega),wq ((i:Int)-yh a0.2.1 a1-1+s.2.1.1) (by omega) (by omega),zj6.2 (show 0≤((i:Int)-yh a0.2.1 a1-1+s.2.1.1).tmod s.2.1.1∧((i:Int)-yh a0.2.1 a1-1+s.2.1.1).tmod s.2.1.1<a2.length by omega)]
    rw[ymB s i (ycA a1) [nth a2 (((i:Int)-yh a0.2.1 a1-1+s.2.1.1).tmod s.2.1.1) 0] (zkR (by rw[hs.1]; exact hi))]
    cases yeK s i a1<;>rfl,(ymG _ _ _ _ s i).trans hs.1,(ycW (yNr _ _ _ _ s i)).trans hs.2⟩) (fun s hs=>by simp only[yef,ytk,yt0,hs.1,zk3 (Int.le_refl _),cond_false]) a0 ⟨rfl,rfl⟩ _ (by show _<18446744073709551616; omega)
 unfold ywY ysu ydU;exact(congrArg (fun z=>zkt z _ _) h1).trans rfl
def yeo (a0:dA) (a1:Int) (a2:List Int):Option (zaY ysr×zak ymg):=bif yig a0 a1 a2 then(fun n=>some ((),(n,()))) (ysu a0 a1 a2)else none
theorem yKG (a0:dA) (a1:Int) (a2:List Int) (h:yig a0 a1 a2=true):yeo a0 a1 a2=(fun n=>some ((),(n,()))) (ysu a0 a1 a2):=by unfold yeo; rw[h]; rfl
def yv0:Con:=⟨ymg,ysr,fun x=>yeo x.1 x.2.1 x.2.2.1⟩
theorem yKD:ConOk prog 170 yv0:=(yZn).mono (fun x r hk h=>zkY h (fun hq=>y1H x.1 x.2.1 x.2.2.1 hk hq))
def y0i:Code:=(f171.body).getD .skip
def y0L:Env:=zkw TT [(174,yn9),(208,yoa)] []
theorem yQL:FrOk prog ⟨y0L,17,fun _=>none⟩ y0i:=zkA mixed yd ⟨yzq,yzr,trivial⟩
abbrev yyJ:List Par:= [.pt tA (.pr .fz (.pr (.pr .fz .fz) (.pr (.ow (.pr (.ow .fz) (.pr (.ow (.pr .fz .fz)) (.pr .fz (.ow .fz))))) (.pr .fz (.pr .fz (.pr .fz (.pr .fz (.pr .fz (.pr (.ow (.pr .fz .fz)) (.pr .fz (.pr .fz .fz)))))))))))]
abbrev yy5:List OT:= []
def yHi (a0:dA):Option (zaY yy5×zak yyJ) :=let r1:=yen a0;bif r1.2.2.2.2.2.2.2.2.2.2.1 then some ((),(r1,())) else let r2:=yaQ (r1.1,r1.2.1,r1.2.2.1,r1.2.2.2.1,r1.2.2.2.2.1,r1.2.2.2.2.2.1,r1.2.2.2.2.2.1,r1.2.2.2.2.2.2.2);some ((),(r2,()))
theorem yVq:ConOk prog 171 ⟨yyJ,yy5,fun x=>yHi x.1⟩:=zkI (yQL) func171 ntmps171.symm fun x=>by kernel_rfl
def ye0 (a0:dA):dA :=let r1:=yen a0;bif r1.2.2.2.2.2.2.2.2.2.2.1 then r1 else let r2:=yaQ (r1.1,r1.2.1,r1.2.2.1,r1.2.2.2.1,r1.2.2.2.2.1,r1.2.2.2.2.2.1,r1.2.2.2.2.2.1,r1.2.2.2.2.2.2.2);r2
def ylJ:Con:=⟨yyJ,yy5,fun x=>(fun n=>some ((),(n,()))) (ye0 x.1)⟩
theorem yYG (a0:dA):yHi a0=(fun n=>some ((),(n,()))) (ye0 a0):=zkV (p:=fun(n:dA)=>((),(n,()))) (zkG (p:=fun(n:dA)=>((),(n,()))) rfl rfl)
theorem ywF:ConOk prog 171 ylJ:=(yVq).mono (fun x r _ h=>(yYG x.1).trans h)
theorem yCW (a:dA):ye0 a=yZ a:=by
 unfold ye0 yZ yen yaQ;show(bif ye (yz a)then yz a else yao (ycE (yz a)))=_;rfl
def y0j:Code:=(f217.body).getD .skip
def y0M:Env:=zkw TT [(169,yzh),(170,yv0),(171,ylJ)] []
theorem yQM:FrOk prog ⟨y0M,54,fun _=>none⟩ y0j:=zkA mixed yd ⟨yLW,yKD,ywF,trivial⟩
abbrev ykp:List Par:= [.pt tA (.pr .fz (.pr (.pr .fz .fz) (.pr (.ow (.pr (.ow .fz) (.pr (.ow (.pr .fz .fz)) (.pr .fz (.ow .fz))))) (.pr .fz (.pr .fz (.pr .fz (.pr .fz (.pr .fz (.pr (.ow (.pr .fz .fz)) (.pr .fz (.pr .fz .fz))))))))))),.rd tI,.rd tL]
abbrev yp2:List OT:= [⟨false,tI,.fz⟩]
def ytM (a0:dA) (a1:Int) (a2:List Int):Option (zaY yp2×zak ykp) :=bif(leb 4 (i64.wrap (a0.2.2.2.2.2.1-a0.2.2.2.2.2.2.1)))then let r1:=ye0 a0;bif r1.2.2.2.2.2.2.2.2.2.2.1 then some ((6,()),(r1,())) else bif(zkl ([]:List Int).length a2.length 8)then let r2:=yfH r1 (r1.2.2.2.2.2.1,a1,(([]:List Int)++a2));bif r2.2.2.2.2.2.2.2.2.2.2.1 then some ((6,()),(r2,())) else bnd (yeo (r2.1,r2.2.1,r2.2.2.1,r2.2.2.2.1,r2.2.2.2.2.1,(i64.wrap (r2.2.2.2.2.2.1+1)),r2.2.2.2.2.2.2) a1 a2) fun r3 =>bif r3.2.1.2.2.2.2.2.2.2.2.2.2.1 then some ((6,()),(r3.2.1,())) else some ((0,()),(r3.2.1,())) else none else bif a0.2.2.2.2.2.2.2.2.2.2.1 then some ((6,()),(a0,())) else bif(zkl ([]:List Int).length a2.length 8)then let r4:=yfH a0 (a0.2.2.2.2.2.1,a1,(([]:List Int)++a2));bif r4.2.2.2.2.2.2.2.2.2.2.1 then some ((6,()),(r4,())) else bnd (yeo (r4.1,r4.2.1,r4.2.2.1,r4.2.2.2.1,r4.2.2.2.2.1,(i64.wrap (r4.2.2.2.2.2.1+1)),r4.2.2.2.2.2.2) a1 a2) fun r5 =>bif r5.2.1.2.2.2.2.2.2.2.2.2.2.1 then some ((6,()),(r5.2.1,())) else some ((0,()),(r5.2.1,())) else none
theorem yVr:ConOk prog 217 ⟨ykp,yp2,fun x=>ytM x.1 x.2.1 x.2.2.1⟩:=zkI (yQM) func217 ntmps217.symm fun x=>by kernel_rfl
def ykV (a0:dA) (a1:Int) (a2:List Int):Int×dA:=yad a0 a1 a2
def yk6 (a0:dA) (a1:Int) (a2:List Int):Bool:=ycH a0.2.1 a1&&((a2.length:Int)==a0.2.1.1-1&&(a0.2.2.1.length:Int)==a0.2.1.1)
theorem yYH (a0:dA) (a1:Int) (a2:List Int) (hk:zjx ykp (a0,a1,a2,())) (hq:yk6 a0 a1 a2=true):ytM a0 a1 a2=(fun n=>some ((n.1,()),(n.2,()))) (ykV a0 a1 a2):=by
 have hq':=hq;simp only[yk6,Bool.and_eq_true,beq_iff_eq]at hq;have hg:=yk.1 (ybD.1 hq.1).1;have hap:zkl ([]:List Int).length a2.length 8=true:=zkF.2 (by simp only[List.length_nil]; omega)
 have key: ∀b:dA,b.2.1=a0.2.1→b.2.2.1.length=a0.2.2.1.length→yeo (yQ (yc0 b (b.2.2.2.2.2.1,a1,a2))) a1 a2=some ((),(yL (yQ (yc0 b (b.2.2.2.2.2.1,a1,a2))) a1 a2,())):=fun b h1 h2=>yKG _ _ _ (by
  unfold yig;rw[show(yQ (yc0 b (b.2.2.2.2.2.1,a1,a2))).2.1=a0.2.1 from(ycW (yjL _ _)).trans h1,show(yQ (yc0 b (b.2.2.2.2.2.1,a1,a2))).2.2.1.length=a0.2.2.1.length from(yKP _ _).trans h2]
  exact hq')
 unfold ytM ykV yad yw;simp only[yCW,yfH,List.nil_append,hap,cond_true];cases leb 4 (i64.wrap (a0.2.2.2.2.2.1-a0.2.2.2.2.2.2.1))
 ·have hd:=key a0 rfl rfl
  simp only[cond_false];generalize yc0 a0 (a0.2.2.2.2.2.1,a1,a2)=R at hd ⊢;generalize yL (yQ R) a1 a2=Q at hd ⊢;unfold yQ at hd;simp only[cond_false,hd,zkH];unfold ye;cases a0.2.2.2.2.2.2.2.2.2.2.1
  ·cases R.2.2.2.2.2.2.2.2.2.2.1
   ·cases Q.2.2.2.2.2.2.2.2.2.2.1<;>rfl
   ·rfl
  ·rfl
 ·have hd:=key (yZ a0) (yNo a0) (yIa a0)
  simp only[cond_true];generalize yZ a0=C at hd ⊢;generalize yc0 C (C.2.2.2.2.2.1,a1,a2)=R at hd ⊢;generalize yL (yQ R) a1 a2=Q at hd ⊢;unfold yQ at hd;simp only[cond_true,hd,zkH];unfold ye;cases C.2.2.2.2.2.2.2.2.2.2.1
  ·cases R.2.2.2.2.2.2.2.2.2.2.1
   ·cases Q.2.2.2.2.2.2.2.2.2.2.1<;>rfl
   ·rfl
  ·rfl
def yqi (a0:dA) (a1:Int) (a2:List Int):Option (zaY yp2×zak ykp):=bif yk6 a0 a1 a2 then(fun n=>some ((n.1,()),(n.2,()))) (ykV a0 a1 a2)else none
theorem yZM (a0:dA) (a1:Int) (a2:List Int) (h:yk6 a0 a1 a2=true):yqi a0 a1 a2=(fun n=>some ((n.1,()),(n.2,()))) (ykV a0 a1 a2):=by unfold yqi; rw[h]; rfl
def yGa:Con:=⟨ykp,yp2,fun x=>yqi x.1 x.2.1 x.2.2.1⟩
theorem yZH:ConOk prog 217 yGa:=(yVr).mono (fun x r hk h=>zkY h (fun hq=>yYH x.1 x.2.1 x.2.2.1 hk hq))
def y0k:Code:=(f179.body).getD .skip
def y0N:Env:=zkw TT [(215,yCH),(216,yIt),(217,yGa)] [(36928,(.pr .fz .fz))]
theorem yQN:FrOk prog ⟨y0N,63,fun _=>none⟩ y0k:=zkA mixed yd ⟨yO3,y2z,yZH,trivial⟩
abbrev ykq:List Par:= [.pt tA (.pr .fz (.pr (.pr .fz .fz) (.pr (.ow (.pr (.ow .fz) (.pr (.ow (.pr .fz .fz)) (.pr .fz (.ow .fz))))) (.pr .fz (.pr .fz (.pr .fz (.pr .fz (.pr .fz (.pr (.ow (.pr .fz .fz)) (.pr .fz (.pr .fz .fz))))))))))),.rd tI]
abbrev yp3:List OT:= [⟨false,tI,.fz⟩]
def ytN (a0:dA) (a1:Int):Option (zaY yp3×zak ykq) :=let r1:=yjK a0 a1;bif(ltb r1 0)then some ((0,()),(a0,())) else bif(inb r1 a0.2.2.2.2.2.2.2.2.1.length)then let r2:=yN a0 a1 ((nth a0.2.2.2.2.2.2.2.2.1 r1 (0,[])).2);bif(r2 !=0)then some ((r2,()),(a0,())) else bif(inb r1 a0.2.2.2.2.2.2.2.2.1.length)then bnd (yqi a0 a1 ((nth a0.2.2.2.2.2.2.2.2.1 r1 (0,[])).2)) fun r3 =>bif(r3.1.1==0)then bif(zj0 0 r1 r3.2.1.2.2.2.2.2.2.2.2.1.length)then bif(zkl ([]:List dW).length ((r3.2.1.2.2.2.2.2.2.2.2.1.drop (0:Int).toNat).take (r1-0).toNat).length 32)then bif(zj0 (i64.wrap (r1+1)) (r3.2.1.2.2.2.2.2.2.2.2.1.length:Int) r3.2.1.2.2.2.2.2.2.2.2.1.length)then bif(zkl (([]:List dW)++((r3.2.1.2.2.2.2.2.2.2.2.1.drop (0:Int).toNat).take (r1-0).toNat)).length ((r3.2.1.2.2.2.2.2.2.2.2.1.drop ((i64.wrap (r1+1))).toNat).take ((r3.2.1.2.2.2.2.2.2.2.2.1.length:Int)-(i64.wrap (r1+1))).toNat).length 32)then some ((r3.1.1,()),((r3.2.1.1,r3.2.1.2.1,r3.2.1.2.2.1,r3.2.1.2.2.2.1,r3.2.1.2.2.2.2.1,r3.2.1.2.2.2.2.2.1,r3.2.1.2.2.2.2.2.2.1,r3.2.1.2.2.2.2.2.2.2.1,((([]:List dW)++((r3.2.1.2.2.2.2.2.2.2.2.1.drop (0:Int).toNat).take (r1-0).toNat))++((r3.2.1.2.2.2.2.2.2.2.2.1.drop ((i64.wrap (r1+1))).toNat).take ((r3.2.1.2.2.2.2.2.2.2.2.1.length:Int)-(i64.wrap (r1+1))).toNat)),r3.2.1.2.2.2.2.2.2.2.2.2),())) else none else none else none else none else some ((r3.1.1,()),(r3.2.1,())) else none else none
theorem yVs:ConOk prog 179 ⟨ykq,yp3,fun x=>ytN x.1 x.2.1⟩:=zkI (yQN) func179 ntmps179.symm fun x=>by kernel_rfl
def ykW (a0:dA) (a1:Int):Int×dA:=yah a0 a1
def yzx (a0:dA) (a1:Int):Bool:=decide (a0.2.2.2.2.2.2.2.2.1.length≤1000)
theorem yYI (a0:dA) (a1:Int) (hk:zjx ykq (a0,a1,())) (hq:yzx a0 a1=true):ytN a0 a1=(fun n=>some ((n.1,()),(n.2,()))) (ykW a0 a1):=by
 have hq:=of_decide_eq_true hq;unfold ytN ykW yah;simp only[yjK];cases h0:ltb (yI a0.2.2.2.2.2.2.2.2.1 a1) 0
 ·have h1:=zkW h0
  have hi:inb (yI a0.2.2.2.2.2.2.2.2.1 a1) a0.2.2.2.2.2.2.2.2.1.length=true:=(yoM (d:=((0:Int),([]:List Int))) (zk2 h1)).1;simp only[hi,cond_true,cond_false];generalize hD:(nth a0.2.2.2.2.2.2.2.2.1 (yI a0.2.2.2.2.2.2.2.2.1 a1) (0,[])).2=D;cases hc:(yN a0 a1 D !=0)
  ·obtain⟨ha,hl,hw,hd,hs,hb,_⟩:=yNp (bne_eq_false_iff_eq.1 hc)
   rw[yZM a0 a1 D (by unfold yk6; rw[hs,hl,yz3 ha]; simp)];simp only[zkH,cond_false,ykV,y6w];have hk:=zj6.1 hi;cases hr:((yad a0 a1 D).1==0)
   ·rfl
   ·generalize yI a0.2.2.2.2.2.2.2.2.1 a1=K at h1 hk
    rw[wq (K+1) (by omega) (by omega),zkz.2 (show(0:Int)≤0∧0≤K∧K≤(a0.2.2.2.2.2.2.2.2.1.length:Int)by omega),zkz.2 (show 0≤K+1∧K+1≤(a0.2.2.2.2.2.2.2.2.1.length:Int)∧(a0.2.2.2.2.2.2.2.2.1.length:Int)≤(a0.2.2.2.2.2.2.2.2.1.length:Int)by omega),
     zkF.2 (by rw[List.length_take,List.length_drop,List.length_nil]; omega),zkF.2 (by rw[List.length_append,List.length_take,List.length_take,List.length_drop,List.length_drop,List.length_nil]; omega),y7k h1 hk.2]
    rw[beq_iff_eq.1 hr]; rfl
  ·rfl
 ·rfl
def ydb (a0:dA) (a1:Int):Option (zaY yp3×zak ykq):=bif yzx a0 a1 then(fun n=>some ((n.1,()),(n.2,()))) (ykW a0 a1)else none
theorem yI1 (a0:dA) (a1:Int) (h:yzx a0 a1=true):ydb a0 a1=(fun n=>some ((n.1,()),(n.2,()))) (ykW a0 a1):=by unfold ydb; rw[h]; rfl
def ys6:Con:=⟨ykq,yp3,fun x=>ydb x.1 x.2.1⟩
theorem yIV:ConOk prog 179 ys6:=(yVs).mono (fun x r hk h=>zkY h (fun hq=>yYI x.1 x.2.1 hk hq))
def yuq:Code:=(f117.body).getD .skip
def yE3:Env:=zkw TT [(179,ys6)] []
theorem yXY:FrOk prog ⟨yE3,22,fun _=>none⟩ yuq:=zkA mixed yd ⟨yIV,trivial⟩
def yJV:Nat→Option Seg:=fun _=>none
def yeS:Shape:=⟨[(0,false,[.ptr 1000000000 0])],[(1000000000,[.int .i64,.int .i64,.int .i64,.at 800000000,.int .i64,.int .i64,.int .i64,.int .i64,.int .i64,.at 800000001,.int .i64,.bool,.bool])],[(800000000,tM,(.pr (.ow .fz) (.pr (.ow (.pr .fz .fz)) (.pr .fz (.ow .fz))))),(800000001,tW,(.pr .fz .fz))]⟩
def yky:Shape:=⟨[(0,false,[.ptr 1000000000 0])],[(1000000000,[.int .i64,.int .i64,.int .i64,.at 800000000,.int .i64,.int .i64,.int .i64,.int .i64,.int .i64,.at 800000001,.int .i64,.bool,.bool])],[(800000000,tM,(.pr (.ow .fz) (.pr (.ow (.pr .fz .fz)) (.pr .fz (.ow .fz))))),(800000001,tW,(.pr .fz .fz))]⟩
def yku:Shape:=⟨[],[(1000000000,[.int .i64,.int .i64,.int .i64,.at 800000000,.int .i64,.int .i64,.int .i64,.int .i64,.int .i64,.at 800000001,.int .i64,.bool,.bool])],[(800000000,tM,(.pr (.ow .fz) (.pr (.ow (.pr .fz .fz)) (.pr .fz (.ow .fz))))),(800000001,tW,(.pr .fz .fz))]⟩
def ykB:Shape:=⟨[(2,false,[.int .i64])],[(1000000000,[.int .i64,.int .i64,.int .i64,.at 800000000,.int .i64,.int .i64,.int .i64,.int .i64,.int .i64,.at 800000001,.int .i64,.bool,.bool])],[(800000000,tM,(.pr (.ow .fz) (.pr (.ow (.pr .fz .fz)) (.pr .fz (.ow .fz))))),(800000001,tW,(.pr .fz .fz))]⟩
abbrev ywq (v0:dA):(yeS).X:=((((),()),()),((v0.1,v0.2.1.1,v0.2.1.2,(),v0.2.2.2.1,v0.2.2.2.2.1,v0.2.2.2.2.2.1,v0.2.2.2.2.2.2.1,v0.2.2.2.2.2.2.2.1,(),v0.2.2.2.2.2.2.2.2.2.1,v0.2.2.2.2.2.2.2.2.2.2.1,v0.2.2.2.2.2.2.2.2.2.2.2,()),()),(v0.2.2.1,v0.2.2.2.2.2.2.2.2.1,()))
abbrev yYf (v0:dA):(yky).X:=((((),()),()),((v0.1,v0.2.1.1,v0.2.1.2,(),v0.2.2.2.1,v0.2.2.2.2.1,v0.2.2.2.2.2.1,v0.2.2.2.2.2.2.1,v0.2.2.2.2.2.2.2.1,(),v0.2.2.2.2.2.2.2.2.2.1,v0.2.2.2.2.2.2.2.2.2.2.1,v0.2.2.2.2.2.2.2.2.2.2.2,()),()),(v0.2.2.1,v0.2.2.2.2.2.2.2.2.1,()))
abbrev yYb (v0:dA):(yku).X:=((),((v0.1,v0.2.1.1,v0.2.1.2,(),v0.2.2.2.1,v0.2.2.2.2.1,v0.2.2.2.2.2.1,v0.2.2.2.2.2.2.1,v0.2.2.2.2.2.2.2.1,(),v0.2.2.2.2.2.2.2.2.2.1,v0.2.2.2.2.2.2.2.2.2.2.1,v0.2.2.2.2.2.2.2.2.2.2.2,()),()),(v0.2.2.1,v0.2.2.2.2.2.2.2.2.1,()))
abbrev yYh (v0:Int) (v1:dA):(ykB).X:=(((v0,()),()),((v1.1,v1.2.1.1,v1.2.1.2,(),v1.2.2.2.1,v1.2.2.2.2.1,v1.2.2.2.2.2.1,v1.2.2.2.2.2.2.1,v1.2.2.2.2.2.2.2.1,(),v1.2.2.2.2.2.2.2.2.2.1,v1.2.2.2.2.2.2.2.2.2.2.1,v1.2.2.2.2.2.2.2.2.2.2.2,()),()),(v1.2.2.1,v1.2.2.2.2.2.2.2.2.1,()))
def yxe (v0 v1 v2 v3 v4 v5 v6 v7 v8:Int) (v9 v10:Bool) (v11:List dM) (v12:List dW):Option ((yeS).X ⊕ ((yku).X ⊕ (ykB).X)) :=bif(ltb 0 (v12.length:Int))then bif(inb 0 v12.length)then bnd (ydb (v0,(v1,v2),v11,v3,v4,v5,v6,v7,v12,v8,v9,v10) ((nth v12 0 (0,[])).1)) fun r2 =>bif(r2.1.1 !=0)then some (.inr (.inr (((r2.1.1,()),()),((r2.2.1.1,r2.2.1.2.1.1,r2.2.1.2.1.2,(),r2.2.1.2.2.2.1,r2.2.1.2.2.2.2.1,r2.2.1.2.2.2.2.2.1,r2.2.1.2.2.2.2.2.2.1,r2.2.1.2.2.2.2.2.2.2.1,(),r2.2.1.2.2.2.2.2.2.2.2.2.1,r2.2.1.2.2.2.2.2.2.2.2.2.2.1,r2.2.1.2.2.2.2.2.2.2.2.2.2.2,()),()),(r2.2.1.2.2.1,r2.2.1.2.2.2.2.2.2.2.2.1,())))) else some (.inl ((((),()),()),((r2.2.1.1,r2.2.1.2.1.1,r2.2.1.2.1.2,(),r2.2.1.2.2.2.1,r2.2.1.2.2.2.2.1,r2.2.1.2.2.2.2.2.1,r2.2.1.2.2.2.2.2.2.1,r2.2.1.2.2.2.2.2.2.2.1,(),r2.2.1.2.2.2.2.2.2.2.2.2.1,r2.2.1.2.2.2.2.2.2.2.2.2.2.1,r2.2.1.2.2.2.2.2.2.2.2.2.2.2,()),()),(r2.2.1.2.2.1,r2.2.1.2.2.2.2.2.2.2.2.1,()))) else none else some (.inr (.inl ((),((v0,v1,v2,(),v3,v4,v5,v6,v7,(),v8,v9,v10,()),()),(v11,v12,()))))
def yfb (x:(yeS).X):=yxe x.2.1.1.1 x.2.1.1.2.1 x.2.1.1.2.2.1 x.2.1.1.2.2.2.2.1 x.2.1.1.2.2.2.2.2.1 x.2.1.1.2.2.2.2.2.2.1 x.2.1.1.2.2.2.2.2.2.2.1 x.2.1.1.2.2.2.2.2.2.2.2.1 x.2.1.1.2.2.2.2.2.2.2.2.2.2.1 x.2.1.1.2.2.2.2.2.2.2.2.2.2.2.1 x.2.1.1.2.2.2.2.2.2.2.2.2.2.2.2.1 x.2.2.1 x.2.2.2.1
def yIz (x:(yky).X):(yeS).X:=((((),()),()),((x.2.1.1.1,x.2.1.1.2.1,x.2.1.1.2.2.1,(),x.2.1.1.2.2.2.2.1,x.2.1.1.2.2.2.2.2.1,x.2.1.1.2.2.2.2.2.2.1,x.2.1.1.2.2.2.2.2.2.2.1,x.2.1.1.2.2.2.2.2.2.2.2.1,(),x.2.1.1.2.2.2.2.2.2.2.2.2.2.1,x.2.1.1.2.2.2.2.2.2.2.2.2.2.2.1,x.2.1.1.2.2.2.2.2.2.2.2.2.2.2.2.1,()),()),(x.2.2.1,x.2.2.2.1,()))
def yJ3:Code:=(zd7 yuq 64 24).getD .skip
theorem y0R:zd7 yuq 64 6=some (.block 0 (.loop yJ3)):=by kernel_rfl
theorem y2G (x:(yeS).X):zhu ⟨yE3,22,yJV⟩ 0 yJ3 24 yeS yku ykB x=yfb x:=by kernel_rfl
def yIE (x:(yky).X):Nat:=18446744073709551616
def yyy (x:(yky).X):Option ((yku).X ⊕ (ykB).X):=zF yfb (yIE x) (yIz x)
def yJl:Seg:=⟨yky,yku,ykB,yyy⟩
def y0w:Nat→Option Seg:=fun q=>bif Nat.beq q 6 then some yJl else yJV q
theorem yXZ:FrOk prog ⟨yE3,22,y0w⟩ yuq:=(yXY).loop (sg:=yJl) yeS yIz (by decide) y0R yfb yIE (by decide) (fun _=>rfl) (fun x r _ h=>h) y2G
abbrev yoz:List Par:= [.pt tA (.pr .fz (.pr (.pr .fz .fz) (.pr (.ow (.pr (.ow .fz) (.pr (.ow (.pr .fz .fz)) (.pr .fz (.ow .fz))))) (.pr .fz (.pr .fz (.pr .fz (.pr .fz (.pr .fz (.pr (.ow (.pr .fz .fz)) (.pr .fz (.pr .fz .fz)))))))))))]
abbrev yvE:List OT:= [⟨false,tI,.fz⟩]
def yzI (a0:dA):Option (zaY yvE×zak yoz) :=zkt (yyy ((((),()),()),((a0.1,a0.2.1.1,a0.2.1.2,(),a0.2.2.2.1,a0.2.2.2.2.1,a0.2.2.2.2.2.1,a0.2.2.2.2.2.2.1,a0.2.2.2.2.2.2.2.1,(),a0.2.2.2.2.2.2.2.2.2.1,a0.2.2.2.2.2.2.2.2.2.2.1,a0.2.2.2.2.2.2.2.2.2.2.2,()),()),(a0.2.2.1,a0.2.2.2.2.2.2.2.2.1,()))) (fun y2 =>some ((0,()),((y2.2.1.1.1,(y2.2.1.1.2.1,y2.2.1.1.2.2.1),y2.2.2.1,y2.2.1.1.2.2.2.2.1,y2.2.1.1.2.2.2.2.2.1,y2.2.1.1.2.2.2.2.2.2.1,y2.2.1.1.2.2.2.2.2.2.2.1,y2.2.1.1.2.2.2.2.2.2.2.2.1,y2.2.2.2.1,y2.2.1.1.2.2.2.2.2.2.2.2.2.2.1,y2.2.1.1.2.2.2.2.2.2.2.2.2.2.2.1,y2.2.1.1.2.2.2.2.2.2.2.2.2.2.2.2.1),()))) (fun y2 =>some ((y2.1.1.1,()),((y2.2.1.1.1,(y2.2.1.1.2.1,y2.2.1.1.2.2.1),y2.2.2.1,y2.2.1.1.2.2.2.2.1,y2.2.1.1.2.2.2.2.2.1,y2.2.1.1.2.2.2.2.2.2.1,y2.2.1.1.2.2.2.2.2.2.2.1,y2.2.1.1.2.2.2.2.2.2.2.2.1,y2.2.2.2.1,y2.2.1.1.2.2.2.2.2.2.2.2.2.2.1,y2.2.1.1.2.2.2.2.2.2.2.2.2.2.2.1,y2.2.1.1.2.2.2.2.2.2.2.2.2.2.2.2.1),())))
theorem y2e:ConOk prog 117 ⟨yoz,yvE,fun x=>yzI x.1⟩:=zkI (yXZ) func117 ntmps117.symm fun x=>by kernel_rfl
def ywx (a0:dA):Int×dA:=y6S a0
def yHa (a0:dA):Bool:=decide (a0.2.2.2.2.2.2.2.2.1.length≤1000)
theorem y4H (a0:dA) (hk:zjx yoz (a0,())) (hq:yHa a0=true):yzI a0=(fun n=>some ((n.1,()),(n.2,()))) (ywx a0):=by
 have hq:=of_decide_eq_true hq
 have h1:=zkC (step:=yfb) a0.2.2.2.2.2.2.2.2.1.length (fun _ s=>ywq s) yoH (fun i s=>s.2.2.2.2.2.2.2.2.1.length+i=a0.2.2.2.2.2.2.2.2.1.length) (fun b=>(0,b))
  (fun r=>bif r.1==0 then .inl (yYb r.2)else .inr (yYh r.1 r.2)) (fun i s hi hs=>by
   have hp:0<s.2.2.2.2.2.2.2.2.1.length:=by omega
   constructor
   ·simp only[yfb,ywq,yxe,zkX,zky (show(0:Int)<(s.2.2.2.2.2.2.2.2.1.length:Int)by omega),cond_true,show inb 0 s.2.2.2.2.2.2.2.2.1.length=true from zkR (i:=0) hp]
    rw[yI1 s (nth s.2.2.2.2.2.2.2.2.1 0 (0,[])).1 (decide_eq_true (show s.2.2.2.2.2.2.2.2.1.length≤1000 by omega))];simp only[zkH,ykW];unfold yoH;generalize yah s (nth s.2.2.2.2.2.2.2.2.1 0 (0,[])).1=R;cases hr:(R.1 !=0)
    ·rfl
    ·simp only[cond_true]
     rw[show(R.1==0)=false from beq_eq_false_iff_ne.2 (bne_iff_ne.1 hr)]; rfl
   ·intro s' h
    unfold yoH at h;cases hr:((yah s (nth s.2.2.2.2.2.2.2.2.1 0 (0,[])).1).1 !=0)
    ·rw[hr]at h
     simp only[cond_false,Sum.inl.injEq]at h;rw[← h,y6W hp (bne_eq_false_iff_eq.1 hr),List.length_drop]; omega
    ·rw[hr]at h; cases h) (fun s hs=>by
   simp only[yfb,ywq,yxe,show ltb 0 (s.2.2.2.2.2.2.2.2.1.length:Int)=false from zk3 (by omega)]; rfl) a0 rfl 18446744073709551616 (by omega)
 unfold yzI ywx y6S;refine(congrArg (fun z=>zkt z _ _) (show yyy (yYf a0)=_ from h1)).trans ?_;generalize goE yoH (fun b=>(0,b)) a0.2.2.2.2.2.2.2.2.1.length 0 a0=R;cases hr:(R.1==0)
 ·rfl
 ·simp only[cond_true,zkN,zkX]
  rw[show R.1=0 from beq_iff_eq.1 hr]
def yo4 (a0:dA):Option (zaY yvE×zak yoz):=bif yHa a0 then(fun n=>some ((n.1,()),(n.2,()))) (ywx a0)else none
theorem y4W (a0:dA) (h:yHa a0=true):yo4 a0=(fun n=>some ((n.1,()),(n.2,()))) (ywx a0):=by unfold yo4; rw[h]; rfl
def yJ9:Con:=⟨yoz,yvE,fun x=>yo4 x.1⟩
theorem y4T:ConOk prog 117 yJ9:=(y2e).mono (fun x r hk h=>zkY h (fun hq=>y4H x.1 hk hq))
def y3F:Code:=(f120.body).getD .skip
def y4d:Env:=zkw TT [(80,yae)] []
theorem yTu:FrOk prog ⟨y4d,6,fun _=>none⟩ y3F:=zkA mixed yd ⟨yaR,trivial⟩
abbrev yBN:List Par:= [.pt tU .fz]
abbrev yCm:List OT:= [⟨false,tI,.fz⟩]
def yaz (a0:dU):Option (zaY yCm×zak yBN) :=bnd (yp a0 ([0,1,2,7,255,256,4660,65535]:List Int)) fun r1 =>some ((r1.1.1,()),(r1.2.1,()))
theorem yY8:ConOk prog 120 ⟨yBN,yCm,fun x=>yaz x.1⟩:=zkI (yTu) func120 ntmps120.symm fun x=>by kernel_rfl
def yvW:Con:=⟨yBN,yCm,fun x=>yaz x.1⟩
theorem yKz:ConOk prog 120 yvW:=yY8
theorem y6B (u:List Int×Int×Int) (h:yA u): ∃(r:Int) (u':List Int×Int×Int),yaz u=some ((r,()),(u',()))∧ya r 0 65535=true∧yA u':=by
 unfold yaz;obtain⟨r1,u1,e1,q1,d1⟩:=yeJ u [0,1,2,7,255,256,4660,65535] h (by simp);simp only[e1,zkH];refine⟨_,_,rfl,?_,d1⟩;simp only[List.mem_cons,List.not_mem_nil,or_false]at q1;exact y8V (by omega) (by omega)
def yWn:Code:=(f203.body).getD .skip
def yWU:Env:=zkw TT [(174,yn9),(177,yn7),(178,yn8)] []
theorem yN7:FrOk prog ⟨yWU,27,fun _=>none⟩ yWn:=zkA mixed yd ⟨yzq,yzo,yzp,trivial⟩
abbrev yir:List Par:= [.pt tA (.pr .fz (.pr (.pr .fz .fz) (.pr (.ow (.pr (.ow .fz) (.pr (.ow (.pr .fz .fz)) (.pr .fz (.ow .fz))))) (.pr .fz (.pr .fz (.pr .fz (.pr .fz (.pr .fz (.pr (.ow (.pr .fz .fz)) (.pr .fz (.pr .fz .fz)))))))))))]
abbrev ynR:List OT:= [⟨false,tI,.fz⟩]
def yry (a0:dA):Option (zaY ynR×zak yir) :=let r1:=ycG a0.2.1;let r2:=ybG r1;bif(inb a0.2.2.2.1 a0.2.2.1.length)then let r3:=yaQ (a0.1,a0.2.1,(a0.2.2.1.set (a0.2.2.2.1).toNat r2),a0.2.2.2.1,0,a0.2.2.2.2.2);bif r3.2.2.2.2.2.2.2.2.2.2.1 then some ((6,()),(r3,())) else some ((0,()),(r3,())) else none
theorem yRK:ConOk prog 203 ⟨yir,ynR,fun x=>yry x.1⟩:=zkI (yN7) func203 ntmps203.symm fun x=>by kernel_rfl
def yod (a0:dA):Int×dA:=(bif ye (yao (yd0 a0))then 6 else 0,yao (yd0 a0))
def yjy (a0:dA):Bool:=yf a0.2.1&&inb a0.2.2.2.1 a0.2.2.1.length
theorem yUV (a0:dA) (hk:zjx yir (a0,())) (hq:yjy a0=true):yry a0=(fun n=>some ((n.1,()),(n.2,()))) (yod a0):=by
 simp only[yjy,Bool.and_eq_true]at hq;have hg:=yk.1 hq.1;unfold yry yod;simp only[ycG,wq (6+a0.2.1.2) (by omega) (by omega),hq.2,ybG,yaQ];show(bif ye (yao (yd0 a0))then some ((6,()),(yao (yd0 a0),()))else some ((0,()),(yao (yd0 a0),())))=_;cases ye (yao (yd0 a0))<;>rfl
def yjw (a0:dA):Option (zaY ynR×zak yir):=bif yjy a0 then(fun n=>some ((n.1,()),(n.2,()))) (yod a0)else none
theorem yVM (a0:dA) (h:yjy a0=true):yjw a0=(fun n=>some ((n.1,()),(n.2,()))) (yod a0):=by unfold yjw; rw[h]; rfl
def yDE:Con:=⟨yir,ynR,fun x=>yjw x.1⟩
theorem yVI:ConOk prog 203 yDE:=(yRK).mono (fun x r hk h=>zkY h (fun hq=>yUV x.1 hk hq))
def y0g:Code:=(f204.body).getD .skip
def y0J:Env:=zkw TT [(113,ydN),(206,ykF),(227,ys5)] []
theorem yQD:FrOk prog ⟨y0J,49,fun _=>none⟩ y0g:=zkA mixed yd ⟨yg6,ysy,yIU,trivial⟩
abbrev ykm:List Par:= [.pt tA (.pr .fz (.pr (.pr .fz .fz) (.pr (.ow (.pr (.ow .fz) (.pr (.ow (.pr .fz .fz)) (.pr .fz (.ow .fz))))) (.pr .fz (.pr .fz (.pr .fz (.pr .fz (.pr .fz (.pr (.ow (.pr .fz .fz)) (.pr .fz (.pr .fz .fz)))))))))))]
abbrev ypZ:List OT:= [⟨false,tI,.fz⟩]
def ytI (a0:dA):Option (zaY ypZ×zak ykm) :=bnd (yk1 a0 a0.2.2.2.2.1) fun r1 =>bif(!r1.1.2.1)then some ((5,()),(a0,())) else let r2:=yaO a0.2.2.2.2.1;bif(inb a0.2.2.2.1 r1.1.1.length)then bnd (yfI a0 a0.2.2.2.1 r2 ([(nth r1.1.1 a0.2.2.2.1 0)]:List Int)) fun r3 =>bif r3.2.1.2.2.2.2.2.2.2.2.2.2.1 then some ((6,()),(r3.2.1,())) else some ((0,()),((r3.2.1.1,r3.2.1.2.1,r3.2.1.2.2.1,r3.2.1.2.2.2.1,(i64.wrap (r3.2.1.2.2.2.2.1+1)),r3.2.1.2.2.2.2.2),())) else none
theorem yVl:ConOk prog 204 ⟨ykm,ypZ,fun x=>ytI x.1⟩:=zkI (yQD) func204 ntmps204.symm fun x=>by kernel_rfl
def yqf (a0:dA):Int×dA:=yld a0
def yk5 (a0:dA):Bool:=yf a0.2.1&&(inb a0.2.2.2.1 a0.2.2.1.length&&inb a0.2.2.2.1 a0.2.1.1.toNat)
theorem yYC (a0:dA) (hk:zjx ykm (a0,())) (hq:yk5 a0=true):ytI a0=(fun n=>some ((n.1,()),(n.2,()))) (yqf a0):=by
 simp only[yk5,Bool.and_eq_true]at hq;unfold ytI yqf yld;rw[yI0 a0 a0.2.2.2.2.1 hq.1];simp only[zkH,yg4,ye8];cases hw:(yaA a0 a0.2.2.2.2.1).2
 ·rfl
 ·rw[y3i hw,hq.2.2,ymB a0 a0.2.2.2.1 (ycA a0.2.2.2.2.1) [nth (yaA a0 a0.2.2.2.2.1).1 a0.2.2.2.1 0] hq.2.1]
  simp only[zkH,yo3,Bool.not_true,cond_false,cond_true];show(bif ye (yag a0)then some ((6,()),(yag a0,()))else some ((0,()),(y7A (yag a0),())))=_;cases ye (yag a0)<;>rfl
def yk0 (a0:dA):Option (zaY ypZ×zak ykm):=bif yk5 a0 then(fun n=>some ((n.1,()),(n.2,()))) (yqf a0)else none
theorem yZK (a0:dA) (h:yk5 a0=true):yk0 a0=(fun n=>some ((n.1,()),(n.2,()))) (yqf a0):=by unfold yk0; rw[h]; rfl
def yF8:Con:=⟨ykm,ypZ,fun x=>yk0 x.1⟩
theorem yZF:ConOk prog 204 yF8:=(yVl).mono (fun x r hk h=>zkY h (fun hq=>yYC x.1 hk hq))
def y3L:Code:=(f163.body).getD .skip
def y4j:Env:=zkw TT [(72,ym),(83,yji),(108,yF7),(112,yqV),(113,ydN),(117,yJ9),(118,yKb),(119,yn6),(120,yvW),(171,ylJ),(179,ys6),(203,yDE),(204,yF8)] []
theorem yTO:FrOk prog ⟨y4j,160,fun _=>none⟩ y3L:=zkA mixed yd ⟨yv,yqj,yZE,yG4,yg6,y4T,y4V,yzn,yKz,ywF,yIV,yVI,yZF,trivial⟩
abbrev yi:List Par:= [.pt tU .fz,.pt tA (.pr .fz (.pr (.pr .fz .fz) (.pr (.ow (.pr (.ow .fz) (.pr (.ow (.pr .fz .fz)) (.pr .fz (.ow .fz))))) (.pr .fz (.pr .fz (.pr .fz (.pr .fz (.pr .fz (.pr (.ow (.pr .fz .fz)) (.pr .fz (.pr .fz .fz)))))))))))]
abbrev yj:List OT:= []
def yfX (a0:dU) (a1:dA):Option (zaY yj×zak yi) :=bnd (yb a0 14) fun r1 =>let k1:Option (zaY yj×zak yi) :=bnd (yal r1.2.1 3) fun r9 =>bif r9.1.1 then bif(a1.2.2.2.1==(-1))then bnd (yb r9.2.1 a1.2.1.1) fun r10 =>bnd (ykZ a1 r10.1.1) fun r11 =>some ((),(r10.2.1,r11.2.1,())) else some ((),(r9.2.1,a1,())) else some ((),(r9.2.1,a1,()));let k2:Option (zaY yj×zak yi) :=bif(inb a1.2.2.2.1 a1.2.2.1.length)then bif(((nth a1.2.2.1 a1.2.2.2.1 ([],[],false,[])).2).2).1 then bnd (yjw a1) fun r12 =>some ((),(r1.2.1,r12.2.1,())) else some ((),(r1.2.1,a1,())) else none;let k3:Option (zaY yj×zak yi) :=bif(leb 0 a1.2.2.2.1)then k2 else some ((),(r1.2.1,a1,()));let k4:Option (zaY yj×zak yi) :=bif(inb a1.2.2.2.1 a1.2.2.1.length)then bif(!((((nth a1.2.2.1 a1.2.2.2.1 ([],[],false,[])).2).2).1))then bif(ltb a1.2.2.2.2.1 a1.2.1.2)then bnd (yk0 a1) fun r13 =>some ((),(r1.2.1,r13.2.1,())) else some ((),(r1.2.1,a1,())) else some ((),(r1.2.1,a1,())) else none;let k5:Option (zaY yj×zak yi) :=bif(leb 0 a1.2.2.2.1)then k4 else some ((),(r1.2.1,a1,()));let k6:Option (zaY yj×zak yi) :=bnd (yal r1.2.1 3) fun r15 =>bif r15.1.1 then bnd (yb r15.2.1 a1.2.1.1) fun r16 =>bif(inb r16.1.1 a1.2.2.1.length)then bnd (yb r16.2.1 a1.2.1.2) fun r17 =>let r18:=yaO r17.1.1;let r19:=yfT ((nth a1.2.2.1 r16.1.1 ([],[],false,[])).1,((nth a1.2.2.1 r16.1.1 ([],[],false,[])).2).1,(((nth a1.2.2.1 r16.1.1 ([],[],false,[])).2).2)) r18;bif(inb r16.1.1 a1.2.2.1.length)then some ((),(r17.2.1,(a1.1,a1.2.1,(a1.2.2.1.set (r16.1.1).toNat r19),a1.2.2.2),())) else none else none else some ((),(r15.2.1,a1,()));let k7:Option (zaY yj×zak yi) :=bif(a1.2.2.2.1==(-1))then k6 else some ((),(r1.2.1,a1,()));let k8:Option (zaY yj×zak yi) :=bif(r1.1.1==12)then let r14:=ye0 a1;some ((),(r1.2.1,r14,())) else k7;let k9:Option (zaY yj×zak yi) :=bif(r1.1.1==10)then k5 else k8;let k10:Option (zaY yj×zak yi) :=bif(r1.1.1==11)then k5 else k8;let k11:Option (zaY yj×zak yi) :=bif(r1.1.1==10)then k9 else k10;let k12:Option (zaY yj×zak yi) :=bif(r1.1.1==9)then k3 else k11;let k13:Option (zaY yj×zak yi) :=bif(r1.1.1==8)then k1 else k12;let k14:Option (zaY yj×zak yi) :=bif(r1.1.1==7)then bnd (yo4 a1) fun r8 =>some ((),(r1.2.1,r8.2.1,())) else k13;let k15:Option (zaY yj×zak yi) :=bif(r1.1.1==4)then bnd (yb r1.2.1 a1.2.1.2) fun r6 =>bnd (ydb a1 r6.1.1) fun r7 =>some ((),(r6.2.1,r7.2.1,())) else k14;let k16:Option (zaY yj×zak yi) :=bif(r1.1.1==5)then bnd (yb r1.2.1 a1.2.1.2) fun r27 =>bnd (ydb a1 r27.1.1) fun r28 =>some ((),(r27.2.1,r28.2.1,())) else k14;let k17:Option (zaY yj×zak yi) :=bif(r1.1.1==6)then bnd (yb r1.2.1 a1.2.1.2) fun r48 =>bnd (ydb a1 r48.1.1) fun r49 =>some ((),(r48.2.1,r49.2.1,())) else k14;let k18:Option (zaY yj×zak yi) :=bif(r1.1.1==5)then k16 else k17;let k19:Option (zaY yj×zak yi) :=bif(r1.1.1==4)then k15 else k18;bif(r1.1.1==0)then bif(r1.1.1==0)then let r2:=yx a1.2.1;bnd (yb r1.2.1 r2) fun r3 =>bnd (yaz r3.2.1) fun r4 =>bnd (yfJ a1 r3.1.1 r4.1.1) fun r5 =>some ((),(r4.2.1,r5.2.1,())) else k19 else bif(r1.1.1==1)then bif(r1.1.1==1)then let r69:=yx a1.2.1;bnd (yb r1.2.1 r69) fun r70 =>bnd (yaz r70.2.1) fun r71 =>bnd (yfJ a1 r70.1.1 r71.1.1) fun r72 =>some ((),(r71.2.1,r72.2.1,())) else k19 else bif(r1.1.1==2)then bif(r1.1.1==2)then let r136:=yx a1.2.1;bnd (yb r1.2.1 r136) fun r137 =>bnd (yaz r137.2.1) fun r138 =>bnd (yfJ a1 r137.1.1 r138.1.1) fun r139 =>some ((),(r138.2.1,r139.2.1,())) else k19 else bif(r1.1.1==3)then let r203:=yx a1.2.1;bnd (yb r1.2.1 r203) fun r204 =>bnd (yaz r204.2.1) fun r205 =>bnd (yfJ a1 r204.1.1 r205.1.1) fun r206 =>some ((),(r205.2.1,r206.2.1,())) else k19
theorem yZk:ConOk prog 163 ⟨yi,yj,fun x=>yfX x.1 x.2.1⟩:=zkI (yTO) func163 ntmps163.symm fun x=>by kernel_rfl
def yvZ:Con:=⟨yi,yj,fun x=>yfX x.1 x.2.1⟩
theorem yKC:ConOk prog 163 yvZ:=yZk
def yz1 (a:dA) (z:Option (zaY yj×zak yi)):Prop:= ∃(u':dU) (a':dA),z=some ((),(u',a',()))∧yA u'∧Turned a a'
def y6O (u:dU) (a:dA):Option (zaY yj×zak yi) :=bnd (yb u (yx a.2.1)) fun r3=>bnd (yaz r3.2.1) fun r4=>bnd (yfJ a r3.1.1 r4.1.1) fun r5=>some ((),(r4.2.1,r5.2.1,()))
def y3f (u:dU) (a:dA):Option (zaY yj×zak yi) :=bnd (yb u a.2.1.2) fun r6=>bnd (ydb a r6.1.1) fun r7=>some ((),(r6.2.1,r7.2.1,()))
def y58 (u:dU) (a:dA):Option (zaY yj×zak yi) :=bnd (yal u 3) fun r9=>bif r9.1.1 then(bif(a.2.2.2.1==(-1))then(bnd (yb r9.2.1 a.2.1.1) fun r10=>bnd (ykZ a r10.1.1) fun r11=>some ((),(r10.2.1,r11.2.1,())))else some ((),(r9.2.1,a,())))else some ((),(r9.2.1,a,()))
def y3g (u:dU) (a:dA):Option (zaY yj×zak yi) :=bif leb 0 a.2.2.2.1 then(bif inb a.2.2.2.1 a.2.2.1.length then(bif(nth a.2.2.1 a.2.2.2.1 yc).2.2.1 then(bnd (yjw a) fun r12=>some ((),(u,r12.2.1,())))else some ((),(u,a,())))else none)else some ((),(u,a,()))
def y59 (u:dU) (a:dA):Option (zaY yj×zak yi) :=bif leb 0 a.2.2.2.1 then(bif inb a.2.2.2.1 a.2.2.1.length then(bif !(nth a.2.2.1 a.2.2.2.1 yc).2.2.1 then(bif ltb a.2.2.2.2.1 a.2.1.2 then(bnd (yk0 a) fun r13=>some ((),(u,r13.2.1,())))else some ((),(u,a,())))else some ((),(u,a,())))else none)else some ((),(u,a,()))
def yPm (u:dU) (a:dA):Option (zaY yj×zak yi) :=bif(a.2.2.2.1==(-1))then(bnd (yal u 3) fun r15=>bif r15.1.1 then(bnd (yb r15.2.1 a.2.1.1) fun r16=>bif inb r16.1.1 a.2.2.1.length then(bnd (yb r16.2.1 a.2.1.2) fun r17 =>bif inb r16.1.1 a.2.2.1.length then some ((),(r17.2.1,yjC a r16.1.1 (spoil (nth a.2.2.1 r16.1.1 yc) (ycA r17.1.1)),()))else none)else none)else some ((),(r15.2.1,a,())))else some ((),(u,a,()))
theorem yLH {u:dU} {a:dA} (h:yc8 a) (hk:yH a) (hu:yA u):yz1 a (y6O u a):=by
 have hg:=yk.1 h.1;have hd:=yoK h.2.2.1 h.1;obtain⟨b,u1,e1,q1,d1⟩:=yo u (yx a.2.1) hu;obtain⟨x,u2,e2,q2,d2⟩:=y6B u1 d1;have hx:isW x=true:=by rw[ybm]at q2; exact q2
 have hbl:0<yx a.2.1:=by
  rw[yKQ h.1];exact Int.mul_pos (by omega) (by omega)
 have hb:yn2 a.2.1 b=true:=by
  have:=q1.2.1 hbl;unfold yn2;rw[zk2 q1.1,zk2 (show b≤yx a.2.1-1 by omega)]; rfl
 unfold y6O;rw[e1,zkH,e2,zkH,y4Y a b x (by unfold yo7; rw[yy7.2 ⟨h,hk⟩,hb]; exact decide_eq_true (show a.2.2.2.2.2.2.2.2.1.length≤1000 by omega)),zkH];exact⟨_,_,rfl,d2,.put b x hb hx⟩
theorem yLG {u:dU} {a:dA} (h:yc8 a) (hu:yA u):yz1 a (y3f u a):=by
 have hd:=yoK h.2.2.1 h.1;obtain⟨s,u1,e1,q1,d1⟩:=yo u a.2.1.2 hu;unfold y3f;rw[e1,zkH,yI1 a s (decide_eq_true (show a.2.2.2.2.2.2.2.2.1.length≤1000 by omega)),zkH];exact⟨_,_,rfl,d1,.flush s⟩
theorem y74 {u:dU} {a:dA} (h:yc8 a) (hu:yA u):yz1 a (bnd (yo4 a) fun r8=>some ((),(u,r8.2.1,()))):=by
 have hd:=yoK h.2.2.1 h.1;rw[y4W a (decide_eq_true (show a.2.2.2.2.2.2.2.2.1.length≤1000 by omega)),zkH];exact⟨_,_,rfl,hu,.all⟩
theorem y7B {u:dU} {a:dA} (h:yc8 a) (hk:yH a) (hu:yA u):yz1 a (y58 u a):=by
 have hg:=yk.1 h.1;have hl:=hk.1.2;obtain⟨r,u1,e1,d1⟩:=yKc u 3 hu;unfold y58;rw[e1,zkH];cases r
 ·exact⟨_,_,rfl,d1,.same⟩
 ·cases h1:(a.2.2.2.1==(-1))
  ·exact⟨_,_,rfl,d1,.same⟩
  ·obtain⟨m,u2,e2,q2,d2⟩:=yo u1 a.2.1.1 d1
   have hm:inb m a.2.2.1.length=true:=zj6.2 ⟨q2.1,by have:=q2.2.1 (by omega); omega⟩;simp only[cond_true];rw[e2,zkH,yZJ a m hm,zkH];exact⟨_,_,rfl,d2,.fail m (beq_iff_eq.1 h1) hm⟩
theorem y68 {u:dU} {a:dA} (h:yc8 a) (hk:yH a) (hu:yA u):yz1 a (y3g u a):=by
 have hl:=hk.1.2;have hc:=h.2.2.2.1;unfold y3g;cases h0:leb 0 a.2.2.2.1
 ·exact⟨_,_,rfl,hu,.same⟩
 ·have hi:inb a.2.2.2.1 a.2.2.1.length=true:=zj6.2 ⟨zj7.1 h0,by omega⟩
  rw[hi];cases hf:(nth a.2.2.1 a.2.2.2.1 yc).2.2.1
  ·exact⟨_,_,rfl,hu,.same⟩
  ·simp only[cond_true]
   rw[yVM a (by unfold yjy; rw[h.1,hi]; rfl),zkH];exact⟨_,_,rfl,hu,.spare hi hf⟩
theorem y3h {u:dU} {a:dA} (h:yc8 a) (hk:yH a) (hu:yA u):yz1 a (y59 u a):=by
 have hl:=hk.1.2;have hc:=h.2.2.2.1;unfold y59;cases h0:leb 0 a.2.2.2.1
 ·exact⟨_,_,rfl,hu,.same⟩
 ·have h0':=zj7.1 h0
  have hi:inb a.2.2.2.1 a.2.2.1.length=true:=zj6.2 ⟨h0',by omega⟩;rw[hi];cases hf:(nth a.2.2.1 a.2.2.2.1 yc).2.2.1
  ·cases hb:ltb a.2.2.2.2.1 a.2.1.2
   ·exact⟨_,_,rfl,hu,.same⟩
   ·simp only[cond_true,Bool.not_false]
    rw[yZK a (by unfold yk5; rw[h.1,hi,zj6.2 (show 0≤a.2.2.2.1∧a.2.2.2.1<a.2.1.1.toNat by omega)]; rfl),zkH];exact⟨_,_,rfl,hu,.step hi hf (zka.1 hb)⟩
  ·exact⟨_,_,rfl,hu,.same⟩
theorem y69 {u:dU} {a:dA} (h:yc8 a) (hk:yH a) (hu:yA u):yz1 a (yPm u a):=by
 have hg:=yk.1 h.1;have hl:=hk.1.2;unfold yPm;cases hlo:(a.2.2.2.1==(-1))
 ·exact⟨_,_,rfl,hu,.same⟩
 ·obtain⟨r,u1,e1,d1⟩:=yKc u 3 hu
  simp only[cond_true];rw[e1,zkH];cases r
  ·exact⟨_,_,rfl,d1,.same⟩
  ·obtain⟨m,u2,e2,q2,d2⟩:=yo u1 a.2.1.1 d1
   have hm:inb m a.2.2.1.length=true:=zj6.2 ⟨q2.1,by have:=q2.2.1 (by omega); omega⟩;obtain⟨s,u3,e3,q3,d3⟩:=yo u2 a.2.1.2 d2;simp only[cond_true];rw[e2,zkH];simp only[hm,cond_true];rw[e3,zkH];exact⟨_,_,rfl,d3,.spoil m s (beq_iff_eq.1 hlo) hm q3.1 (q3.2.1 (by omega))⟩
theorem y6D (u:dU) (a:dA) (hu:yA u) (h:yc8 a) (hk:yH a):yz1 a (yfX u a):=by
 obtain⟨r,u1,e1,q1,d1⟩:=yo u 14 hu;have hr:=q1.2.1 (by omega);have h0:=q1.1;unfold yfX;rw[e1,zkH];have hc:(r=0∨r=1∨r=2∨r=3)∨(r=4∨r=5∨r=6)∨r=7∨r=8∨r=9∨(r=10∨r=11)∨r=12∨r=13:=by omega
 rcases hc with(rfl | rfl | rfl | rfl) | (rfl | rfl | rfl) | rfl | rfl | rfl | (rfl | rfl) | rfl | rfl
 ·exact yLH h hk d1
 ·exact yLH h hk d1
 ·exact yLH h hk d1
 ·exact yLH h hk d1
 ·exact yLG h d1
 ·exact yLG h d1
 ·exact yLG h d1
 ·exact y74 h d1
 ·exact y7B h hk d1
 ·exact y68 h hk d1
 ·exact y3h h hk d1
 ·exact y3h h hk d1
 ·refine⟨u1,yZ a,?_,d1,.check⟩
  rw[← yCW]; rfl
 ·have:=y69 h hk d1
  unfold yPm at this;simp only[← ye8]at this;exact this
def yr0:Code:=(f124.body).getD .skip
def yBu:Env:=zkw TT [(72,ym),(115,yIi),(116,yJ8),(163,yvZ)] []
theorem yTJ:FrOk prog ⟨yBu,24,fun _=>none⟩ yr0:=zkA mixed yd ⟨yv,y2o,y4S,yKC,trivial⟩
def yHM:Nat→Option Seg:=fun _=>none
def ycS:Shape:=⟨[(0,false,[.ptr 1000000000 0]),(4,false,[.ptr 0 0]),(5,false,[.ptr 4480 0]),(6,false,[.int .i64])],[(0,[.int .i64,.int .i64,.int .i64,.nil,.int .i64,.int .i64,.int .i64,.int .i64,.int .i64,.nil,.int .i64,.bool,.bool]),(4480,[.int .i64,.int .i64,.int .i64,.at 800000000,.int .i64,.int .i64,.int .i64,.int .i64,.int .i64,.at 800000001,.int .i64,.bool,.bool]),(1000000000,[.fz tY,.int .i64,.int .i64])],[(800000000,tM,(.pr (.ow .fz) (.pr (.ow (.pr .fz .fz)) (.pr .fz (.ow .fz))))),(800000001,tW,(.pr .fz .fz))]⟩
def yhB:Shape:=⟨[(0,false,[.ptr 1000000000 0]),(4,false,[.ptr 0 0]),(5,false,[.ptr 4480 0]),(6,false,[.int .i64])],[(0,[.int .i64,.int .i64,.int .i64,.nil,.int .i64,.int .i64,.int .i64,.int .i64,.int .i64,.nil,.int .i64,.bool,.bool]),(4480,[.int .i64,.int .i64,.int .i64,.at 800000000,.int .i64,.int .i64,.int .i64,.int .i64,.int .i64,.at 800000001,.int .i64,.bool,.bool]),(1000000000,[.fz tY,.int .i64,.int .i64])],[(800000000,tM,(.pr (.ow .fz) (.pr (.ow (.pr .fz .fz)) (.pr .fz (.ow .fz))))),(800000001,tW,(.pr .fz .fz))]⟩
def yho:Shape:=⟨[(4,false,[.ptr 0 0]),(5,false,[.ptr 4480 0])],[(0,[.int .i64,.int .i64,.int .i64,.nil,.int .i64,.int .i64,.int .i64,.int .i64,.int .i64,.nil,.int .i64,.bool,.bool]),(4480,[.int .i64,.int .i64,.int .i64,.at 800000000,.int .i64,.int .i64,.int .i64,.int .i64,.int .i64,.at 800000001,.int .i64,.bool,.bool]),(1000000000,[.fz tY,.int .i64,.int .i64])],[(800000000,tM,(.pr (.ow .fz) (.pr (.ow (.pr .fz .fz)) (.pr .fz (.ow .fz))))),(800000001,tW,(.pr .fz .fz))]⟩
def ylC:Shape:=⟨[],[],[]⟩
abbrev yq5 (v0:Int) (v1 v2:dA) (v3:dU):(ycS).X:=((((),()),((),()),((),()),(v0,()),()),((v1.1,v1.2.1.1,v1.2.1.2,(),v1.2.2.2.1,v1.2.2.2.2.1,v1.2.2.2.2.2.1,v1.2.2.2.2.2.2.1,v1.2.2.2.2.2.2.2.1,(),v1.2.2.2.2.2.2.2.2.2.1,v1.2.2.2.2.2.2.2.2.2.2.1,v1.2.2.2.2.2.2.2.2.2.2.2,()),(v2.1,v2.2.1.1,v2.2.1.2,(),v2.2.2.2.1,v2.2.2.2.2.1,v2.2.2.2.2.2.1,v2.2.2.2.2.2.2.1,v2.2.2.2.2.2.2.2.1,(),v2.2.2.2.2.2.2.2.2.2.1,v2.2.2.2.2.2.2.2.2.2.2.1,v2.2.2.2.2.2.2.2.2.2.2.2,()),(v3.1,v3.2.1,v3.2.2,()),()),(v2.2.2.1,v2.2.2.2.2.2.2.2.2.1,()))
abbrev yQ7 (v0:Int) (v1 v2:dA) (v3:dU):(yhB).X:=((((),()),((),()),((),()),(v0,()),()),((v1.1,v1.2.1.1,v1.2.1.2,(),v1.2.2.2.1,v1.2.2.2.2.1,v1.2.2.2.2.2.1,v1.2.2.2.2.2.2.1,v1.2.2.2.2.2.2.2.1,(),v1.2.2.2.2.2.2.2.2.2.1,v1.2.2.2.2.2.2.2.2.2.2.1,v1.2.2.2.2.2.2.2.2.2.2.2,()),(v2.1,v2.2.1.1,v2.2.1.2,(),v2.2.2.2.1,v2.2.2.2.2.1,v2.2.2.2.2.2.1,v2.2.2.2.2.2.2.1,v2.2.2.2.2.2.2.2.1,(),v2.2.2.2.2.2.2.2.2.2.1,v2.2.2.2.2.2.2.2.2.2.2.1,v2.2.2.2.2.2.2.2.2.2.2.2,()),(v3.1,v3.2.1,v3.2.2,()),()),(v2.2.2.1,v2.2.2.2.2.2.2.2.2.1,()))
abbrev yQW (v0 v1:dA) (v2:dU):(yho).X:=((((),()),((),()),()),((v0.1,v0.2.1.1,v0.2.1.2,(),v0.2.2.2.1,v0.2.2.2.2.1,v0.2.2.2.2.2.1,v0.2.2.2.2.2.2.1,v0.2.2.2.2.2.2.2.1,(),v0.2.2.2.2.2.2.2.2.2.1,v0.2.2.2.2.2.2.2.2.2.2.1,v0.2.2.2.2.2.2.2.2.2.2.2,()),(v1.1,v1.2.1.1,v1.2.1.2,(),v1.2.2.2.1,v1.2.2.2.2.1,v1.2.2.2.2.2.1,v1.2.2.2.2.2.2.1,v1.2.2.2.2.2.2.2.1,(),v1.2.2.2.2.2.2.2.2.2.1,v1.2.2.2.2.2.2.2.2.2.2.1,v1.2.2.2.2.2.2.2.2.2.2.2,()),(v2.1,v2.2.1,v2.2.2,()),()),(v1.2.2.1,v1.2.2.2.2.2.2.2.2.1,()))
def yrJ (v0 v1 v2 v3 v4 v5 v6 v7 v8 v9:Int) (v10 v11:Bool) (v12 v13 v14 v15 v16 v17 v18 v19 v20:Int) (v21 v22:Bool) (v23:List Int) (v24 v25:Int) (v26:List dM) (v27:List dW):Option ((ycS).X ⊕ ((yho).X ⊕ (ylC).X)) :=bif(ltb 0 v0)then bnd (yfX (v23,v24,v25) (v12,(v13,v14),v26,v15,v16,v17,v18,v19,v27,v20,v21,v22)) fun r6 =>some (.inl ((((),()),((),()),((),()),((i64.wrap (v0-1)),()),()),((v1,v2,v3,(),v4,v5,v6,v7,v8,(),v9,v10,v11,()),(r6.2.2.1.1,r6.2.2.1.2.1.1,r6.2.2.1.2.1.2,(),r6.2.2.1.2.2.2.1,r6.2.2.1.2.2.2.2.1,r6.2.2.1.2.2.2.2.2.1,r6.2.2.1.2.2.2.2.2.2.1,r6.2.2.1.2.2.2.2.2.2.2.1,(),r6.2.2.1.2.2.2.2.2.2.2.2.2.1,r6.2.2.1.2.2.2.2.2.2.2.2.2.2.1,r6.2.2.1.2.2.2.2.2.2.2.2.2.2.2,()),(r6.2.1.1,r6.2.1.2.1,r6.2.1.2.2,()),()),(r6.2.2.1.2.2.1,r6.2.2.1.2.2.2.2.2.2.2.2.1,()))) else some (.inr (.inl ((((),()),((),()),()),((v1,v2,v3,(),v4,v5,v6,v7,v8,(),v9,v10,v11,()),(v12,v13,v14,(),v15,v16,v17,v18,v19,(),v20,v21,v22,()),(v23,v24,v25,()),()),(v26,v27,()))))
def ydm (x:(ycS).X):=yrJ x.1.2.2.2.1.1 x.2.1.1.1 x.2.1.1.2.1 x.2.1.1.2.2.1 x.2.1.1.2.2.2.2.1 x.2.1.1.2.2.2.2.2.1 x.2.1.1.2.2.2.2.2.2.1 x.2.1.1.2.2.2.2.2.2.2.1 x.2.1.1.2.2.2.2.2.2.2.2.1 x.2.1.1.2.2.2.2.2.2.2.2.2.2.1 x.2.1.1.2.2.2.2.2.2.2.2.2.2.2.1 x.2.1.1.2.2.2.2.2.2.2.2.2.2.2.2.1 x.2.1.2.1.1 x.2.1.2.1.2.1 x.2.1.2.1.2.2.1 x.2.1.2.1.2.2.2.2.1 x.2.1.2.1.2.2.2.2.2.1 x.2.1.2.1.2.2.2.2.2.2.1 x.2.1.2.1.2.2.2.2.2.2.2.1 x.2.1.2.1.2.2.2.2.2.2.2.2.1 x.2.1.2.1.2.2.2.2.2.2.2.2.2.2.1 x.2.1.2.1.2.2.2.2.2.2.2.2.2.2.2.1 x.2.1.2.1.2.2.2.2.2.2.2.2.2.2.2.2.1 x.2.1.2.2.1.1 x.2.1.2.2.1.2.1 x.2.1.2.2.1.2.2.1 x.2.2.1 x.2.2.2.1
def yDQ (x:(yhB).X):(ycS).X:=((((),()),((),()),((),()),(x.1.2.2.2.1.1,()),()),((x.2.1.1.1,x.2.1.1.2.1,x.2.1.1.2.2.1,(),x.2.1.1.2.2.2.2.1,x.2.1.1.2.2.2.2.2.1,x.2.1.1.2.2.2.2.2.2.1,x.2.1.1.2.2.2.2.2.2.2.1,x.2.1.1.2.2.2.2.2.2.2.2.1,(),x.2.1.1.2.2.2.2.2.2.2.2.2.2.1,x.2.1.1.2.2.2.2.2.2.2.2.2.2.2.1,x.2.1.1.2.2.2.2.2.2.2.2.2.2.2.2.1,()),(x.2.1.2.1.1,x.2.1.2.1.2.1,x.2.1.2.1.2.2.1,(),x.2.1.2.1.2.2.2.2.1,x.2.1.2.1.2.2.2.2.2.1,x.2.1.2.1.2.2.2.2.2.2.1,x.2.1.2.1.2.2.2.2.2.2.2.1,x.2.1.2.1.2.2.2.2.2.2.2.2.1,(),x.2.1.2.1.2.2.2.2.2.2.2.2.2.2.1,x.2.1.2.1.2.2.2.2.2.2.2.2.2.2.2.1,x.2.1.2.1.2.2.2.2.2.2.2.2.2.2.2.2.1,()),(x.2.1.2.2.1.1,x.2.1.2.2.1.2.1,x.2.1.2.2.1.2.2.1,()),()),(x.2.2.1,x.2.2.2.1,()))
def yFR:Code:=(zd7 yr0 64 116).getD .skip
theorem ySU:zd7 yr0 64 29=some (.block 0 (.loop yFR)):=by kernel_rfl
theorem yVZ (x:(ycS).X):zhu ⟨yBu,24,yHM⟩ 0 yFR 116 ycS yho ylC x=ydm x:=by kernel_rfl
def yD3 (x:(yhB).X):Nat:=18446744073709551616
def ysO (x:(yhB).X):Option ((yho).X ⊕ (ylC).X):=zF ydm (yD3 x) (yDQ x)
def yEp:Seg:=⟨yhB,yho,ylC,ysO⟩
def yWx:Nat→Option Seg:=fun q=>bif Nat.beq q 29 then some yEp else yHM q
theorem yTK:FrOk prog ⟨yBu,24,yWx⟩ yr0:=(yTJ).loop (sg:=yEp) ycS yDQ (by decide) ySU ydm yD3 (by decide) (fun _=>rfl) (fun x r _ h=>h) yVZ
abbrev yBT:List Par:= [.pt tU .fz,.rd tI]
abbrev yCu:List OT:= [⟨false,tA,(.pr .fz (.pr (.pr .fz .fz) (.pr (.ow (.pr (.ow .fz) (.pr (.ow (.pr .fz .fz)) (.pr .fz (.ow .fz))))) (.pr .fz (.pr .fz (.pr .fz (.pr .fz (.pr .fz (.pr (.ow (.pr .fz .fz)) (.pr .fz (.pr .fz .fz)))))))))))⟩]
def ydY (a0:dU) (a1:Int):Option (zaY yCu×zak yBT) :=bnd (yb a0 2) fun r1 =>bnd (yk9 r1.2.1) fun r2 =>let r3:=ymt (i64.wrap (1+r1.1.1)) r2.1.1;bnd (yb r2.2.1 (i64.wrap (a1+1))) fun r4 =>zkt (ysO ((((),()),((),()),((),()),(r4.1.1,()),()),((0,0,0,(),0,0,0,0,0,(),0,false,false,()),(r3.1,r3.2.1.1,r3.2.1.2,(),r3.2.2.2.1,r3.2.2.2.2.1,r3.2.2.2.2.2.1,r3.2.2.2.2.2.2.1,r3.2.2.2.2.2.2.2.1,(),r3.2.2.2.2.2.2.2.2.2.1,r3.2.2.2.2.2.2.2.2.2.2.1,r3.2.2.2.2.2.2.2.2.2.2.2,()),(r4.2.1.1,r4.2.1.2.1,r4.2.1.2.2,()),()),(r3.2.2.1,r3.2.2.2.2.2.2.2.2.1,()))) (fun y6 =>some (((y6.2.1.2.1.1,(y6.2.1.2.1.2.1,y6.2.1.2.1.2.2.1),y6.2.2.1,y6.2.1.2.1.2.2.2.2.1,y6.2.1.2.1.2.2.2.2.2.1,y6.2.1.2.1.2.2.2.2.2.2.1,y6.2.1.2.1.2.2.2.2.2.2.2.1,y6.2.1.2.1.2.2.2.2.2.2.2.2.1,y6.2.2.2.1,y6.2.1.2.1.2.2.2.2.2.2.2.2.2.2.1,y6.2.1.2.1.2.2.2.2.2.2.2.2.2.2.2.1,y6.2.1.2.1.2.2.2.2.2.2.2.2.2.2.2.2.1),()),((y6.2.1.2.2.1.1,y6.2.1.2.2.1.2.1,y6.2.1.2.2.1.2.2.1),()))) (fun y6 =>none)
theorem yZh:ConOk prog 124 ⟨yBT,yCu,fun x=>ydY x.1 x.2.1⟩:=zkI (yTK) func124 ntmps124.symm fun x=>by kernel_rfl
def yvY:Con:=⟨yBT,yCu,fun x=>ydY x.1 x.2.1⟩
theorem yKB:ConOk prog 124 yvY:=yZh
theorem y2X {P:Int→dA→Prop} {K:Int} (hP: ∀k a,P k a→yc8 a∧yH a) (hT: ∀k a b,P k a→Turned a b→k+16≤K→P (k+16) b): ∀(n:Nat) (k:Int) (a:dA) (u:dU) (fuel:Nat),n<fuel→n≤1000→yA u→P k a→k+16*n≤K →
  ∃(a':dA) (u':dU),zF ydm fuel (yq5 n yK a u)=some (.inl (yQW yK a' u'))∧yA u'∧P (k+16*n) a'
 | 0,k,a,u,fuel+1,_,_,hu,h,_=>⟨a,u,by simp only[zF,ydm,yq5,yrJ]; rfl,hu,by rw[show k+16*((0:Nat):Int)=k by omega]; exact h⟩
 | n+1,k,a,u,fuel+1,hf,hn,hu,h,hk=>by
  obtain⟨hc,hkp⟩:=hP k a h;obtain⟨u1,a1,e1,d1,h1⟩:=y6D u a hu hc hkp;obtain⟨a',u',e2,d2,h2⟩:=y2X hP hT n (k+16) a1 u1 fuel (by omega) (by omega) d1 (hT k a a1 h h1 (by omega)) (by omega);refine⟨a',u',?_,d2,by rw[show k+16*((n+1:Nat):Int)=k+16+16*(n:Int)by omega]; exact h2⟩;rw[← e2,zF];simp only[ydm,yq5,yrJ,zky (show(0:Int)<((n+1:Nat):Int)by omega),cond_true,zkX,e1,zkH,show((n+1:Nat):Int)-1=(n:Int)by omega,wq ((n:Int)) (by omega) (by omega)]
theorem y6U {P:Int→dA→Prop} {K:Int} (hP: ∀k a,P k a→yc8 a∧yH a) (hT: ∀k a b,P k a→Turned a b→k+16≤K→P (k+16) b) (h0P: ∀id g,yf g=true→1≤id→id≤60000→P 0 (yz2 id g))
  (u:dU) (most:Int) (h:yA u) (h0:0≤most) (h1:most≤1000) (hm:16*most≤K): ∃(a:dA) (u':dU) (k:Int),ydY u most=some ((a,()),(u',()))∧P k a∧k≤16*most∧yA u':=by
 obtain⟨r1,u1,e1,q1,d1⟩:=yo u 2 h;obtain⟨g,u2,e2,q2,d2⟩:=y7T u1 d1;obtain⟨r3,u3,e3,q3,d3⟩:=yo u2 (most+1) d2;have:=q1.1; have:=q1.2.1 (by omega); have:=q3.1; have:=q3.2.1 (by omega);have hn:=h0P (1+r1) g q2 (by omega) (by omega);obtain⟨a',u',e4,d4,h4⟩:=y2X hP hT r3.toNat 0 (yz2 (1+r1) g) u3 18446744073709551616 (by omega) (by omega) d3 hn (by omega);rw[show((r3.toNat:Nat):Int)=r3 by omega]at e4;unfold ydY;simp only[e1,e2,zkH,wq (most+1) (by omega) (by omega),e3,wq (1+r1) (by omega) (by omega),ymt];refine⟨a',u',_,?_,h4,by omega,d4⟩;exact(congrArg (fun z=>zkt z _ _) (show ysO (yQ7 r3 yK (yz2 (1+r1) g) u3)=_ from e4)).trans rfl
theorem y2W (u:dU) (most:Int) (h:yA u) (h0:0≤most) (h1:most≤1000): ∃(a:dA) (u':dU),ydY u most=some ((a,()),(u',()))∧Wk 16000 a∧yA u':=by
 obtain⟨a,u',k,e,q,hk,d⟩:=y6U (P:=fun k a=>Wk k a∧k≤16000) (K:=16000) (fun k a h=>⟨h.1.1,h.1.2.1⟩) (fun k a b h ht hk=>⟨yej (y7F h.1 ht (by omega)) (by omega),by omega⟩) (fun id g h1 h2 h3=>⟨y8D h1 h2 h3,by omega⟩) u most h h0 h1 (by omega);exact⟨a,u',e,yej q.1 (by omega),d⟩
def yns:Code:=(f93.body).getD .skip
def yuG:Env:=zkw TT [(72,ym),(80,yae),(124,yvY),(163,yvZ)] []
theorem yOa:FrOk prog ⟨yuG,29,fun _=>none⟩ yns:=zkA mixed yd ⟨yv,yaR,yKB,yKC,trivial⟩
def yC8:Nat→Option Seg:=fun _=>none
def ybx:Shape:=⟨[(0,false,[.ptr 1000000000 0]),(4,false,[.ptr 0 0]),(5,false,[.ptr 4288 0]),(6,false,[.int .i64])],[(0,[.int .i64,.int .i64,.int .i64,.nil,.int .i64,.int .i64,.int .i64,.int .i64,.int .i64,.nil,.int .i64,.bool,.bool]),(4288,[.int .i64,.int .i64,.int .i64,.at 800000000,.int .i64,.int .i64,.int .i64,.int .i64,.int .i64,.at 800000001,.int .i64,.bool,.bool]),(1000000000,[.fz tY,.int .i64,.int .i64])],[(800000000,tM,(.pr (.ow .fz) (.pr (.ow (.pr .fz .fz)) (.pr .fz (.ow .fz))))),(800000001,tW,(.pr .fz .fz))]⟩
def yfA:Shape:=⟨[(0,false,[.ptr 1000000000 0]),(4,false,[.ptr 0 0]),(5,false,[.ptr 4288 0]),(6,false,[.int .i64])],[(0,[.int .i64,.int .i64,.int .i64,.nil,.int .i64,.int .i64,.int .i64,.int .i64,.int .i64,.nil,.int .i64,.bool,.bool]),(4288,[.int .i64,.int .i64,.int .i64,.at 800000000,.int .i64,.int .i64,.int .i64,.int .i64,.int .i64,.at 800000001,.int .i64,.bool,.bool]),(1000000000,[.fz tY,.int .i64,.int .i64])],[(800000000,tM,(.pr (.ow .fz) (.pr (.ow (.pr .fz .fz)) (.pr .fz (.ow .fz))))),(800000001,tW,(.pr .fz .fz))]⟩
def yfp:Shape:=⟨[(4,false,[.ptr 0 0]),(5,false,[.ptr 4288 0])],[(0,[.int .i64,.int .i64,.int .i64,.nil,.int .i64,.int .i64,.int .i64,.int .i64,.int .i64,.nil,.int .i64,.bool,.bool]),(4288,[.int .i64,.int .i64,.int .i64,.at 800000000,.int .i64,.int .i64,.int .i64,.int .i64,.int .i64,.at 800000001,.int .i64,.bool,.bool]),(1000000000,[.fz tY,.int .i64,.int .i64])],[(800000000,tM,(.pr (.ow .fz) (.pr (.ow (.pr .fz .fz)) (.pr .fz (.ow .fz))))),(800000001,tW,(.pr .fz .fz))]⟩
def yje:Shape:=⟨[],[],[]⟩
abbrev ycg (v0:Int) (v1 v2:dA) (v3:dU):(ybx).X:=((((),()),((),()),((),()),(v0,()),()),((v1.1,v1.2.1.1,v1.2.1.2,(),v1.2.2.2.1,v1.2.2.2.2.1,v1.2.2.2.2.2.1,v1.2.2.2.2.2.2.1,v1.2.2.2.2.2.2.2.1,(),v1.2.2.2.2.2.2.2.2.2.1,v1.2.2.2.2.2.2.2.2.2.2.1,v1.2.2.2.2.2.2.2.2.2.2.2,()),(v2.1,v2.2.1.1,v2.2.1.2,(),v2.2.2.2.1,v2.2.2.2.2.1,v2.2.2.2.2.2.1,v2.2.2.2.2.2.2.1,v2.2.2.2.2.2.2.2.1,(),v2.2.2.2.2.2.2.2.2.2.1,v2.2.2.2.2.2.2.2.2.2.2.1,v2.2.2.2.2.2.2.2.2.2.2.2,()),(v3.1,v3.2.1,v3.2.2,()),()),(v2.2.2.1,v2.2.2.2.2.2.2.2.2.1,()))
abbrev yME (v0:Int) (v1 v2:dA) (v3:dU):(yfA).X:=((((),()),((),()),((),()),(v0,()),()),((v1.1,v1.2.1.1,v1.2.1.2,(),v1.2.2.2.1,v1.2.2.2.2.1,v1.2.2.2.2.2.1,v1.2.2.2.2.2.2.1,v1.2.2.2.2.2.2.2.1,(),v1.2.2.2.2.2.2.2.2.2.1,v1.2.2.2.2.2.2.2.2.2.2.1,v1.2.2.2.2.2.2.2.2.2.2.2,()),(v2.1,v2.2.1.1,v2.2.1.2,(),v2.2.2.2.1,v2.2.2.2.2.1,v2.2.2.2.2.2.1,v2.2.2.2.2.2.2.1,v2.2.2.2.2.2.2.2.1,(),v2.2.2.2.2.2.2.2.2.2.1,v2.2.2.2.2.2.2.2.2.2.2.1,v2.2.2.2.2.2.2.2.2.2.2.2,()),(v3.1,v3.2.1,v3.2.2,()),()),(v2.2.2.1,v2.2.2.2.2.2.2.2.2.1,()))
abbrev yMt (v0 v1:dA) (v2:dU):(yfp).X:=((((),()),((),()),()),((v0.1,v0.2.1.1,v0.2.1.2,(),v0.2.2.2.1,v0.2.2.2.2.1,v0.2.2.2.2.2.1,v0.2.2.2.2.2.2.1,v0.2.2.2.2.2.2.2.1,(),v0.2.2.2.2.2.2.2.2.2.1,v0.2.2.2.2.2.2.2.2.2.2.1,v0.2.2.2.2.2.2.2.2.2.2.2,()),(v1.1,v1.2.1.1,v1.2.1.2,(),v1.2.2.2.1,v1.2.2.2.2.1,v1.2.2.2.2.2.1,v1.2.2.2.2.2.2.1,v1.2.2.2.2.2.2.2.1,(),v1.2.2.2.2.2.2.2.2.2.1,v1.2.2.2.2.2.2.2.2.2.2.1,v1.2.2.2.2.2.2.2.2.2.2.2,()),(v2.1,v2.2.1,v2.2.2,()),()),(v1.2.2.1,v1.2.2.2.2.2.2.2.2.1,()))
def yeN (v0 v1 v2 v3 v4 v5 v6 v7 v8 v9:Int) (v10 v11:Bool) (v12 v13 v14 v15 v16 v17 v18 v19 v20:Int) (v21 v22:Bool) (v23:List Int) (v24 v25:Int) (v26:List dM) (v27:List dW):Option ((ybx).X ⊕ ((yfp).X ⊕ (yje).X)) :=bif(ltb 0 v0)then bif(!v21)then bnd (yfX (v23,v24,v25) (v12,(v13,v14),v26,v15,v16,v17,v18,v19,v27,v20,v21,v22)) fun r5 =>some (.inl ((((),()),((),()),((),()),((i64.wrap (v0-1)),()),()),((v1,v2,v3,(),v4,v5,v6,v7,v8,(),v9,v10,v11,()),(r5.2.2.1.1,r5.2.2.1.2.1.1,r5.2.2.1.2.1.2,(),r5.2.2.1.2.2.2.1,r5.2.2.1.2.2.2.2.1,r5.2.2.1.2.2.2.2.2.1,r5.2.2.1.2.2.2.2.2.2.1,r5.2.2.1.2.2.2.2.2.2.2.1,(),r5.2.2.1.2.2.2.2.2.2.2.2.2.1,r5.2.2.1.2.2.2.2.2.2.2.2.2.2.1,r5.2.2.1.2.2.2.2.2.2.2.2.2.2.2,()),(r5.2.1.1,r5.2.1.2.1,r5.2.1.2.2,()),()),(r5.2.2.1.2.2.1,r5.2.2.1.2.2.2.2.2.2.2.2.1,()))) else some (.inr (.inl ((((),()),((),()),()),((v1,v2,v3,(),v4,v5,v6,v7,v8,(),v9,v10,v11,()),(v12,v13,v14,(),v15,v16,v17,v18,v19,(),v20,v21,v22,()),(v23,v24,v25,()),()),(v26,v27,())))) else some (.inr (.inl ((((),()),((),()),()),((v1,v2,v3,(),v4,v5,v6,v7,v8,(),v9,v10,v11,()),(v12,v13,v14,(),v15,v16,v17,v18,v19,(),v20,v21,v22,()),(v23,v24,v25,()),()),(v26,v27,()))))
def yW (x:(ybx).X):=yeN x.1.2.2.2.1.1 x.2.1.1.1 x.2.1.1.2.1 x.2.1.1.2.2.1 x.2.1.1.2.2.2.2.1 x.2.1.1.2.2.2.2.2.1 x.2.1.1.2.2.2.2.2.2.1 x.2.1.1.2.2.2.2.2.2.2.1 x.2.1.1.2.2.2.2.2.2.2.2.1 x.2.1.1.2.2.2.2.2.2.2.2.2.2.1 x.2.1.1.2.2.2.2.2.2.2.2.2.2.2.1 x.2.1.1.2.2.2.2.2.2.2.2.2.2.2.2.1 x.2.1.2.1.1 x.2.1.2.1.2.1 x.2.1.2.1.2.2.1 x.2.1.2.1.2.2.2.2.1 x.2.1.2.1.2.2.2.2.2.1 x.2.1.2.1.2.2.2.2.2.2.1 x.2.1.2.1.2.2.2.2.2.2.2.1 x.2.1.2.1.2.2.2.2.2.2.2.2.1 x.2.1.2.1.2.2.2.2.2.2.2.2.2.2.1 x.2.1.2.1.2.2.2.2.2.2.2.2.2.2.2.1 x.2.1.2.1.2.2.2.2.2.2.2.2.2.2.2.2.1 x.2.1.2.2.1.1 x.2.1.2.2.1.2.1 x.2.1.2.2.1.2.2.1 x.2.2.1 x.2.2.2.1
def yxH (x:(yfA).X):(ybx).X:=((((),()),((),()),((),()),(x.1.2.2.2.1.1,()),()),((x.2.1.1.1,x.2.1.1.2.1,x.2.1.1.2.2.1,(),x.2.1.1.2.2.2.2.1,x.2.1.1.2.2.2.2.2.1,x.2.1.1.2.2.2.2.2.2.1,x.2.1.1.2.2.2.2.2.2.2.1,x.2.1.1.2.2.2.2.2.2.2.2.1,(),x.2.1.1.2.2.2.2.2.2.2.2.2.2.1,x.2.1.1.2.2.2.2.2.2.2.2.2.2.2.1,x.2.1.1.2.2.2.2.2.2.2.2.2.2.2.2.1,()),(x.2.1.2.1.1,x.2.1.2.1.2.1,x.2.1.2.1.2.2.1,(),x.2.1.2.1.2.2.2.2.1,x.2.1.2.1.2.2.2.2.2.1,x.2.1.2.1.2.2.2.2.2.2.1,x.2.1.2.1.2.2.2.2.2.2.2.1,x.2.1.2.1.2.2.2.2.2.2.2.2.1,(),x.2.1.2.1.2.2.2.2.2.2.2.2.2.2.1,x.2.1.2.1.2.2.2.2.2.2.2.2.2.2.2.1,x.2.1.2.1.2.2.2.2.2.2.2.2.2.2.2.2.1,()),(x.2.1.2.2.1.1,x.2.1.2.2.1.2.1,x.2.1.2.2.1.2.2.1,()),()),(x.2.2.1,x.2.2.2.1,()))
def yAf:Code:=(zd7 yns 64 244).getD .skip
theorem yNn:zd7 yns 64 61=some (.block 0 (.loop yAf)):=by kernel_rfl
theorem yPg (x:(ybx).X):zhu ⟨yuG,29,yC8⟩ 0 yAf 244 ybx yfp yje x=yW x:=by kernel_rfl
def yxT (x:(yfA).X):Nat:=18446744073709551616
def yov (x:(yfA).X):Option ((yfp).X ⊕ (yje).X):=zF yW (yxT x) (yxH x)
def yye:Seg:=⟨yfA,yfp,yje,yov⟩
def yPH:Nat→Option Seg:=fun q=>bif Nat.beq q 61 then some yye else yC8 q
theorem yOb:FrOk prog ⟨yuG,29,yPH⟩ yns:=(yOa).loop (sg:=yye) ybx yxH (by decide) yNn yW yxT (by decide) (fun _=>rfl) (fun x r _ h=>h) yPg
abbrev yvd:List Par:= [.pt tU .fz,.rd tI]
abbrev yvH:List OT:= [⟨false,tA,(.pr .fz (.pr (.pr .fz .fz) (.pr (.ow (.pr (.ow .fz) (.pr (.ow (.pr .fz .fz)) (.pr .fz (.ow .fz))))) (.pr .fz (.pr .fz (.pr .fz (.pr .fz (.pr .fz (.pr (.ow (.pr .fz .fz)) (.pr .fz (.pr .fz .fz)))))))))))⟩]
def yd4 (a0:dU) (a1:Int):Option (zaY yvH×zak yvd) :=bnd (ydY a0 a1) fun r1 =>bnd (yp r1.2.1 ([(-1),0,1,2,3,4,6,8,11,15,20]:List Int)) fun r2 =>bnd (yb r2.2.1 3) fun r3 =>zkt (yov ((((),()),((),()),((),()),((i64.wrap (1+r3.1.1)),()),()),((0,0,0,(),0,0,0,0,0,(),0,false,false,()),(r1.1.1.1,r1.1.1.2.1.1,r1.1.1.2.1.2,(),r1.1.1.2.2.2.1,r1.1.1.2.2.2.2.1,r1.1.1.2.2.2.2.2.1,r1.1.1.2.2.2.2.2.2.1,r1.1.1.2.2.2.2.2.2.2.1,(),r2.1.1,r1.1.1.2.2.2.2.2.2.2.2.2.2.1,r1.1.1.2.2.2.2.2.2.2.2.2.2.2,()),(r3.2.1.1,r3.2.1.2.1,r3.2.1.2.2,()),()),(r1.1.1.2.2.1,r1.1.1.2.2.2.2.2.2.2.2.1,()))) (fun y5 =>some (((y5.2.1.2.1.1,(y5.2.1.2.1.2.1,y5.2.1.2.1.2.2.1),y5.2.2.1,y5.2.1.2.1.2.2.2.2.1,y5.2.1.2.1.2.2.2.2.2.1,y5.2.1.2.1.2.2.2.2.2.2.1,y5.2.1.2.1.2.2.2.2.2.2.2.1,y5.2.1.2.1.2.2.2.2.2.2.2.2.1,y5.2.2.2.1,y5.2.1.2.1.2.2.2.2.2.2.2.2.2.2.1,y5.2.1.2.1.2.2.2.2.2.2.2.2.2.2.2.1,y5.2.1.2.1.2.2.2.2.2.2.2.2.2.2.2.2.1),()),((y5.2.1.2.2.1.1,y5.2.1.2.2.1.2.1,y5.2.1.2.2.1.2.2.1),()))) (fun y5 =>none)
theorem yRN:ConOk prog 93 ⟨yvd,yvH,fun x=>yd4 x.1 x.2.1⟩:=zkI (yOb) func93 ntmps93.symm fun x=>by kernel_rfl
def yqY:Con:=⟨yvd,yvH,fun x=>yd4 x.1 x.2.1⟩
theorem yG7:ConOk prog 93 yqY:=yRN
theorem yLM: ∀(n:Nat) (k:Int) (a:dA) (u:dU) (fuel:Nat),n<fuel→n≤1000→yA u→Cw k a→yH a→ye a=false→k+8*n+8≤60000 →
  ∃(a':dA) (u':dU),zF yW fuel (ycg n yK a u)=some (.inl (yMt yK a' u'))∧yA u'∧(Nie 9 a'∧y6R a')∧(a'.2.2.1.length:Int)=a.2.1.1
 | 0,k,a,u,fuel+1,_,_,hu,h,hkp,hd,_=>⟨a,u,by simp only[zF,yW,ycg,yeN]; rfl,hu,⟨yGT (y6I (yy7.2 ⟨h.1,hkp⟩)) (by omega),ySn (yy7.2 ⟨h.1,hkp⟩) .same⟩,hkp.1.2⟩
 | n+1,k,a,u,fuel+1,hf,hn,hu,h,hkp,hda,hk=>by
  have ha:=yy7.2 ⟨h.1,hkp⟩;obtain⟨u1,a1,e1,d1,h1⟩:=y6D u a hu h.1 hkp;have h9:=And.intro (y65 ha h1) (ySn ha h1);have hl1:(a1.2.2.1.length:Int)=a.2.1.1:=by rw[← hkp.1.2]; exact congrArg _ (y7a ha h1)
  rcases Bool.eq_false_or_eq_true (ye a1)with hd | hd
  ·refine⟨a1,u1,?_,d1,h9,hl1⟩
   rw[zF];simp only[yW,ycg,yeN,zky (show(0:Int)<((n+1:Nat):Int)by omega),cond_true,zkX,show((n+1:Nat):Int)-1=(n:Int)by omega,wq ((n:Int)) (by omega) (by omega)];rw[y5z (show a.2.2.2.2.2.2.2.2.2.2.1=false from hda),e1,zkH];simp only[zkX];obtain⟨fuel,rfl⟩: ∃m,fuel=m+1:=⟨fuel-1,by omega⟩;show zF yW (fuel+1) (ycg n yK a1 u1)=_;rw[zF];simp only[yW,ycg,yeN,zkX];cases ltb 0 ((n:Nat):Int)
   ·rfl
   ·rw[cond_true,y7g (show a1.2.2.2.2.2.2.2.2.2.2.1=true from hd)]
  ·obtain⟨a',u',e2,d2,g2,g3⟩:=yLM n (k+8) a1 u1 fuel (by omega) (by omega) d1 (y7j h hkp h1 (by omega)) (ySl hkp h.1.1 h1) hd (by omega)
   refine⟨a',u',?_,d2,g2,by rw[g3,yZ4 h1]⟩;rw[← e2,zF];simp only[yW,ycg,yeN,zky (show(0:Int)<((n+1:Nat):Int)by omega),cond_true,zkX,show((n+1:Nat):Int)-1=(n:Int)by omega,wq ((n:Int)) (by omega) (by omega)];rw[y5z (show a.2.2.2.2.2.2.2.2.2.2.1=false from hda),e1,zkH]
theorem ySh (u:dU) (most:Int) (h:yA u) (h0:0≤most) (h1:most≤12): ∃(a:dA) (u':dU),yd4 u most=some ((a,()),(u',()))∧(Nie 9 a∧y6R a)∧3≤a.2.2.1.length∧yA u':=by
 obtain⟨a,u1,e1,⟨w1,w2,w3,w4,w5⟩,d1⟩:=y2W u most h h0 (by omega);obtain⟨x,u2,e2,q3,d2⟩:=yeJ u1 [(-1),0,1,2,3,4,6,8,11,15,20] d1 (by simp);obtain⟨r,u3,e3,q4,d3⟩:=yo u2 3 d2;simp only[List.mem_cons,List.not_mem_nil,or_false]at q3;have:=q4.1; have:=q4.2.1 (by omega);have hg:=yk.1 w1.1;have hcw:Cw 16000 (yw2 a x false):=yzi (a:=a) rfl ⟨w1,w4,w5⟩;have hkp:yH (yw2 a x false):=⟨w2.1,by show -1≤x; omega,by show x≤1000; omega⟩;obtain⟨a',u',e4,d4,g1,g2⟩:=yLM (1+r).toNat 16000 (yw2 a x false) u3 18446744073709551616 (by omega) (by omega) d3 hcw hkp rfl (by omega);rw[show(((1+r).toNat:Nat):Int)=1+r by omega]at e4;unfold yd4;simp only[e1,e2,e3,zkH,wq (1+r) (by omega) (by omega)];refine⟨a',u',?_,g1,by have g2':(a'.2.2.1.length:Int)=a.2.1.1:=g2; omega,d4⟩
 have hu:yw2 a x false=(a.1,a.2.1,a.2.2.1,a.2.2.2.1,a.2.2.2.2.1,a.2.2.2.2.2.1,a.2.2.2.2.2.2.1,a.2.2.2.2.2.2.2.1,a.2.2.2.2.2.2.2.2.1,x,a.2.2.2.2.2.2.2.2.2.2.1,a.2.2.2.2.2.2.2.2.2.2.2):=by
  unfold yw2;rw[show a.2.2.2.2.2.2.2.2.2.2.1=false from w3.1]
 rw[hu]at e4;exact(congrArg (fun z=>zkt z _ _) (show yov (yME (1+r) yK (a.1,a.2.1,a.2.2.1,a.2.2.2.1,a.2.2.2.2.1,a.2.2.2.2.2.1,a.2.2.2.2.2.2.1,a.2.2.2.2.2.2.2.1,a.2.2.2.2.2.2.2.2.1,x,a.2.2.2.2.2.2.2.2.2.2.1,a.2.2.2.2.2.2.2.2.2.2.2) u3)=_ from e4)).trans rfl
def y5d:Code:=(f196.body).getD .skip
def y5s:Env:=zkw TT [(72,ym)] []
theorem yXS:FrOk prog ⟨y5s,10,fun _=>none⟩ y5d:=zkA mixed yd ⟨yv,trivial⟩
abbrev yFg:List Par:= [.pt tU .fz]
abbrev yFC:List OT:= [⟨false,tG,(.pr .fz .fz)⟩]
def yg8 (a0:dU):Option (zaY yFC×zak yFg) :=bnd (yb a0 3) fun r1 =>bnd (yb r1.2.1 8) fun r2 =>some ((((i64.wrap (3+r1.1.1)),(i64.wrap (1+r2.1.1))),()),(r2.2.1,()))
theorem y19:ConOk prog 196 ⟨yFg,yFC,fun x=>yg8 x.1⟩:=zkI (yXS) func196 ntmps196.symm fun x=>by kernel_rfl
def yzg:Con:=⟨yFg,yFC,fun x=>yg8 x.1⟩
theorem yLV:ConOk prog 196 yzg:=y19
theorem y7l (u:List Int×Int×Int) (h:yA u): ∃(g:Int×Int) (u':List Int×Int×Int),yg8 u=some ((g,()),(u',()))∧yf g=true∧yA u':=by
 unfold yg8;obtain⟨r1,u1,e1,q1,d1⟩:=yo u 3 h;obtain⟨r2,u2,e2,q2,d2⟩:=yo u1 8 d1;simp only[e1,e2,zkH];refine⟨_,_,rfl,?_,d2⟩;have:=q1.2.1 (by omega); have:=q2.2.1 (by omega); have:=q1.1; have:=q2.1;rw[wr (by omega) (by omega),wr (by omega) (by omega)];exact yk.2 ⟨⟨by show 3≤3+r1; omega,by show 3+r1≤5; omega⟩,by show 1≤1+r2; omega,by show 1+r2≤8; omega⟩
def y3J:Code:=(f145.body).getD .skip
def y4h:Env:=zkw TT [(72,ym),(80,yae),(83,yji),(196,yzg)] []
theorem yTD:FrOk prog ⟨y4h,39,fun _=>none⟩ y3J:=zkA mixed yd ⟨yv,yaR,yqj,yLV,trivial⟩
abbrev yBS:List Par:= [.pt tU .fz]
abbrev yCs:List OT:= [⟨false,tS,(.pr .fz (.pr .fz (.pr .fz (.pr .fz (.pr .fz (.pr .fz (.pr .fz .fz)))))))⟩]
def yjB (a0:dU):Option (zaY yCs×zak yBS) :=bnd (yg8 a0) fun r1 =>bnd (yb r1.2.1 3) fun r2 =>bnd (yp r2.2.1 ([0,1,2,3,60000]:List Int)) fun r3 =>bnd (yb r3.2.1 r1.1.1.1) fun r4 =>bnd (yp r4.2.1 ([0,1,5,60000]:List Int)) fun r5 =>bnd (yal r5.2.1 2) fun r6 =>bif r6.1.1 then bnd (yb r6.2.1 r1.1.1.1) fun r7 =>bnd (yb r7.2.1 (i64.wrap (r1.1.1.2+1))) fun r8 =>some ((((i64.wrap (1+r2.1.1)),r3.1.1,r4.1.1,r1.1.1.1,r1.1.1.2,r5.1.1,r7.1.1,r8.1.1),()),(r8.2.1,())) else some ((((i64.wrap (1+r2.1.1)),r3.1.1,r4.1.1,r1.1.1.1,r1.1.1.2,r5.1.1,(-1),0),()),(r6.2.1,()))
theorem yZe:ConOk prog 145 ⟨yBS,yCs,fun x=>yjB x.1⟩:=zkI (yTD) func145 ntmps145.symm fun x=>by kernel_rfl
def yIp:Con:=⟨yBS,yCs,fun x=>yjB x.1⟩
theorem y2v:ConOk prog 145 yIp:=yZe
theorem y7o (u:dU) (h:yA u): ∃(s:dS) (u':dU),yjB u=some ((s,()),(u',()))∧yA u':=by
 unfold yjB;obtain⟨g,u1,e1,q1,d1⟩:=y7l u h;have hg:=yk.1 q1;obtain⟨r2,u2,e2,q2,d2⟩:=yo u1 3 d1;obtain⟨r3,u3,e3,_,d3⟩:=yeJ u2 [0,1,2,3,60000] d2 (by simp);obtain⟨r4,u4,e4,_,d4⟩:=yo u3 g.1 d3;obtain⟨r5,u5,e5,_,d5⟩:=yeJ u4 [0,1,5,60000] d4 (by simp);obtain⟨r6,u6,e6,d6⟩:=yKc u5 2 d5;simp only[e1,e2,e3,e4,e5,e6,zkH];cases r6
 ·exact⟨_,_,rfl,d6⟩
 ·obtain⟨r7,u7,e7,_,d7⟩:=yo u6 g.1 d6
  obtain⟨r8,u8,e8,_,d8⟩:=yo u7 (i64.wrap (g.2+1)) d7;simp only[cond_true,e7,e8,zkH];exact⟨_,_,rfl,d8⟩
def yum:Code:=(f154.body).getD .skip
def yEZ:Env:=zkw TT [(72,ym),(120,yvW)] []
theorem yXL:FrOk prog ⟨yEZ,18,fun _=>none⟩ yum:=zkA mixed yd ⟨yv,yKz,trivial⟩
def yJR:Nat→Option Seg:=fun _=>none
def ydA:Shape:=⟨[(0,false,[.ptr 1000000000 0]),(3,false,[.at 800000000]),(4,false,[.int .i64])],[(1000000000,[.fz tY,.int .i64,.int .i64])],[(800000000,tI,.fz)]⟩
def yiS:Shape:=⟨[(0,false,[.ptr 1000000000 0]),(3,false,[.at 800000000]),(4,false,[.int .i64])],[(1000000000,[.fz tY,.int .i64,.int .i64])],[(800000000,tI,.fz)]⟩
def yiD:Shape:=⟨[(3,false,[.at 800000000])],[(1000000000,[.fz tY,.int .i64,.int .i64])],[(800000000,tI,.fz)]⟩
def ynX:Shape:=⟨[],[],[]⟩
abbrev yti (v0:Int) (v1:dU) (v2:List Int):(ydA).X:=((((),()),((),()),(v0,()),()),((v1.1,v1.2.1,v1.2.2,()),()),(v2,()))
abbrev yUj (v0:Int) (v1:dU) (v2:List Int):(yiS).X:=((((),()),((),()),(v0,()),()),((v1.1,v1.2.1,v1.2.2,()),()),(v2,()))
abbrev yT8 (v0:dU) (v1:List Int):(yiD).X:=((((),()),()),((v0.1,v0.2.1,v0.2.2,()),()),(v1,()))
def ytY (v0:Int) (v1:List Int) (v2 v3:Int) (v4:List Int):Option ((ydA).X ⊕ ((yiD).X ⊕ (ynX).X)) :=bif(ltb 0 v0)then bnd (yaz (v1,v2,v3)) fun r3 =>bif(zkl v4.length ([r3.1.1]:List Int).length 8)then some (.inl ((((),()),((),()),((i64.wrap (v0-1)),()),()),((r3.2.1.1,r3.2.1.2.1,r3.2.1.2.2,()),()),((v4++([r3.1.1]:List Int)),()))) else none else some (.inr (.inl ((((),()),()),((v1,v2,v3,()),()),(v4,()))))
def yed (x:(ydA).X):=ytY x.1.2.2.1.1 x.2.1.1.1 x.2.1.1.2.1 x.2.1.1.2.2.1 x.2.2.1
def yGm (x:(yiS).X):(ydA).X:=((((),()),((),()),(x.1.2.2.1.1,()),()),((x.2.1.1.1,x.2.1.1.2.1,x.2.1.1.2.2.1,()),()),(x.2.2.1,()))
def yH4:Code:=(zd7 yum 64 116).getD .skip
theorem yW6:zd7 yum 64 29=some (.block 0 (.loop yH4)):=by kernel_rfl
theorem yZW (x:(ydA).X):zhu ⟨yEZ,18,yJR⟩ 0 yH4 116 ydA yiD ynX x=yed x:=by kernel_rfl
def yGC (x:(yiS).X):Nat:=18446744073709551616
def yuR (x:(yiS).X):Option ((yiD).X ⊕ (ynX).X):=zF yed (yGC x) (yGm x)
def yHt:Seg:=⟨yiS,yiD,ynX,yuR⟩
def y0s:Nat→Option Seg:=fun q=>bif Nat.beq q 29 then some yHt else yJR q
theorem yXM:FrOk prog ⟨yEZ,18,y0s⟩ yum:=(yXL).loop (sg:=yHt) ydA yGm (by decide) yW6 yed yGC (by decide) (fun _=>rfl) (fun x r _ h=>h) yZW
abbrev yFd:List Par:= [.pt tU .fz]
abbrev yFy:List OT:= [⟨false,tL,(.ow .fz)⟩]
def ye6 (a0:dU):Option (zaY yFy×zak yFd) :=bnd (yb a0 5) fun r1 =>zkt (yuR ((((),()),((),()),(r1.1.1,()),()),((r1.2.1.1,r1.2.1.2.1,r1.2.1.2.2,()),()),(([]:List Int),()))) (fun y3 =>some ((y3.2.2.1,()),((y3.2.1.1.1,y3.2.1.1.2.1,y3.2.1.1.2.2.1),()))) (fun y3 =>none)
theorem y11:ConOk prog 154 ⟨yFd,yFy,fun x=>ye6 x.1⟩:=zkI (yXM) func154 ntmps154.symm fun x=>by kernel_rfl
def yqa:Con:=⟨yFd,yFy,fun x=>ye6 x.1⟩
theorem yCO:ConOk prog 154 yqa:=y11
theorem y2S: ∀(n:Nat) (u:dU) (l:List Int) (fuel:Nat),n<fuel→yA u→n+l.length≤1000 →
  ∃(u':dU) (l':List Int),zF yed fuel (yti n u l)=some (.inl (yT8 u' l'))∧yA u'∧l'.length=n+l.length
 | 0,u,l,fuel+1,_,hu,_=>⟨u,l,by simp only[zF,yed,yti,ytY]; rfl,hu,by omega⟩
 | n+1,u,l,fuel+1,hf,hu,hl=>by
  obtain⟨x,u1,e1,_,d1⟩:=y6B u hu;obtain⟨u',l',e2,d2,h2⟩:=y2S n u1 (l++ [x]) fuel (by omega) d1 (by rw[List.length_append]; simp only[List.length_cons,List.length_nil]; omega);refine⟨u',l',?_,d2,by rw[h2,List.length_append]; simp only[List.length_cons,List.length_nil]; omega⟩;rw[← e2,zF]
  simp only[yed,yti,ytY,zky (show(0:Int)<((n+1:Nat):Int)by omega),cond_true,zkX,e1,zkH,show((n+1:Nat):Int)-1=(n:Int)by omega,wq ((n:Int)) (by omega) (by omega),
   zkF.2 (show(l.length+ [x].length)*8≤140737488355328 by simp only[List.length_cons,List.length_nil]; omega)]
theorem yS0 (u:dU) (h:yA u): ∃(l:List Int) (u':dU),ye6 u=some ((l,()),(u',()))∧l.length≤4∧yA u':=by
 obtain⟨r1,u1,e1,q1,d1⟩:=yo u 5 h;have:=q1.1; have:=q1.2.1 (by omega);obtain⟨u',l',e2,d2,h2⟩:=y2S r1.toNat u1 [] 18446744073709551616 (by omega) d1 (by simp only[List.length_nil]; omega);rw[show((r1.toNat:Nat):Int)=r1 by omega]at e2;unfold ye6;simp only[e1,zkH];refine⟨l',u',?_,by rw[h2]; simp only[List.length_nil]; omega,d2⟩;exact(congrArg (fun z=>zkt z _ _) (show yuR (yUj r1 u1 [])=_ from e2)).trans rfl
def y5a:Code:=(f153.body).getD .skip
def y5p:Env:=zkw TT [(72,ym),(80,yae),(154,yqa)] []
theorem yXH:FrOk prog ⟨y5p,23,fun _=>none⟩ y5a:=zkA mixed yd ⟨yv,yaR,yCO,trivial⟩
abbrev yFb:List Par:= [.pt tU .fz]
abbrev yFv:List OT:= [⟨false,tL,(.ow .fz)⟩]
def ye5 (a0:dU):Option (zaY yFv×zak yFb) :=bnd (ye6 a0) fun r1 =>bnd (yb r1.2.1 10) fun r2 =>bif(r2.1.1==0)then bnd (yp r2.2.1 ([(-1),65536]:List Int)) fun r3 =>bif(zkl r1.1.1.length ([r3.1.1]:List Int).length 8)then some (((r1.1.1++([r3.1.1]:List Int)),()),(r3.2.1,())) else none else bif(r2.1.1==1)then bnd (yb r2.2.1 2) fun r4 =>bif(zks (i64.wrap (12+r4.1.1)) 8)then some (((List.replicate ((i64.wrap (12+r4.1.1))).toNat (0:Int)),()),(r4.2.1,())) else none else some ((r1.1.1,()),(r2.2.1,()))
theorem y1X:ConOk prog 153 ⟨yFb,yFv,fun x=>ye5 x.1⟩:=zkI (yXH) func153 ntmps153.symm fun x=>by kernel_rfl
def yzd:Con:=⟨yFb,yFv,fun x=>ye5 x.1⟩
theorem yLS:ConOk prog 153 yzd:=y1X
theorem ySZ (u:dU) (h:yA u): ∃(l:List Int) (u':dU),ye5 u=some ((l,()),(u',()))∧l.length≤14∧yA u':=by
 unfold ye5;obtain⟨l,u1,e1,q1,d1⟩:=yS0 u h;obtain⟨r,u2,e2,q2,d2⟩:=yo u1 10 d1;simp only[e1,e2,zkH];cases(r==0)
 ·cases(r==1)
  ·exact⟨_,_,rfl,by omega,d2⟩
  ·obtain⟨r3,u3,e3,q3,d3⟩:=yo u2 2 d2
   have:=q3.1; have:=q3.2.1 (by omega);have hm:zks (i64.wrap (12+r3)) 8=true:=by rw[wr (by omega) (by omega),zkM]; omega
   simp only[cond_true,cond_false,e3,zkH,hm];exact⟨_,_,rfl,by simp only[List.length_replicate]; rw[wr (by omega) (by omega)]; omega,d3⟩
 ·obtain⟨r3,u3,e3,q3,d3⟩:=yeJ u2 [(-1),65536] d2 (by simp)
  simp only[cond_true,e3,zkH];rw[zkF.2 (show(l.length+ [r3].length)*8≤140737488355328 by simp only[List.length_cons,List.length_nil]; omega)];exact⟨_,_,rfl,by simp only[List.length_append,List.length_cons,List.length_nil]; omega,d3⟩
def yrY:Code:=(f197.body).getD .skip
def yBs:Env:=zkw TT [(72,ym),(112,yqV),(154,yqa),(177,yn7),(224,yqT),(225,yqW)] []
theorem yTB:FrOk prog ⟨yBs,43,fun _=>none⟩ yrY:=zkA mixed yd ⟨yv,yG4,yCO,yzo,yG2,yG5,trivial⟩
def yHJ:Nat→Option Seg:=fun _=>none
def ycP:Shape:=⟨[(0,false,[.ptr 1000000000 0]),(2,false,[.ptr 0 0]),(3,false,[.ptr 4352 0]),(4,false,[.int .i64])],[(0,[.nil,.nil,.bool,.nil]),(4352,[.at 800000000,.at 800000001,.bool,.at 800000002]),(1000000000,[.fz tY,.int .i64,.int .i64])],[(800000000,tL,.fz),(800000001,tW,(.pr .fz .fz)),(800000002,tI,.fz)]⟩
def yhy:Shape:=⟨[(0,false,[.ptr 1000000000 0]),(2,false,[.ptr 0 0]),(3,false,[.ptr 4352 0]),(4,false,[.int .i64])],[(0,[.nil,.nil,.bool,.nil]),(4352,[.at 800000000,.at 800000001,.bool,.at 800000002]),(1000000000,[.fz tY,.int .i64,.int .i64])],[(800000000,tL,.fz),(800000001,tW,(.pr .fz .fz)),(800000002,tI,.fz)]⟩
def yhl:Shape:=⟨[(2,false,[.ptr 0 0]),(3,false,[.ptr 4352 0])],[(0,[.nil,.nil,.bool,.nil]),(4352,[.at 800000000,.at 800000001,.bool,.at 800000002]),(1000000000,[.fz tY,.int .i64,.int .i64])],[(800000000,tL,.fz),(800000001,tW,(.pr .fz .fz)),(800000002,tI,.fz)]⟩
def ylz:Shape:=⟨[],[],[]⟩
abbrev ygL (v0:Int) (v1 v2:dM) (v3:dU):(ycP).X:=((((),()),((),()),((),()),(v0,()),()),(((),(),v1.2.2.1,(),()),((),(),v2.2.2.1,(),()),(v3.1,v3.2.1,v3.2.2,()),()),(v2.1,v2.2.1,v2.2.2.2,()))
abbrev yQ5 (v0:Int) (v1 v2:dM) (v3:dU):(yhy).X:=((((),()),((),()),((),()),(v0,()),()),(((),(),v1.2.2.1,(),()),((),(),v2.2.2.1,(),()),(v3.1,v3.2.1,v3.2.2,()),()),(v2.1,v2.2.1,v2.2.2.2,()))
abbrev yQU (v0 v1:dM) (v2:dU):(yhl).X:=((((),()),((),()),()),(((),(),v0.2.2.1,(),()),((),(),v1.2.2.1,(),()),(v2.1,v2.2.1,v2.2.2,()),()),(v1.1,v1.2.1,v1.2.2.2,()))
def yrH (v0:Int) (v1 v2:Bool) (v3:List Int) (v4 v5:Int) (v6:List (List Int)) (v7:List dW) (v8:List Int):Option ((ycP).X ⊕ ((yhl).X ⊕ (ylz).X)) :=bif(ltb 0 v0)then bnd (yb (v3,v4,v5) 6) fun r11 =>bif(r11.1.1==0)then let r12:=ydT (v6,v7,v2,v8);some (.inl ((((),()),((),()),((),()),((i64.wrap (v0-1)),()),()),(((),(),v1,(),()),((),(),r12.2.2.1,(),()),(r11.2.1.1,r11.2.1.2.1,r11.2.1.2.2,()),()),(r12.1,r12.2.1,r12.2.2.2,()))) else bif(r11.1.1==1)then bnd (yb r11.2.1 (v6.length:Int)) fun r13 =>let r14:=yfT (v6,v7,v2,v8) r13.1.1;some (.inl ((((),()),((),()),((),()),((i64.wrap (v0-1)),()),()),(((),(),v1,(),()),((),(),r14.2.2.1,(),()),(r13.2.1.1,r13.2.1.2.1,r13.2.1.2.2,()),()),(r14.1,r14.2.1,r14.2.2.2,()))) else bnd (yb r11.2.1 (v6.length:Int)) fun r15 =>bnd (ye6 r15.2.1) fun r16 =>let r17:=ydV (v6,v7,v2,v8) r15.1.1 r16.1.1;some (.inl ((((),()),((),()),((),()),((i64.wrap (v0-1)),()),()),(((),(),v1,(),()),((),(),r17.1.2.2.1,(),()),(r16.2.1.1,r16.2.1.2.1,r16.2.1.2.2,()),()),(r17.1.1,r17.1.2.1,r17.1.2.2.2,()))) else some (.inr (.inl ((((),()),((),()),()),(((),(),v1,(),()),((),(),v2,(),()),(v3,v4,v5,()),()),(v6,v7,v8,()))))
def ybE (x:(ycP).X):=yrH x.1.2.2.2.1.1 x.2.1.1.2.2.1 x.2.1.2.1.2.2.1 x.2.1.2.2.1.1 x.2.1.2.2.1.2.1 x.2.1.2.2.1.2.2.1 x.2.2.1 x.2.2.2.1 x.2.2.2.2.1
def yDN (x:(yhy).X):(ycP).X:=((((),()),((),()),((),()),(x.1.2.2.2.1.1,()),()),(((),(),x.2.1.1.2.2.1,(),()),((),(),x.2.1.2.1.2.2.1,(),()),(x.2.1.2.2.1.1,x.2.1.2.2.1.2.1,x.2.1.2.2.1.2.2.1,()),()),(x.2.2.1,x.2.2.2.1,x.2.2.2.2.1,()))
def yFO:Code:=(zd7 yrY 64 116).getD .skip
theorem ySR:zd7 yrY 64 29=some (.block 0 (.loop yFO)):=by kernel_rfl
theorem yVW (x:(ycP).X):zhu ⟨yBs,43,yHJ⟩ 0 yFO 116 ycP yhl ylz x=ybE x:=by kernel_rfl
def yD0 (x:(yhy).X):Nat:=18446744073709551616
def ysM (x:(yhy).X):Option ((yhl).X ⊕ (ylz).X):=zF ybE (yD0 x) (yDN x)
def yEm:Seg:=⟨yhy,yhl,ylz,ysM⟩
def yWu:Nat→Option Seg:=fun q=>bif Nat.beq q 29 then some yEm else yHJ q
theorem yTC:FrOk prog ⟨yBs,43,yWu⟩ yrY:=(yTB).loop (sg:=yEm) ycP yDN (by decide) ySR ybE yD0 (by decide) (fun _=>rfl) (fun x r _ h=>h) yVW
abbrev yBR:List Par:= [.pt tU .fz]
abbrev yCr:List OT:= [⟨false,tM,(.pr (.ow .fz) (.pr (.ow (.pr .fz .fz)) (.pr .fz (.ow .fz))))⟩]
def yjA (a0:dU):Option (zaY yCr×zak yBR) :=bnd (yb a0 5) fun r1 =>let r2:=ybG (i64.wrap (3+r1.1.1));bnd (yb r1.2.1 8) fun r3 =>zkt (ysM ((((),()),((),()),((),()),(r3.1.1,()),()),(((),(),false,(),()),((),(),r2.2.2.1,(),()),(r3.2.1.1,r3.2.1.2.1,r3.2.1.2.2,()),()),(r2.1,r2.2.1,r2.2.2.2,()))) (fun y17 =>some (((y17.2.2.1,y17.2.2.2.1,y17.2.1.2.1.2.2.1,y17.2.2.2.2.1),()),((y17.2.1.2.2.1.1,y17.2.1.2.2.1.2.1,y17.2.1.2.2.1.2.2.1),()))) (fun y17 =>none)
theorem yZd:ConOk prog 197 ⟨yBR,yCr,fun x=>yjA x.1⟩:=zkI (yTC) func197 ntmps197.symm fun x=>by kernel_rfl
def yIo:Con:=⟨yBR,yCr,fun x=>yjA x.1⟩
theorem y2u:ConOk prog 197 yIo:=yZd
theorem y2U: ∀(n:Nat) (m:dM) (u:dU) (fuel:Nat),n<fuel→n≤1000→yA u→yu m=true →
  ∃(m':dM) (u':dU),zF ybE fuel (ygL n yc m u)=some (.inl (yQU yc m' u'))∧yA u'∧yu m'=true
 | 0,m,u,fuel+1,_,_,hu,h=>⟨m,u,by simp only[zF,ybE,ygL,yrH]; rfl,hu,h⟩
 | n+1,m,u,fuel+1,hf,hn,hu,h=>by
  have hlen:=(yay h).2.2.2
  have key: ∃(m1:dM) (u1:dU),ybE (ygL ((n+1:Nat):Int) yc m u)=some (.inl (ygL (n:Int) yc m1 u1))∧yA u1∧yu m1=true:=by
   obtain⟨r,u1,e1,_,d1⟩:=yo u 6 hu;simp only[ybE,ygL,yrH,zky (show(0:Int)<((n+1:Nat):Int)by omega),cond_true,zkX,e1,zkH,show((n+1:Nat):Int)-1=(n:Int)by omega,wq ((n:Int)) (by omega) (by omega)];cases(r==0)
   ·obtain⟨i,u2,e2,q2,d2⟩:=yo u1 (m.1.length:Int) d1
    cases(r==1)
    ·obtain⟨s,u3,e3,_,d3⟩:=yS0 u2 d2
     simp only[cond_false,e2,zkH,e3,ydV];exact⟨(yf9 m i s).1,u3,rfl,d3,yV4 i s h⟩
    ·simp only[cond_false,cond_true,e2,zkH,yfT]
     exact⟨spoil m i,u2,rfl,d2,yLF i h⟩
   ·simp only[cond_true,ydT]
    exact⟨yeW m,u1,rfl,d1,yS1 h⟩
  obtain⟨m1,u1,e1,d1,h1⟩:=key;obtain⟨m',u',e2,d2,h2⟩:=y2U n m1 u1 fuel (by omega) (by omega) d1 h1;exact⟨m',u',by rw[← e2,zF,e1],d2,h2⟩
theorem y7m (u:dU) (h:yA u): ∃(m:dM) (u':dU),yjA u=some ((m,()),(u',()))∧yu m=true∧yA u':=by
 obtain⟨r1,u1,e1,q1,d1⟩:=yo u 5 h;obtain⟨r3,u3,e3,q3,d3⟩:=yo u1 8 d1;have:=q1.1; have:=q1.2.1 (by omega); have:=q3.1; have:=q3.2.1 (by omega);obtain⟨m',u',e4,d4,h4⟩:=y2U r3.toNat (ycB (3+r1)) u3 18446744073709551616 (by omega) (by omega) d3 (yIJ (by omega) (by omega));rw[show((r3.toNat:Nat):Int)=r3 by omega]at e4;unfold yjA;simp only[e1,e3,zkH,wq (3+r1) (by omega) (by omega),ybG];refine⟨m',u',?_,h4,d4⟩;exact(congrArg (fun z=>zkt z _ _) (show ysM (yQ5 r3 yc (ycB (3+r1)) u3)=_ from e4)).trans rfl
def yun:Code:=(f146.body).getD .skip
def yE0:Env:=zkw TT [(72,ym),(80,yae),(143,ylH),(153,yzd),(197,yIo)] [(25088,(.pr .fz .fz)),(53440,(.pr .fz .fz)),(61440,.fz)]
theorem yXN:FrOk prog ⟨yE0,62,fun _=>none⟩ yun:=zkA mixed yd ⟨yv,yaR,ywD,yLS,y2u,trivial⟩
def yJS:Nat→Option Seg:=fun _=>none
def ybw:Shape:=⟨[(0,false,[.ptr 1000000000 0]),(2,false,[.ptr 0 0]),(3,false,[.ptr 4224 0])],[(0,[.nil,.nil,.bool,.nil]),(4224,[.at 800000000,.at 800000001,.bool,.at 800000002]),(1000000000,[.fz tY,.int .i64,.int .i64])],[(800000000,tL,.fz),(800000001,tW,(.pr .fz .fz)),(800000002,tI,.fz)]⟩
def yfz:Shape:=⟨[(0,false,[.ptr 1000000000 0]),(2,false,[.ptr 0 0]),(3,false,[.ptr 4224 0])],[(0,[.nil,.nil,.bool,.nil]),(4224,[.at 800000000,.at 800000001,.bool,.at 800000002]),(1000000000,[.fz tY,.int .i64,.int .i64])],[(800000000,tL,.fz),(800000001,tW,(.pr .fz .fz)),(800000002,tI,.fz)]⟩
def yfo:Shape:=⟨[(2,false,[.ptr 0 0]),(3,false,[.ptr 4224 0])],[(0,[.nil,.nil,.bool,.nil]),(4224,[.at 800000000,.at 800000001,.bool,.at 800000002]),(1000000000,[.fz tY,.int .i64,.int .i64])],[(800000000,tL,.fz),(800000001,tW,(.pr .fz .fz)),(800000002,tI,.fz)]⟩
def yjc:Shape:=⟨[],[],[]⟩
abbrev yh6 (v0 v1:dM) (v2:dU):(ybw).X:=((((),()),((),()),((),()),()),(((),(),v0.2.2.1,(),()),((),(),v1.2.2.1,(),()),(v2.1,v2.2.1,v2.2.2,()),()),(v1.1,v1.2.1,v1.2.2.2,()))
abbrev yMD (v0 v1:dM) (v2:dU):(yfz).X:=((((),()),((),()),((),()),()),(((),(),v0.2.2.1,(),()),((),(),v1.2.2.1,(),()),(v2.1,v2.2.1,v2.2.2,()),()),(v1.1,v1.2.1,v1.2.2.2,()))
abbrev yMs (v0 v1:dM) (v2:dU):(yfo).X:=((((),()),((),()),()),(((),(),v0.2.2.1,(),()),((),(),v1.2.2.1,(),()),(v2.1,v2.2.1,v2.2.2,()),()),(v1.1,v1.2.1,v1.2.2.2,()))
def yh7 (v0 v1:Bool) (v2:List Int) (v3 v4:Int) (v5:List (List Int)) (v6:List dW) (v7:List Int):Option ((ybw).X ⊕ ((yfo).X ⊕ (yjc).X)) :=bnd (yb (v2,v3,v4) 3) fun r9 =>bif(ltb (v6.length:Int) (i64.wrap (59+r9.1.1)))then bif(zkl v6.length ([(0,[])]:List dW).length 32)then some (.inl ((((),()),((),()),((),()),()),(((),(),v0,(),()),((),(),v1,(),()),(r9.2.1.1,r9.2.1.2.1,r9.2.1.2.2,()),()),(v5,(v6++([(0,[])]:List dW)),v7,()))) else none else some (.inr (.inl ((((),()),((),()),()),(((),(),v0,(),()),((),(),v1,(),()),(r9.2.1.1,r9.2.1.2.1,r9.2.1.2.2,()),()),(v5,v6,v7,()))))
def yaJ (x:(ybw).X):=yh7 x.2.1.1.2.2.1 x.2.1.2.1.2.2.1 x.2.1.2.2.1.1 x.2.1.2.2.1.2.1 x.2.1.2.2.1.2.2.1 x.2.2.1 x.2.2.2.1 x.2.2.2.2.1
def yxG (x:(yfz).X):(ybw).X:=((((),()),((),()),((),()),()),(((),(),x.2.1.1.2.2.1,(),()),((),(),x.2.1.2.1.2.2.1,(),()),(x.2.1.2.2.1.1,x.2.1.2.2.1.2.1,x.2.1.2.2.1.2.2.1,()),()),(x.2.2.1,x.2.2.2.1,x.2.2.2.2.1,()))
def yAe:Code:=(zd7 yun 64 241656).getD .skip
theorem yNm:zd7 yun 64 60414=some (.block 1 (.loop yAe)):=by kernel_rfl
theorem yPf (x:(ybw).X):zhu ⟨yE0,62,yJS⟩ 1 yAe 241656 ybw yfo yjc x=yaJ x:=by kernel_rfl
def yxS (x:(yfz).X):Nat:=18446744073709551616
def you (x:(yfz).X):Option ((yfo).X ⊕ (yjc).X):=zF yaJ (yxS x) (yxG x)
def yyd:Seg:=⟨yfz,yfo,yjc,you⟩
def y0t:Nat→Option Seg:=fun q=>bif Nat.beq q 60414 then some yyd else yJS q
theorem yXO:FrOk prog ⟨yE0,62,y0t⟩ yun:=(yXN).loop (sg:=yyd) ybw yxG (by decide) yNm yaJ yxS (by decide) (fun _=>rfl) (fun x r _ h=>h) yPf
abbrev yFe:List Par:= [.pt tU .fz]
abbrev yFz:List OT:= [⟨false,tM,(.pr (.ow .fz) (.pr (.ow (.pr .fz .fz)) (.pr .fz (.ow .fz))))⟩]
def yg7 (a0:dU):Option (zaY yFz×zak yFe) :=bnd (yjA a0) fun r1 =>bnd (yb r1.2.1 14) fun r2 =>bif(r2.1.1==0)then bnd (ye5 r2.2.1) fun r3 =>bif(inb 0 r1.1.1.1.length)then some ((((r1.1.1.1.set (0:Int).toNat r3.1.1),r1.1.1.2),()),(r3.2.1,())) else none else bif(r2.1.1==1)then bnd (yp r2.2.1 ([(-1),0,9]:List Int)) fun r4 =>bnd (ye5 r4.2.1) fun r5 =>bif(zkl r1.1.1.2.1.length ([(r4.1.1,r5.1.1)]:List dW).length 32)then some (((r1.1.1.1,(r1.1.1.2.1++([(r4.1.1,r5.1.1)]:List dW)),r1.1.1.2.2),()),(r5.2.1,())) else none else bif(r2.1.1==2)then bnd (yp r2.2.1 ([(-1),0,9]:List Int)) fun r6 =>bif(zkl r1.1.1.2.2.2.length ([r6.1.1]:List Int).length 8)then some (((r1.1.1.1,r1.1.1.2.1,r1.1.1.2.2.1,(r1.1.1.2.2.2++([r6.1.1]:List Int))),()),(r6.2.1,())) else none else bif(r2.1.1==3)then let r7:=yg1 r1.1.1;some ((r7,()),(r2.2.1,())) else bif(r2.1.1==4)then zkt (you ((((),()),((),()),((),()),()),(((),(),false,(),()),((),(),r1.1.1.2.2.1,(),()),(r2.2.1.1,r2.2.1.2.1,r2.2.1.2.2,()),()),(r1.1.1.1,r1.1.1.2.1,r1.1.1.2.2.2,()))) (fun y9 =>some (((y9.2.2.1,y9.2.2.2.1,y9.2.1.2.1.2.2.1,y9.2.2.2.2.1),()),((y9.2.1.2.2.1.1,y9.2.1.2.2.1.2.1,y9.2.1.2.2.1.2.2.1),()))) (fun y9 =>none) else bif(r2.1.1==5)then some (((([]:List (List Int)),r1.1.1.2),()),(r2.2.1,())) else some ((r1.1.1,()),(r2.2.1,()))
theorem y13:ConOk prog 146 ⟨yFe,yFz,fun x=>yg7 x.1⟩:=zkI (yXO) func146 ntmps146.symm fun x=>by kernel_rfl
def yze:Con:=⟨yFe,yFz,fun x=>yg7 x.1⟩
theorem yLT:ConOk prog 146 yze:=y13
theorem y2T: ∀(n:Nat) (m:dM) (u:dU) (fuel:Nat),n<fuel→yA u→m.2.1.length+n=62∨(n=0∧61≤m.2.1.length∧m.2.1.length≤100) →
  ∃(m':dM) (u':dU),zF yaJ fuel (yh6 yc m u)=some (.inl (yMs yc m' u'))∧yA u'∧m'.1=m.1∧m'.2.1.length≤100
 | 0,m,u,fuel+1,_,hu,hn=>by
  obtain⟨r,u1,e1,q1,d1⟩:=yo u 3 hu;have:=q1.1; have:=q1.2.1 (by omega);refine⟨m,u1,?_,d1,rfl,by omega⟩;rw[zF];simp only[yaJ,yh6,yh7,zkX,e1,zkH,wq (59+r) (by omega) (by omega),zk3 (show 59+r≤(m.2.1.length:Int)by omega),cond_false]
 | n+1,m,u,fuel+1,hf,hu,hn=>by
  obtain⟨r,u1,e1,q1,d1⟩:=yo u 3 hu;have:=q1.1; have:=q1.2.1 (by omega);by_cases hlt:(m.2.1.length:Int)<59+r
  ·obtain⟨m',u',e2,d2,l2⟩:=y2T n (m.1,m.2.1++ [(0,[])],m.2.2) u1 fuel (by omega) d1 (.inl (by
    show(m.2.1++ [((0:Int),([]:List Int))]).length+n=62
    rw[List.length_append]; simp only[List.length_cons,List.length_nil]; omega))
   refine⟨m',u',?_,d2,l2⟩;rw[← e2,zF];simp only[yaJ,yh6,yh7,zkX,e1,zkH,wq (59+r) (by omega) (by omega),zky hlt,cond_true,zkF.2 (show(m.2.1.length+ [((0:Int),([]:List Int))].length)*32≤140737488355328 by simp only[List.length_cons,List.length_nil]; omega)]
  ·refine⟨m,u1,?_,d1,rfl,by omega⟩
   rw[zF];simp only[yaJ,yh6,yh7,zkX,e1,zkH,wq (59+r) (by omega) (by omega),zk3 (show 59+r≤(m.2.1.length:Int)by omega),cond_false]
theorem y5F (u:dU) (h:yA u): ∃(m:dM) (u':dU),yg7 u=some ((m,()),(u',()))∧(m.1.length≤100∧m.2.1.length≤100)∧yA u':=by
 unfold yg7;obtain⟨m,u1,e1,q1,d1⟩:=y7m u h;obtain⟨r,u2,e2,_,d2⟩:=yo u1 14 d1;obtain⟨h1,h2,h3,h4,h5,h6⟩:=yay q1;rw[yoI]at h3;have hlen:=yPp h3.2 (lo:=0) (n:=m.1.length) h3.1 (by omega);simp only[e1,e2,zkH];cases(r==0)
 ·cases(r==1)
  ·cases(r==2)
   ·cases(r==3)
    ·cases(r==4)
     ·cases(r==5)
      ·exact⟨_,_,rfl,by omega,d2⟩
      ·exact⟨_,_,rfl,⟨Nat.zero_le _,by show m.2.1.length≤100; omega⟩,d2⟩
     ·obtain⟨m',u',e3,d3,l3,l4⟩:=y2T (62-m.2.1.length) m u2 18446744073709551616 (by omega) d2 (.inl (by omega))
      simp only[cond_true,cond_false];refine⟨m',u',?_,⟨by rw[l3]; omega,l4⟩,d3⟩;exact(congrArg (fun z=>zkt z _ _) (show you (yMD yc m u2)=_ from e3)).trans rfl
    ·exact⟨_,_,rfl,⟨by show m.1.length≤100; omega,Nat.zero_le _⟩,d2⟩
   ·obtain⟨x,u3,e3,_,d3⟩:=yeJ u2 [(-1),0,9] d2 (by simp)
    simp only[cond_true,cond_false,e3,zkH];rw[zkF.2 (show(m.2.2.2.length+ [x].length)*8≤140737488355328 by simp only[List.length_cons,List.length_nil]; omega)];exact⟨_,_,rfl,⟨by show m.1.length≤100; omega,by show m.2.1.length≤100; omega⟩,d3⟩
  ·obtain⟨x,u3,e3,_,d3⟩:=yeJ u2 [(-1),0,9] d2 (by simp)
   obtain⟨l,u4,e4,_,d4⟩:=ySZ u3 d3;simp only[cond_true,cond_false,e3,zkH,e4];rw[zkF.2 (show(m.2.1.length+ [(x,l)].length)*32≤140737488355328 by simp only[List.length_cons,List.length_nil]; omega)];exact⟨_,_,rfl,⟨by show m.1.length≤100; omega,by show(m.2.1++ [(x,l)]).length≤100; rw[List.length_append]; simp only[List.length_cons,List.length_nil]; omega⟩,d4⟩
 ·obtain⟨l,u3,e3,_,d3⟩:=ySZ u2 d2
  simp only[cond_true,e3,zkH];rw[show inb 0 m.1.length=true from zkR (i:=0) (by omega)];exact⟨_,_,rfl,⟨by show(m.1.set _ _).length≤100; rw[List.length_set]; omega,by show m.2.1.length≤100; omega⟩,d3⟩
def yr6:Code:=(f70.body).getD .skip
def yBA:Env:=zkw TT [(72,ym),(93,yqY),(143,ylH),(144,yj8),(145,yIp),(146,yze)] []
theorem yT0:FrOk prog ⟨yBA,82,fun _=>none⟩ yr6:=zkA mixed yd ⟨yv,yG7,ywD,ytr,y2v,yLT,trivial⟩
def yHS:Nat→Option Seg:=fun _=>none
def ydK:Shape:=⟨[(5,false,[.at 800000000])],[(1000000000,[.fz tY,.int .i64,.int .i64])],[(800000000,tM,.fz)]⟩
def ygU:Shape:=⟨[(5,false,[.at 800000000])],[(1000000000,[.fz tY,.int .i64,.int .i64])],[(800000000,tM,.fz)]⟩
def ylF:Shape:=⟨[],[],[]⟩
abbrev yKn (v0:dU) (v1:List dM):(ydK).X:=((((),()),()),((v0.1,v0.2.1,v0.2.2,()),()),(v1,()))
abbrev yKk (v0:dU) (v1:List dM):(ygU).X:=((((),()),()),((v0.1,v0.2.1,v0.2.2,()),()),(v1,()))
def ylc (v0:List Int) (v1 v2:Int) (v3:List dM):Option ((ygU).X ⊕ (ylF).X) :=bif(inb 0 v3.length)then bif(inb 1 v3.length)then bif(inb 0 v3.length)then let r14:=(v3.set (0:Int).toNat ((nth v3 1 ([],[],false,[])).1,((nth v3 1 ([],[],false,[])).2).1,(((nth v3 1 ([],[],false,[])).2).2)));bif(inb 1 r14.length)then let r15:=(r14.set (1:Int).toNat ((nth v3 0 ([],[],false,[])).1,((nth v3 0 ([],[],false,[])).2).1,(((nth v3 0 ([],[],false,[])).2).2)));some (.inl ((((),()),()),((v0,v1,v2,()),()),(r15,()))) else none else none else none else none
def ygT (x:(ydK).X):=ylc x.2.1.1.1 x.2.1.1.2.1 x.2.1.1.2.2.1 x.2.2.1
def yuh:Seg:=⟨ydK,ygU,ylF,ygT⟩
def yvK:Code:=(zd7 yr6 64 503806).getD .skip
theorem yKX:zd7 yr6 64 503806=some yvK:=by kernel_rfl
theorem yLC (x:(ydK).X):ziM ⟨yBA,82,yHS⟩ yvK 503806 ydK ygU ylF x=ygT x:=by kernel_rfl
def yWD:Nat→Option Seg:=fun q=>bif Nat.beq q 503806 then some yuh else yHS q
theorem yT1:FrOk prog ⟨yBA,82,yWD⟩ yr6:=(yT0).part (sg:=yuh) (by decide) yKX yLC
abbrev yBX:List Par:= [.pt tU .fz,.rd tI]
abbrev yCC:List OT:= [⟨false,tMs,(.ow .fz)⟩]
def ydZ (a0:dU) (a1:Int):Option (zaY yCC×zak yBX) :=bnd (yd4 a0 a1) fun r1 =>bnd (yb r1.2.1 (r1.1.1.2.2.1.length:Int)) fun r2 =>bnd (yb r2.2.1 14) fun r3 =>bif(r3.1.1==0)then bif(inb r2.1.1 r1.1.1.2.2.1.length)then let r4:=yg1 ((nth r1.1.1.2.2.1 r2.1.1 ([],[],false,[])).1,((nth r1.1.1.2.2.1 r2.1.1 ([],[],false,[])).2).1,(((nth r1.1.1.2.2.1 r2.1.1 ([],[],false,[])).2).2));bif(inb r2.1.1 r1.1.1.2.2.1.length)then some (((r1.1.1.2.2.1.set (r2.1.1).toNat r4),()),(r3.2.1,())) else none else none else bif(r3.1.1==1)then bif(zj0 1 (r1.1.1.2.2.1.length:Int) r1.1.1.2.2.1.length)then some ((((r1.1.1.2.2.1.drop (1:Int).toNat).take ((r1.1.1.2.2.1.length:Int)-1).toNat),()),(r3.2.1,())) else none else bif(r3.1.1==2)then bif(inb r2.1.1 r1.1.1.2.2.1.length)then bnd (yb r3.2.1 2) fun r5 =>bnd (yjB r5.2.1) fun r6 =>let r7:=yJ r6.1.1;bif(inb r5.1.1 ((nth r1.1.1.2.2.1 r2.1.1 ([],[],false,[])).1).length)then let r8:=(r1.1.1.2.2.1.set (r2.1.1).toNat ((((nth r1.1.1.2.2.1 r2.1.1 ([],[],false,[])).1).set (r5.1.1).toNat r7),((nth r1.1.1.2.2.1 r2.1.1 ([],[],false,[])).2).1,(((nth r1.1.1.2.2.1 r2.1.1 ([],[],false,[])).2).2).1,(((nth r1.1.1.2.2.1 r2.1.1 ([],[],false,[])).2).2).2));some ((r8,()),(r6.2.1,())) else none else none else bif(r3.1.1==3)then bif(inb r2.1.1 r1.1.1.2.2.1.length)then bif(inb 0 ((nth r1.1.1.2.2.1 r2.1.1 ([],[],false,[])).1).length)then let r9:=(r1.1.1.2.2.1.set (r2.1.1).toNat ((((nth r1.1.1.2.2.1 r2.1.1 ([],[],false,[])).1).set (0:Int).toNat ([]:List Int)),((nth r1.1.1.2.2.1 r2.1.1 ([],[],false,[])).2).1,(((nth r1.1.1.2.2.1 r2.1.1 ([],[],false,[])).2).2).1,(((nth r1.1.1.2.2.1 r2.1.1 ([],[],false,[])).2).2).2));bif(inb r2.1.1 r9.length)then bif(inb 1 ((nth r9 r2.1.1 ([],[],false,[])).1).length)then let r10:=(r9.set (r2.1.1).toNat ((((nth r9 r2.1.1 ([],[],false,[])).1).set (1:Int).toNat ([]:List Int)),((nth r9 r2.1.1 ([],[],false,[])).2).1,(((nth r9 r2.1.1 ([],[],false,[])).2).2).1,(((nth r9 r2.1.1 ([],[],false,[])).2).2).2));some ((r10,()),(r3.2.1,())) else none else none else none else none else bif(r3.1.1==4)then bnd (yg7 r3.2.1) fun r11 =>bif(inb r2.1.1 r1.1.1.2.2.1.length)then some (((r1.1.1.2.2.1.set (r2.1.1).toNat r11.1.1),()),(r11.2.1,())) else none else bif(r3.1.1==5)then zkt (ygT ((((),()),()),((r3.2.1.1,r3.2.1.2.1,r3.2.1.2.2,()),()),(r1.1.1.2.2.1,()))) (fun y15 =>some ((y15.2.2.1,()),((y15.2.1.1.1,y15.2.1.1.2.1,y15.2.1.1.2.2.1),()))) (fun y15 =>none) else some ((r1.1.1.2.2.1,()),(r3.2.1,()))
theorem yZs:ConOk prog 70 ⟨yBX,yCC,fun x=>ydZ x.1 x.2.1⟩:=zkI (yT1) func70 ntmps70.symm fun x=>by kernel_rfl
def yob:Con:=⟨yBX,yCC,fun x=>ydZ x.1 x.2.1⟩
theorem yzs:ConOk prog 70 yob:=yZs
def LM (l:List dM):Prop:=l.length≤5∧ ∀m∈l,m.1.length≤1000∧m.2.1.length≤1000
theorem y8d {l:List dM} (h:l.length≤5) (hm:yap l):LM l:=⟨h,fun m hm2=>by
 obtain⟨_,_,_,_,h5,h6⟩:=yay (hm m hm2)
 omega⟩
theorem yGL {l:List dM} {m:dM} {k:Nat} (h:LM l) (h1:m.1.length≤1000) (h2:m.2.1.length≤1000):LM (l.set k m):=⟨by rw[List.length_set]; exact h.1,fun x hx=>by
 rcases List.mem_or_eq_of_mem_set hx with g | rfl
 ·exact h.2 x g
 ·exact⟨h1,h2⟩⟩
theorem yNs (u:dU) (most:Int) (h:yA u) (h0:0≤most) (h1:most≤12): ∃(l:List dM) (u':dU),ydZ u most=some ((l,()),(u',()))∧LM l∧yA u':=by
 unfold ydZ;obtain⟨a,u1,e1,⟨q1,qs⟩,q2,d1⟩:=ySh u most h h0 h1;obtain⟨k,u2,e2,q3,d2⟩:=yo u1 (a.2.2.1.length:Int) d1;obtain⟨r,u3,e3,_,d3⟩:=yo u2 14 d2;have hk:inb k a.2.2.1.length=true:=zj6.2 ⟨q3.1,q3.2.1 (by omega)⟩;have hL:LM a.2.2.1:=y8d q1.1 q1.2.1;have hm:=ye1 (P:=fun m:dM=>yu m=true) (d:=yc) hk q1.2.1;obtain⟨_,_,_,p4,p5,p6⟩:=yay hm;simp only[e1,e2,e3,zkH,hk];cases(r==0)
 ·cases(r==1)
  ·cases(r==2)
   ·cases(r==3)
    ·cases(r==4)
     ·cases(r==5)
      ·exact⟨_,_,rfl,hL,d3⟩
      ·simp only[cond_true,cond_false]
       have hF:ygT (yKn u3 a.2.2.1)=some (.inl (yKk u3 ((a.2.2.1.set 0 (nth a.2.2.1 1 yc)).set 1 (nth a.2.2.1 0 yc)))):=by
        show ylc _ _ _ _=_;unfold ylc;rw[zj6.2 (show(0:Int)≤0∧(0:Int)<(a.2.2.1.length:Int)by omega),zj6.2 (show(0:Int)≤1∧(1:Int)<(a.2.2.1.length:Int)by omega)];simp only[cond_true];rw[zj6.2 (show(0:Int)≤1∧(1:Int)<((a.2.2.1.set (0:Int).toNat _).length:Int)by rw[List.length_set]; omega)];rfl
       have hn1:=ye1 (P:=fun m:dM=>m.1.length≤1000∧m.2.1.length≤1000) (d:=yc) (i:=1) (zj6.2 (show(0:Int)≤1∧(1:Int)<(a.2.2.1.length:Int)by omega)) hL.2;have hn0:=ye1 (P:=fun m:dM=>m.1.length≤1000∧m.2.1.length≤1000) (d:=yc) (i:=0) (zj6.2 (show(0:Int)≤0∧(0:Int)<(a.2.2.1.length:Int)by omega)) hL.2;refine⟨_,_,(congrArg (fun z=>zkt z _ _) hF).trans rfl,yGL (yGL hL hn1.1 hn1.2) hn0.1 hn0.2,d3⟩
     ·obtain⟨x,u4,e4,q4,d4⟩:=y5F u3 d3
      simp only[cond_true,cond_false,e4,zkH];exact⟨_,_,rfl,yGL hL (by omega) (by omega),d4⟩
    ·have hs2:=ye1 (P:=fun m:dM=>2≤m.1.length) (d:=yc) hk qs
     have hki:=zj6.1 hk
     have hset: ∀M:dM,nth (a.2.2.1.set k.toNat M) k yc=M:=fun M=>by
      unfold nth;rw[zkJ (by rw[List.length_set]; omega),List.getElem_set_self]
     simp only[cond_true,cond_false];rw[zj6.2 (show(0:Int)≤0∧(0:Int)<((nth a.2.2.1 k yc).1.length:Int)by omega)];simp only[cond_true,hset];rw[zj6.2 (show 0≤k∧k<((a.2.2.1.set k.toNat (((nth a.2.2.1 k yc).1.set (0:Int).toNat []),(nth a.2.2.1 k yc).2)).length:Int)by rw[List.length_set]; omega)];simp only[cond_true];rw[zj6.2 (show(0:Int)≤1∧(1:Int)<((((nth a.2.2.1 k yc).1.set (0:Int).toNat [])).length:Int)by rw[List.length_set]; omega)];refine⟨_,_,rfl,yGL (yGL hL ?_ ?_) ?_ ?_,d3⟩
     ·show((nth a.2.2.1 k yc).1.set _ _).length≤1000; rw[List.length_set]; omega
     ·show(nth a.2.2.1 k yc).2.1.length≤1000; omega
     ·show(((nth a.2.2.1 k yc).1.set _ _).set _ _).length≤1000; rw[List.length_set,List.length_set]; omega
     ·show(nth a.2.2.1 k yc).2.1.length≤1000; omega
   ·have hs2:=ye1 (P:=fun m:dM=>2≤m.1.length) (d:=yc) hk qs
    obtain⟨x,u4,e4,q4,d4⟩:=yo u3 2 d3;obtain⟨z,u5,e5,d5⟩:=y7o u4 d4;have:=q4.1; have:=q4.2.1 (by omega);simp only[cond_true,cond_false,e4,e5,zkH];rw[zj6.2 (show 0≤x∧x<((nth a.2.2.1 k yc).1.length:Int)by omega)];refine⟨_,_,rfl,yGL hL ?_ ?_,d5⟩
    ·show((nth a.2.2.1 k yc).1.set _ _).length≤1000; rw[List.length_set]; omega
    ·show(nth a.2.2.1 k yc).2.1.length≤1000; omega
  ·rw[zkz.2 (show(0:Int)≤1∧(1:Int)≤(a.2.2.1.length:Int)∧(a.2.2.1.length:Int)≤(a.2.2.1.length:Int)by omega)]
   simp only[cond_true,cond_false];refine⟨_,_,rfl,⟨?_,fun m hm=>hL.2 m (List.mem_of_mem_drop (List.mem_of_mem_take hm))⟩,d3⟩;rw[List.length_take,List.length_drop];have:=hL.1;omega
 ·simp only[cond_true]
  exact⟨_,_,rfl,yGL hL (by show(nth a.2.2.1 k yc).1.length≤1000; omega) (Nat.zero_le _),d3⟩
theorem y1a {l:List dM} (id:Int) (h:LM l):yfO (yca l id).1:=by
 unfold yca;cases((yan l id).2&&((l.length:Int)==(yan l id).1.2.2.2.1&&yE (yJ0 l id)))
 ·exact⟨Nat.zero_le _,fun m hm=>absurd hm List.not_mem_nil,Nat.zero_le _⟩
 ·refine⟨by show l.length≤_; have:=h.1; omega,fun m hm=> ?_,Nat.zero_le _⟩
  have:=h.2 m hm;omega
theorem yLa {a:dA} (h:yfO a):yfO (ymD a):=by
 cases ha:yE a
 ·unfold ymD; rw[ha]; exact h
 ·exact y5N (y6n (yUw ha)) h.2.2
theorem y8t {a:dA} (f:Int) (b:Bool) (h:yfO a):yfO (yw2 a f b):=h
theorem y7X (b:Nat→Bool) (c:List dW) (l:List (List Int)):(ybI b c l).length=l.length:=by
 unfold ybI
 have: ∀n,((List.range n).foldl (ybz b c) l).length=l.length:=by
  intro n
  induction n with
  | zero=>rfl
  | succ n ih =>
   rw[List.range_succ,List.foldl_append];show(ybz b c _ n).length=_;unfold ybz;cases b n
   ·exact ih
   ·rw[cond_true,List.length_set]; exact ih
 exact this _
theorem y6F {l:List dM} (ks:List Int) (h:LM l):LM (ybc l ks):=by
 unfold ybc;refine⟨by rw[List.length_map,List.length_range]; exact h.1,fun m hm=> ?_⟩;obtain⟨i,hi,rfl⟩:=List.mem_map.1 hm;have hi:=List.mem_range.1 hi;have hn:=ye1 (P:=fun m:dM=>m.1.length≤1000∧m.2.1.length≤1000) (d:=yc) (zkR hi) h.2;unfold yfQ;cases yu (nth l i yc)
 ·exact hn
 ·exact⟨by show(ybI _ _ _).length≤1000; rw[y7X]; exact hn.1,Nat.zero_le _⟩
theorem y6m {l:List dM} (ks:List Int) (id f:Int) (h:LM l):yfO (yzL l ks id f).1:=by
 have hl:=y1a id (y6F ks h);unfold yzL;cases(yca (ybc l ks) id).2
 ·exact⟨Nat.zero_le _,fun m hm=>absurd hm List.not_mem_nil,Nat.zero_le _⟩
 ·cases(leb (-1) f&&leb f 1000)
  ·exact yLa hl
  ·exact yLa (y8t _ _ hl)
def y3H:Code:=(f71.body).getD .skip
def y4f:Env:=zkw TT [] []
theorem yTw:FrOk prog ⟨y4f,15,fun _=>none⟩ y3H:=zkA mixed yd trivial
abbrev yBP:List Par:= [.rd tYs,.rd tI]
abbrev yCo:List OT:= [⟨false,tI,.fz⟩]
def yJe (a0:List Int) (a1:Int):Option (zaY yCo×zak yBP) :=bif(ltb a1 (i64.wrap (3+(i64.wrap ((a0.length:Int).tdiv 12)))))then some ((a1,()),()) else some (((i64.wrap (3+(i64.wrap ((a0.length:Int).tdiv 12)))),()),())
theorem yZa:ConOk prog 71 ⟨yBP,yCo,fun x=>yJe x.1 x.2.1⟩:=zkI (yTw) func71 ntmps71.symm fun x=>by kernel_rfl
def yas (a0:List Int) (a1:Int):Int :=bif(ltb a1 (i64.wrap (3+(i64.wrap ((a0.length:Int).tdiv 12)))))then a1 else (i64.wrap (3+(i64.wrap ((a0.length:Int).tdiv 12))))
def ycc:Con:=⟨yBP,yCo,fun x=>(fun n=>some ((n,()),())) (yas x.1 x.2.1)⟩
theorem y1y (a0:List Int) (a1:Int):yJe a0 a1=(fun n=>some ((n,()),())) (yas a0 a1):=zkV (p:=fun(n:Int)=>((n,()),())) (zkG (p:=fun(n:Int)=>((n,()),())) rfl rfl)
theorem ye3:ConOk prog 71 ycc:=(yZa).mono (fun x r _ h=>(y1y x.1 x.2.1).trans h)
theorem yzj (l:List Int) (n:Int) (hn:0≤n) (hl:l.length≤140737488355328):0≤yas l n∧yas l n≤n:=by
 unfold yas;have h1:0≤(l.length:Int).tdiv 12:=Int.tdiv_nonneg (by omega) (by omega)
 have h2:(l.length:Int).tdiv 12≤(l.length:Int):=by
  rw[Int.tdiv_eq_ediv_of_nonneg (by omega)];exact Int.ediv_le_self _ (by omega)
 rw[wq ((l.length:Int).tdiv 12) (by omega) (by omega),wq (3+(l.length:Int).tdiv 12) (by omega) (by omega)];by_cases h:n<3+(l.length:Int).tdiv 12
 ·rw[zky h]; exact⟨hn,Int.le_refl _⟩
 ·rw[zk3 (by omega),cond_false]; omega
def yLZ:Code:=(f15.body).getD .skip
def yL2:Env:=zkw TT [(69,yc7),(70,yob),(71,ycc),(72,ym)] []
theorem yJz:FrOk prog ⟨yL2,14,fun _=>none⟩ yLZ:=zkA mixed yd ⟨yf7,yzs,ye3,yv,trivial⟩
abbrev ymR:List Par:= [.kp tYs .fz]
abbrev ymT:List OT:= [⟨false,tMs,(.ow .fz)⟩,⟨false,tI,.fz⟩]
def ydc (a0:List Int):Option (zaY ymT×zak ymR) :=let r1:=yaP a0;let r2:=yas a0 12;bnd (ydZ r1 r2) fun r3 =>bnd (yb r3.2.1 2) fun r4 =>some ((r3.1.1,(i64.wrap (1+r4.1.1)),()),())
theorem yKq:ConOk prog 15 ⟨ymR,ymT,fun x=>ydc x.1⟩:=zkI (yJz) func15 ntmps15.symm fun x=>by kernel_rfl
def yt6:Con:=⟨ymR,ymT,fun x=>ydc x.1⟩
theorem yLx:ConOk prog 15 yt6:=yKq
theorem yXh (a0:List Int) (hb:a0.length≤140737488355328): ∃(l:List dM) (id:Int),ydc a0=some ((l,id,()),())∧LM l:=by
 unfold ydc;obtain⟨h1,h2⟩:=yzj a0 12 (by omega) hb;obtain⟨l,u1,e1,q1,d1⟩:=yNs _ _ (yGc a0 hb) h1 (by omega);obtain⟨x,u2,e2,_,d2⟩:=yo u1 2 d1;simp only[e1,e2,zkH];exact⟨_,_,rfl,q1⟩
def y3v:Code:=(f81.body).getD .skip
def y33:Env:=zkw TT [] []
theorem yTf:FrOk prog ⟨y33,15,fun _=>none⟩ y3v:=zkA mixed yd trivial
abbrev yBI:List Par:= [.rd tI,.rd tI,.rd tI]
abbrev yCa:List OT:= [⟨false,tB,.fz⟩]
def yJa (a0 a1 a2:Int):Option (zaY yCa×zak yBI) :=bif(leb a1 a0)then some (((leb a0 a2),()),()) else some ((false,()),())
theorem yYW:ConOk prog 81 ⟨yBI,yCa,fun x=>yJa x.1 x.2.1 x.2.2.1⟩:=zkI (yTf) func81 ntmps81.symm fun x=>by kernel_rfl
def yg (a0 a1 a2:Int):Bool :=bif(leb a1 a0)then (leb a0 a2) else false
def yF:Con:=⟨yBI,yCa,fun x=>(fun n=>some ((n,()),())) (yg x.1 x.2.1 x.2.2.1)⟩
theorem y1n (a0 a1 a2:Int):yJa a0 a1 a2=(fun n=>some ((n,()),())) (yg a0 a1 a2):=zkV (p:=fun(n:Bool)=>((n,()),())) (zkG (p:=fun(n:Bool)=>((n,()),())) rfl rfl)
theorem yS:ConOk prog 81 yF:=(yYW).mono (fun x r _ h=>(y1n x.1 x.2.1 x.2.2.1).trans h)
theorem yai (a b c:Int):yg a b c=ya a b c:=by kernel_rfl
def y43:Code:=(f123.body).getD .skip
def y5i:Env:=zkw TT [(81,yF)] []
theorem yXo:FrOk prog ⟨y5i,11,fun _=>none⟩ y43:=zkA mixed yd ⟨yS,trivial⟩
abbrev yE5:List Par:= [.rd tG]
abbrev yFk:List OT:= [⟨false,tB,.fz⟩]
def yKJ (a0:dG):Option (zaY yFk×zak yE5) :=let r1:=yg a0.1 3 5;bif r1 then let r2:=yg a0.2 1 8;some ((r2,()),()) else some ((false,()),())
theorem y1M:ConOk prog 123 ⟨yE5,yFk,fun x=>yKJ x.1⟩:=zkI (yXo) func123 ntmps123.symm fun x=>by kernel_rfl
def yfE (a0:dG):Bool :=let r1:=yg a0.1 3 5;bif r1 then let r2:=yg a0.2 1 8;r2 else false
def yp9:Con:=⟨yE5,yFk,fun x=>(fun n=>some ((n,()),())) (yfE x.1)⟩
theorem y4s (a0:dG):yKJ a0=(fun n=>some ((n,()),())) (yfE a0):=zkV (p:=fun(n:Bool)=>((n,()),())) (zkG (p:=fun(n:Bool)=>((n,()),())) rfl rfl)
theorem yCN:ConOk prog 123 yp9:=(y1M).mono (fun x r _ h=>(y4s x.1).trans h)
theorem yX4 (a:Int×Int):yfE a=yf a:=by kernel_rfl
def y3u:Code:=(f125.body).getD .skip
def y32:Env:=zkw TT [(81,yF)] []
theorem yTe:FrOk prog ⟨y32,26,fun _=>none⟩ y3u:=zkA mixed yd ⟨yS,trivial⟩
abbrev yBH:List Par:= [.rd tG,.rd tI,.rd tI]
abbrev yB9:List OT:= [⟨false,tB,.fz⟩]
def yI9 (a0:dG) (a1 a2:Int):Option (zaY yB9×zak yBH) :=let r1:=yg a1 (-1) (i64.wrap (a0.1-1));bif r1 then let r2:=yg a2 0 a0.2;bif r2 then bif(!(a2==0))then some (((a1 !=(-1)),()),()) else some ((true,()),()) else some ((false,()),()) else some ((false,()),())
theorem yYV:ConOk prog 125 ⟨yBH,yB9,fun x=>yI9 x.1 x.2.1 x.2.2.1⟩:=zkI (yTe) func125 ntmps125.symm fun x=>by kernel_rfl
def yf5 (a0:dG) (a1 a2:Int):Bool :=let r1:=yg a1 (-1) (i64.wrap (a0.1-1));bif r1 then let r2:=yg a2 0 a0.2;bif r2 then bif(!(a2==0))then (a1 !=(-1)) else true else false else false
def yvO:Con:=⟨yBH,yB9,fun x=>(fun n=>some ((n,()),())) (yf5 x.1 x.2.1 x.2.2.1)⟩
theorem y1m (a0:dG) (a1 a2:Int):yI9 a0 a1 a2=(fun n=>some ((n,()),())) (yf5 a0 a1 a2):=zkV (p:=fun(n:Bool)=>((n,()),())) (zkG (p:=fun(n:Bool)=>((n,()),())) (zkG (p:=fun(n:Bool)=>((n,()),())) (zkG (p:=fun(n:Bool)=>((n,()),())) rfl rfl) rfl) rfl)
theorem yKv:ConOk prog 125 yvO:=(yYV).mono (fun x r _ h=>(y1m x.1 x.2.1 x.2.2.1).trans h)
def ySs:Code:=(f109.body).getD .skip
def ySK:Env:=zkw TT [(81,yF),(123,yp9)] []
theorem yMk:FrOk prog ⟨ySK,14,fun _=>none⟩ ySs:=zkA mixed yd ⟨yS,yCN,trivial⟩
abbrev ysS:List Par:= [.rd tG,.rd tI]
abbrev ysV:List OT:= [⟨false,tB,.fz⟩]
def yA8 (a0:dG) (a1:Int):Option (zaY ysV×zak ysS) :=let r1:=yfE a0;bif r1 then let r2:=yg a1 0 (i64.wrap (a0.2-1));some ((r2,()),()) else some ((false,()),())
theorem yOR:ConOk prog 109 ⟨ysS,ysV,fun x=>yA8 x.1 x.2.1⟩:=zkI (yMk) func109 ntmps109.symm fun x=>by kernel_rfl
def ybB (a0:dG) (a1:Int):Bool :=let r1:=yfE a0;bif r1 then let r2:=yg a1 0 (i64.wrap (a0.2-1));r2 else false
def yjh:Con:=⟨ysS,ysV,fun x=>(fun n=>some ((n,()),())) (ybB x.1 x.2.1)⟩
theorem yRh (a0:dG) (a1:Int):yA8 a0 a1=(fun n=>some ((n,()),())) (ybB a0 a1):=zkV (p:=fun(n:Bool)=>((n,()),())) (zkG (p:=fun(n:Bool)=>((n,()),())) rfl rfl)
theorem yrc:ConOk prog 109 yjh:=(yOR).mono (fun x r _ h=>(yRh x.1 x.2.1).trans h)
theorem ySk (g:dG) (s:Int):ybB g s=ycH g s:=by
 unfold ybB ycH;rw[yX4];cases hg:yf g
 ·rfl
 have:=yk.1 hg;rw[yai,ybm,wr (by omega) (by omega)]; rfl
end
end Go.Tf
