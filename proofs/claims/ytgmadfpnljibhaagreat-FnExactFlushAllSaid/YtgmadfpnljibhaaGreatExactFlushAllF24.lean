/- Functions of the program, and what they come to. -/
import Derived.Test.YtgmadfpnljibhaaGreatExactFlushAllF23
namespace Go.Tf
noncomputable section
open Go.Proofs
set_option synthInstance.maxHeartbeats 400000
set_option synthInstance.maxSize 10000
set_option linter.unusedVariables false
set_option linter.unusedSimpArgs false
set_option maxRecDepth 100000
section
def yh1:Code:=(Tryz.f86.body).getD .skip
def yoi:Env:=zki TT [(45,yrm),(83,ymm),(98,ymn)] []
theorem yLY:FrOk Tryz.prog ⟨yoi,40,fun _=>none⟩ yh1:=zkp yb yc ⟨yAs,yxE,ywA,trivial⟩
def yAM:Nat→Option Seg:=fun _=>none
def yaV:Shape:=⟨[(2,false,[.ptr 64 0]),(4,false,[.ptr 20608 0]),(5,false,[.int .i64]),(22,false,[.br tW]),(23,false,[.int .i64]),(24,false,[.int .i64])],[(64,[.int .i64,.int .i64,.int .i64,.nil,.int .i64,.int .i64,.int .i64,.int .i64,.int .i64,.nil,.int .i64,.bool,.bool]),(20608,[.int .i64,.int .i64,.int .i64,.at 800000000,.int .i64,.int .i64,.int .i64,.int .i64,.int .i64,.at 800000001,.int .i64,.bool,.bool])],[(800000000,tM,(.pr (.ow (.ow .fz)) (.pr (.ow (.pr .fz (.ow .fz))) (.pr .fz (.ow .fz))))),(800000001,tW,(.pr .fz (.ow .fz)))]⟩
def yeE:Shape:=⟨[(2,false,[.ptr 64 0]),(4,false,[.ptr 20608 0]),(5,false,[.ci .i64 0]),(22,false,[.br tW]),(23,false,[.int .i64]),(24,false,[.ci .i64 0])],[(64,[.int .i64,.int .i64,.int .i64,.nil,.int .i64,.int .i64,.int .i64,.int .i64,.int .i64,.nil,.int .i64,.bool,.bool]),(20608,[.int .i64,.int .i64,.int .i64,.at 800000000,.int .i64,.int .i64,.int .i64,.int .i64,.int .i64,.at 800000001,.int .i64,.bool,.bool])],[(800000000,tM,(.pr (.ow (.ow .fz)) (.pr (.ow (.pr .fz (.ow .fz))) (.pr .fz (.ow .fz))))),(800000001,tW,(.pr .fz (.ow .fz)))]⟩
def yey:Shape:=⟨[(2,false,[.ptr 64 0]),(4,false,[.ptr 20608 0]),(5,false,[.int .i64])],[(64,[.int .i64,.int .i64,.int .i64,.nil,.int .i64,.int .i64,.int .i64,.int .i64,.int .i64,.nil,.int .i64,.bool,.bool]),(20608,[.int .i64,.int .i64,.int .i64,.at 800000000,.int .i64,.int .i64,.int .i64,.int .i64,.int .i64,.at 800000001,.int .i64,.bool,.bool])],[(800000000,tM,(.pr (.ow (.ow .fz)) (.pr (.ow (.pr .fz (.ow .fz))) (.pr .fz (.ow .fz))))),(800000001,tW,(.pr .fz (.ow .fz)))]⟩
def yiZ:Shape:=⟨[],[],[]⟩
abbrev ynP (v0:Int) (v1:List dW) (v2 v3:Int) (v4 v5:dA):(yaV).X:=((((),()),((),()),(v0,()),(v1,()),(v2,()),(v3,()),()),((v4.1,v4.2.1.1,v4.2.1.2,(),v4.2.2.2.1,v4.2.2.2.2.1,v4.2.2.2.2.2.1,v4.2.2.2.2.2.2.1,v4.2.2.2.2.2.2.2.1,(),v4.2.2.2.2.2.2.2.2.2.1,v4.2.2.2.2.2.2.2.2.2.2.1,v4.2.2.2.2.2.2.2.2.2.2.2,()),(v5.1,v5.2.1.1,v5.2.1.2,(),v5.2.2.2.1,v5.2.2.2.2.1,v5.2.2.2.2.2.1,v5.2.2.2.2.2.2.1,v5.2.2.2.2.2.2.2.1,(),v5.2.2.2.2.2.2.2.2.2.1,v5.2.2.2.2.2.2.2.2.2.2.1,v5.2.2.2.2.2.2.2.2.2.2.2,()),()),(v5.2.2.1,v5.2.2.2.2.2.2.2.2.1,()))
abbrev yKs (v0:List dW) (v1:Int) (v2 v3:dA):(yeE).X:=((((),()),((),()),((),()),(v0,()),(v1,()),((),()),()),((v2.1,v2.2.1.1,v2.2.1.2,(),v2.2.2.2.1,v2.2.2.2.2.1,v2.2.2.2.2.2.1,v2.2.2.2.2.2.2.1,v2.2.2.2.2.2.2.2.1,(),v2.2.2.2.2.2.2.2.2.2.1,v2.2.2.2.2.2.2.2.2.2.2.1,v2.2.2.2.2.2.2.2.2.2.2.2,()),(v3.1,v3.2.1.1,v3.2.1.2,(),v3.2.2.2.1,v3.2.2.2.2.1,v3.2.2.2.2.2.1,v3.2.2.2.2.2.2.1,v3.2.2.2.2.2.2.2.1,(),v3.2.2.2.2.2.2.2.2.2.1,v3.2.2.2.2.2.2.2.2.2.2.1,v3.2.2.2.2.2.2.2.2.2.2.2,()),()),(v3.2.2.1,v3.2.2.2.2.2.2.2.2.1,()))
abbrev yxB (v0:Int) (v1 v2:dA):(yey).X:=((((),()),((),()),(v0,()),()),((v1.1,v1.2.1.1,v1.2.1.2,(),v1.2.2.2.1,v1.2.2.2.2.1,v1.2.2.2.2.2.1,v1.2.2.2.2.2.2.1,v1.2.2.2.2.2.2.2.1,(),v1.2.2.2.2.2.2.2.2.2.1,v1.2.2.2.2.2.2.2.2.2.2.1,v1.2.2.2.2.2.2.2.2.2.2.2,()),(v2.1,v2.2.1.1,v2.2.1.2,(),v2.2.2.2.1,v2.2.2.2.2.1,v2.2.2.2.2.2.1,v2.2.2.2.2.2.2.1,v2.2.2.2.2.2.2.2.1,(),v2.2.2.2.2.2.2.2.2.2.1,v2.2.2.2.2.2.2.2.2.2.2.1,v2.2.2.2.2.2.2.2.2.2.2.2,()),()),(v2.2.2.1,v2.2.2.2.2.2.2.2.2.1,()))
def yn3 (v0:Int) (v1:List dW) (v2 v3 v4 v5 v6 v7 v8 v9 v10 v11 v12:Int) (v13 v14:Bool) (v15 v16 v17 v18 v19 v20 v21 v22 v23:Int) (v24 v25:Bool) (v26:List dM) (v27:List dW):Option ((yaV).X ⊕ ((yey).X ⊕ (yiZ).X)) :=
 bif (ltb v3 v2) then
 bif (inb v3 v1.length) then
 bif (v0==0) then
 let r6:=yad (v15,(v16,v17),v26,v18,v19,v20,v21,v22,v27,v23,v24,v25) ((nth v1 v3 (0,[])).1)
 some (.inl ((((),()),((),()),(r6.2,()),(v1,()),(v2,()),((IntKind.i64.wrap (v3+1)),()),()),((v4,v5,v6,(),v7,v8,v9,v10,v11,(),v12,v13,v14,()),(r6.1.1,r6.1.2.1.1,r6.1.2.1.2,(),r6.1.2.2.2.1,r6.1.2.2.2.2.1,r6.1.2.2.2.2.2.1,r6.1.2.2.2.2.2.2.1,r6.1.2.2.2.2.2.2.2.1,(),r6.1.2.2.2.2.2.2.2.2.2.1,r6.1.2.2.2.2.2.2.2.2.2.2.1,r6.1.2.2.2.2.2.2.2.2.2.2.2,()),()),(r6.1.2.2.1,r6.1.2.2.2.2.2.2.2.2.1,())))
 else
 some (.inl ((((),()),((),()),(v0,()),(v1,()),(v2,()),((IntKind.i64.wrap (v3+1)),()),()),((v4,v5,v6,(),v7,v8,v9,v10,v11,(),v12,v13,v14,()),(v15,v16,v17,(),v18,v19,v20,v21,v22,(),v23,v24,v25,()),()),(v26,v27,())))
 else none
 else
 some (.inr (.inl ((((),()),((),()),(v0,()),()),((v4,v5,v6,(),v7,v8,v9,v10,v11,(),v12,v13,v14,()),(v15,v16,v17,(),v18,v19,v20,v21,v22,(),v23,v24,v25,()),()),(v26,v27,()))))
def ybb (x:(yaV).X):=yn3 x.1.2.2.1.1 x.1.2.2.2.1.1 x.1.2.2.2.2.1.1 x.1.2.2.2.2.2.1.1 x.2.1.1.1 x.2.1.1.2.1 x.2.1.1.2.2.1 x.2.1.1.2.2.2.2.1 x.2.1.1.2.2.2.2.2.1 x.2.1.1.2.2.2.2.2.2.1 x.2.1.1.2.2.2.2.2.2.2.1 x.2.1.1.2.2.2.2.2.2.2.2.1 x.2.1.1.2.2.2.2.2.2.2.2.2.2.1 x.2.1.1.2.2.2.2.2.2.2.2.2.2.2.1 x.2.1.1.2.2.2.2.2.2.2.2.2.2.2.2.1 x.2.1.2.1.1 x.2.1.2.1.2.1 x.2.1.2.1.2.2.1 x.2.1.2.1.2.2.2.2.1 x.2.1.2.1.2.2.2.2.2.1 x.2.1.2.1.2.2.2.2.2.2.1 x.2.1.2.1.2.2.2.2.2.2.2.1 x.2.1.2.1.2.2.2.2.2.2.2.2.1 x.2.1.2.1.2.2.2.2.2.2.2.2.2.2.1 x.2.1.2.1.2.2.2.2.2.2.2.2.2.2.2.1 x.2.1.2.1.2.2.2.2.2.2.2.2.2.2.2.2.1 x.2.2.1 x.2.2.2.1
def yxf (x:(yeE).X):(yaV).X:=((((),()),((),()),(0,()),(x.1.2.2.2.1.1,()),(x.1.2.2.2.2.1.1,()),(0,()),()),((x.2.1.1.1,x.2.1.1.2.1,x.2.1.1.2.2.1,(),x.2.1.1.2.2.2.2.1,x.2.1.1.2.2.2.2.2.1,x.2.1.1.2.2.2.2.2.2.1,x.2.1.1.2.2.2.2.2.2.2.1,x.2.1.1.2.2.2.2.2.2.2.2.1,(),x.2.1.1.2.2.2.2.2.2.2.2.2.2.1,x.2.1.1.2.2.2.2.2.2.2.2.2.2.2.1,x.2.1.1.2.2.2.2.2.2.2.2.2.2.2.2.1,()),(x.2.1.2.1.1,x.2.1.2.1.2.1,x.2.1.2.1.2.2.1,(),x.2.1.2.1.2.2.2.2.1,x.2.1.2.1.2.2.2.2.2.1,x.2.1.2.1.2.2.2.2.2.2.1,x.2.1.2.1.2.2.2.2.2.2.2.1,x.2.1.2.1.2.2.2.2.2.2.2.2.1,(),x.2.1.2.1.2.2.2.2.2.2.2.2.2.2.1,x.2.1.2.1.2.2.2.2.2.2.2.2.2.2.2.1,x.2.1.2.1.2.2.2.2.2.2.2.2.2.2.2.2.1,()),()),(x.2.2.1,x.2.2.2.1,()))
def yy6:Code:=(zdI yh1 64 244).getD .skip
theorem yLz:zdI yh1 64 61=some (.block 1 (.loop yy6)):=by kernel_rfl
theorem yNd (x:(yaV).X):zg7 ⟨yoi,40,yAM⟩ 1 yy6 244 yaV yey yiZ x=ybb x:=by kernel_rfl
def yxr (x:(yeE).X):Nat:=18446744073709551616
def ypQ (x:(yeE).X):Option ((yey).X ⊕ (yiZ).X):=zr ybb (yxr x) (yxf x)
def yxH:Seg:=⟨yeE,yey,yiZ,ypQ⟩
def yAN:Nat→Option Seg:=fun q=>bif Nat.beq q 61 then some yxH else yAM q
theorem yLZ:FrOk Tryz.prog ⟨yoi,40,yAN⟩ yh1:=(yLY).loop (sg:=yxH) yaV yxf (by decide) yLz ybb yxr (by decide) (fun _=>rfl) (fun x r _ h=>h) yNd
abbrev yeU:List Par:= [.rd tA]
abbrev yoz:List OT:= [⟨false,tA,(.pr .fz (.pr (.pr .fz .fz) (.pr (.ow (.pr (.ow (.ow .fz)) (.pr (.ow (.pr .fz (.ow .fz))) (.pr .fz (.ow .fz))))) (.pr .fz (.pr .fz (.pr .fz (.pr .fz (.pr .fz (.pr (.ow (.pr .fz (.ow .fz))) (.pr .fz (.pr .fz .fz)))))))))))⟩,⟨false,tI,.fz⟩]
def ykf (a0:dA):Option (ResD yoz×MutD yeU) :=
 let r1:=yc9 a0
 bif (!r1) then
 let r2:=yx a0
 some ((r2,1,()),())
 else
 bif a0.2.2.2.2.2.2.2.2.2.2.1 then
 let r3:=yx a0
 some ((r3,6,()),())
 else
 let r4:=yx a0
 zjw (ypQ ((((),()),((),()),((),()),(a0.2.2.2.2.2.2.2.2.1,()),((a0.2.2.2.2.2.2.2.2.1.length:Int),()),((),()),()),((0,0,0,(),0,0,0,0,0,(),0,false,false,()),(r4.1,r4.2.1.1,r4.2.1.2,(),r4.2.2.2.1,r4.2.2.2.2.1,r4.2.2.2.2.2.1,r4.2.2.2.2.2.2.1,r4.2.2.2.2.2.2.2.1,(),r4.2.2.2.2.2.2.2.2.2.1,r4.2.2.2.2.2.2.2.2.2.2.1,r4.2.2.2.2.2.2.2.2.2.2.2,()),()),(r4.2.2.1,r4.2.2.2.2.2.2.2.2.1,()))) (fun y6 =>
 some (((y6.2.1.2.1.1,(y6.2.1.2.1.2.1,y6.2.1.2.1.2.2.1),y6.2.2.1,y6.2.1.2.1.2.2.2.2.1,y6.2.1.2.1.2.2.2.2.2.1,y6.2.1.2.1.2.2.2.2.2.2.1,y6.2.1.2.1.2.2.2.2.2.2.2.1,y6.2.1.2.1.2.2.2.2.2.2.2.2.1,y6.2.2.2.1,y6.2.1.2.1.2.2.2.2.2.2.2.2.2.2.1,y6.2.1.2.1.2.2.2.2.2.2.2.2.2.2.2.1,y6.2.1.2.1.2.2.2.2.2.2.2.2.2.2.2.2.1),y6.1.2.2.1.1,()),())) (fun y6 =>
 none)
theorem yTX (x:InD yeU):zjH ⟨yoi,40,yAN⟩ Tryz.f86.results.toList yh1 yeU yoz x=ykf x.1:=by kernel_rfl
theorem yOV:ConOk Tryz.prog 86 ⟨yeU,yoz,fun x=>ykf x.1⟩:=zkh (yLZ) Tryz.func86 (by kernel_rfl) (by kernel_rfl) Tryz.ntmps86.symm (by decide) (fun x r h=>(yTX x).trans h)
def yfg (a0:dA):dA×Int:=yt8 a0
theorem yRR (a0:dA) (hk:zi9 yeU (a0,())):ykf a0=(fun n=>some ((n.1,n.2,()),())) (yfg a0):=by
 unfold ykf yfg yt8
 simp only [yx,yc9]
 cases ha:yp a0
 ·rfl
 rcases Bool.eq_false_or_eq_true (yd a0) with hd | hd
 ·rw [show a0.2.2.2.2.2.2.2.2.2.2.1=true from hd,hd]; rfl
 have hl8:=yGB (yuO ha) (yaZ ha)
 have h1:ypQ (yKs a0.2.2.2.2.2.2.2.2.1 (a0.2.2.2.2.2.2.2.2.1.length:Int) ypa a0)=some (.inl (yxB (a0.2.2.2.2.2.2.2.2.1.foldl yGT (0,a0)).1 ypa (a0.2.2.2.2.2.2.2.2.1.foldl yGT (0,a0)).2)) :=
  zkk (step:=ybb) a0.2.2.2.2.2.2.2.2.1 (0,[]) (fun i (s:Int×dA)=>ynP s.1 a0.2.2.2.2.2.2.2.2.1 (a0.2.2.2.2.2.2.2.2.1.length:Int) i ypa s.2) yGT (fun _ _=>True) (fun s=> .inl (yxB s.1 ypa s.2)) (fun i s hi _=>by
   refine ⟨?_,trivial⟩
   simp only [ybb,ynP,yn3,zjI (show (i:Int) < a0.2.2.2.2.2.2.2.2.1.length by omega),cond_true,wr (show -9223372036854775808≤(i:Int)+1 by omega) (by omega),Int.natCast_add,Int.natCast_one,Int.toNat_natCast,zkO hi,zjW,zkV,yad]
   unfold yGT
   cases (s.1==0)<;>rfl) (fun s _=>by simp only [ybb,ynP,yn3,zkm (Int.le_refl _),cond_false]) (0,a0) trivial 18446744073709551616 (by omega)
 simp only [Bool.not_true,cond_false]
 refine (congrArg (fun t=>bif t then _ else _) (show a0.2.2.2.2.2.2.2.2.2.2.1=false from hd)).trans ?_
 rw [hd]
 simp only [cond_false]
 refine (congrArg (fun z=>zjw z _ _) h1).trans ?_
 rw [y3M a0.2.2.2.2.2.2.2.2.1 0 a0 rfl]
 simp only [zkJ,zkV]
 rfl
def yBq:Con:=⟨yeU,yoz,fun x=>(fun n=>some ((n.1,n.2,()),())) (yfg x.1)⟩
theorem ySB:ConOk Tryz.prog 86 yBq:=(yOV).mono (fun x r hk h=>(yRR x.1 hk).trans h)
end
section
def ypH:Code:=(Tryz.f186.body).getD .skip
def yvd:Env:=zki TT [(185,yt7)] []
theorem yU3:FrOk Tryz.prog ⟨yvd,22,fun _=>none⟩ ypH:=zkp yb yc ⟨yGL,trivial⟩
def yHw:Nat→Option Seg:=fun _=>none
def yee:Shape:=⟨[(0,false,[.ptr 1000000000 0])],[(1000000000,[.int .i64,.int .i64,.int .i64,.at 800000000,.int .i64,.int .i64,.int .i64,.int .i64,.int .i64,.at 800000001,.int .i64,.bool,.bool])],[(800000000,tM,(.pr (.ow .fz) (.pr (.ow (.pr .fz .fz)) (.pr .fz (.ow .fz))))),(800000001,tW,(.pr .fz .fz))]⟩
def yk8:Shape:=⟨[(0,false,[.ptr 1000000000 0])],[(1000000000,[.int .i64,.int .i64,.int .i64,.at 800000000,.int .i64,.int .i64,.int .i64,.int .i64,.int .i64,.at 800000001,.int .i64,.bool,.bool])],[(800000000,tM,(.pr (.ow .fz) (.pr (.ow (.pr .fz .fz)) (.pr .fz (.ow .fz))))),(800000001,tW,(.pr .fz .fz))]⟩
def yk6:Shape:=⟨[],[(1000000000,[.int .i64,.int .i64,.int .i64,.at 800000000,.int .i64,.int .i64,.int .i64,.int .i64,.int .i64,.at 800000001,.int .i64,.bool,.bool])],[(800000000,tM,(.pr (.ow .fz) (.pr (.ow (.pr .fz .fz)) (.pr .fz (.ow .fz))))),(800000001,tW,(.pr .fz .fz))]⟩
def ylf:Shape:=⟨[(2,false,[.int .i64])],[(1000000000,[.int .i64,.int .i64,.int .i64,.at 800000000,.int .i64,.int .i64,.int .i64,.int .i64,.int .i64,.at 800000001,.int .i64,.bool,.bool])],[(800000000,tM,(.pr (.ow .fz) (.pr (.ow (.pr .fz .fz)) (.pr .fz (.ow .fz))))),(800000001,tW,(.pr .fz .fz))]⟩
abbrev ywo (v0:dA):(yee).X:=((((),()),()),((v0.1,v0.2.1.1,v0.2.1.2,(),v0.2.2.2.1,v0.2.2.2.2.1,v0.2.2.2.2.2.1,v0.2.2.2.2.2.2.1,v0.2.2.2.2.2.2.2.1,(),v0.2.2.2.2.2.2.2.2.2.1,v0.2.2.2.2.2.2.2.2.2.2.1,v0.2.2.2.2.2.2.2.2.2.2.2,()),()),(v0.2.2.1,v0.2.2.2.2.2.2.2.2.1,()))
abbrev yVf (v0:dA):(yk8).X:=((((),()),()),((v0.1,v0.2.1.1,v0.2.1.2,(),v0.2.2.2.1,v0.2.2.2.2.1,v0.2.2.2.2.2.1,v0.2.2.2.2.2.2.1,v0.2.2.2.2.2.2.2.1,(),v0.2.2.2.2.2.2.2.2.2.1,v0.2.2.2.2.2.2.2.2.2.2.1,v0.2.2.2.2.2.2.2.2.2.2.2,()),()),(v0.2.2.1,v0.2.2.2.2.2.2.2.2.1,()))
abbrev yVd (v0:dA):(yk6).X:=((),((v0.1,v0.2.1.1,v0.2.1.2,(),v0.2.2.2.1,v0.2.2.2.2.1,v0.2.2.2.2.2.1,v0.2.2.2.2.2.2.1,v0.2.2.2.2.2.2.2.1,(),v0.2.2.2.2.2.2.2.2.2.1,v0.2.2.2.2.2.2.2.2.2.2.1,v0.2.2.2.2.2.2.2.2.2.2.2,()),()),(v0.2.2.1,v0.2.2.2.2.2.2.2.2.1,()))
abbrev yVh (v0:Int) (v1:dA):(ylf).X:=(((v0,()),()),((v1.1,v1.2.1.1,v1.2.1.2,(),v1.2.2.2.1,v1.2.2.2.2.1,v1.2.2.2.2.2.1,v1.2.2.2.2.2.2.1,v1.2.2.2.2.2.2.2.1,(),v1.2.2.2.2.2.2.2.2.2.1,v1.2.2.2.2.2.2.2.2.2.2.1,v1.2.2.2.2.2.2.2.2.2.2.2,()),()),(v1.2.2.1,v1.2.2.2.2.2.2.2.2.1,()))
def yw0 (v0 v1 v2 v3 v4 v5 v6 v7 v8:Int) (v9 v10:Bool) (v11:List dM) (v12:List dW):Option ((yee).X ⊕ ((yk6).X ⊕ (ylf).X)) :=
 bif (ltb 0 (v12.length:Int)) then
 bif (inb 0 v12.length) then
 bnd (ygz (v0,(v1,v2),v11,v3,v4,v5,v6,v7,v12,v8,v9,v10) ((nth v12 0 (0,[])).1)) fun r2 =>
 bif (r2.1.1 !=0) then
 some (.inr (.inr (((r2.1.1,()),()),((r2.2.1.1,r2.2.1.2.1.1,r2.2.1.2.1.2,(),r2.2.1.2.2.2.1,r2.2.1.2.2.2.2.1,r2.2.1.2.2.2.2.2.1,r2.2.1.2.2.2.2.2.2.1,r2.2.1.2.2.2.2.2.2.2.1,(),r2.2.1.2.2.2.2.2.2.2.2.2.1,r2.2.1.2.2.2.2.2.2.2.2.2.2.1,r2.2.1.2.2.2.2.2.2.2.2.2.2.2,()),()),(r2.2.1.2.2.1,r2.2.1.2.2.2.2.2.2.2.2.1,()))))
 else
 some (.inl ((((),()),()),((r2.2.1.1,r2.2.1.2.1.1,r2.2.1.2.1.2,(),r2.2.1.2.2.2.1,r2.2.1.2.2.2.2.1,r2.2.1.2.2.2.2.2.1,r2.2.1.2.2.2.2.2.2.1,r2.2.1.2.2.2.2.2.2.2.1,(),r2.2.1.2.2.2.2.2.2.2.2.2.1,r2.2.1.2.2.2.2.2.2.2.2.2.2.1,r2.2.1.2.2.2.2.2.2.2.2.2.2.2,()),()),(r2.2.1.2.2.1,r2.2.1.2.2.2.2.2.2.2.2.1,())))
 else none
 else
 some (.inr (.inl ((),((v0,v1,v2,(),v3,v4,v5,v6,v7,(),v8,v9,v10,()),()),(v11,v12,()))))
def yek (x:(yee).X):=yw0 x.2.1.1.1 x.2.1.1.2.1 x.2.1.1.2.2.1 x.2.1.1.2.2.2.2.1 x.2.1.1.2.2.2.2.2.1 x.2.1.1.2.2.2.2.2.2.1 x.2.1.1.2.2.2.2.2.2.2.1 x.2.1.1.2.2.2.2.2.2.2.2.1 x.2.1.1.2.2.2.2.2.2.2.2.2.2.1 x.2.1.1.2.2.2.2.2.2.2.2.2.2.2.1 x.2.1.1.2.2.2.2.2.2.2.2.2.2.2.2.1 x.2.2.1 x.2.2.2.1
def yGC (x:(yk8).X):(yee).X:=((((),()),()),((x.2.1.1.1,x.2.1.1.2.1,x.2.1.1.2.2.1,(),x.2.1.1.2.2.2.2.1,x.2.1.1.2.2.2.2.2.1,x.2.1.1.2.2.2.2.2.2.1,x.2.1.1.2.2.2.2.2.2.2.1,x.2.1.1.2.2.2.2.2.2.2.2.1,(),x.2.1.1.2.2.2.2.2.2.2.2.2.2.1,x.2.1.1.2.2.2.2.2.2.2.2.2.2.2.1,x.2.1.1.2.2.2.2.2.2.2.2.2.2.2.2.1,()),()),(x.2.2.1,x.2.2.2.1,()))
def yHM:Code:=(zdI ypH 64 24).getD .skip
theorem yXp:zdI ypH 64 6=some (.block 0 (.loop yHM)):=by kernel_rfl
theorem yZK (x:(yee).X):zg7 ⟨yvd,22,yHw⟩ 0 yHM 24 yee yk6 ylf x=yek x:=by kernel_rfl
def yGG (x:(yk8).X):Nat:=18446744073709551616
def yxV (x:(yk8).X):Option ((yk6).X ⊕ (ylf).X):=zr yek (yGG x) (yGC x)
def yGO:Seg:=⟨yk8,yk6,ylf,yxV⟩
def yHx:Nat→Option Seg:=fun q=>bif Nat.beq q 6 then some yGO else yHw q
theorem yU4:FrOk Tryz.prog ⟨yvd,22,yHx⟩ ypH:=(yU3).loop (sg:=yGO) yee yGC (by decide) yXp yek yGG (by decide) (fun _=>rfl) (fun x r _ h=>h) yZK
abbrev ygF:List Par:= [.pt tA (.pr .fz (.pr (.pr .fz .fz) (.pr (.ow (.pr (.ow .fz) (.pr (.ow (.pr .fz .fz)) (.pr .fz (.ow .fz))))) (.pr .fz (.pr .fz (.pr .fz (.pr .fz (.pr .fz (.pr (.ow (.pr .fz .fz)) (.pr .fz (.pr .fz .fz)))))))))))]
abbrev yqj:List OT:= [⟨false,tI,.fz⟩]
def yrN (a0:dA):Option (ResD yqj×MutD ygF) :=
 zjw (yxV ((((),()),()),((a0.1,a0.2.1.1,a0.2.1.2,(),a0.2.2.2.1,a0.2.2.2.2.1,a0.2.2.2.2.2.1,a0.2.2.2.2.2.2.1,a0.2.2.2.2.2.2.2.1,(),a0.2.2.2.2.2.2.2.2.2.1,a0.2.2.2.2.2.2.2.2.2.2.1,a0.2.2.2.2.2.2.2.2.2.2.2,()),()),(a0.2.2.1,a0.2.2.2.2.2.2.2.2.1,()))) (fun y2 =>
 some ((0,()),((y2.2.1.1.1,(y2.2.1.1.2.1,y2.2.1.1.2.2.1),y2.2.2.1,y2.2.1.1.2.2.2.2.1,y2.2.1.1.2.2.2.2.2.1,y2.2.1.1.2.2.2.2.2.2.1,y2.2.1.1.2.2.2.2.2.2.2.1,y2.2.1.1.2.2.2.2.2.2.2.2.1,y2.2.2.2.1,y2.2.1.1.2.2.2.2.2.2.2.2.2.2.1,y2.2.1.1.2.2.2.2.2.2.2.2.2.2.2.1,y2.2.1.1.2.2.2.2.2.2.2.2.2.2.2.2.1),()))) (fun y2 =>
 some ((y2.1.1.1,()),((y2.2.1.1.1,(y2.2.1.1.2.1,y2.2.1.1.2.2.1),y2.2.2.1,y2.2.1.1.2.2.2.2.1,y2.2.1.1.2.2.2.2.2.1,y2.2.1.1.2.2.2.2.2.2.1,y2.2.1.1.2.2.2.2.2.2.2.1,y2.2.1.1.2.2.2.2.2.2.2.2.1,y2.2.2.2.1,y2.2.1.1.2.2.2.2.2.2.2.2.2.2.1,y2.2.1.1.2.2.2.2.2.2.2.2.2.2.2.1,y2.2.1.1.2.2.2.2.2.2.2.2.2.2.2.2.1),())))
theorem y2A (x:InD ygF):zjH ⟨yvd,22,yHx⟩ Tryz.f186.results.toList ypH ygF yqj x=yrN x.1:=by kernel_rfl
theorem yZe:ConOk Tryz.prog 186 ⟨ygF,yqj,fun x=>yrN x.1⟩:=zkh (yU4) Tryz.func186 (by kernel_rfl) (by kernel_rfl) Tryz.ntmps186.symm (by decide) (fun x r h=>(y2A x).trans h)
def ywv (a0:dA):Int×dA:=yXr a0
def yEE (a0:dA):Bool:=decide (a0.2.2.2.2.2.2.2.2.1.length≤1000)
theorem y1l (a0:dA) (hk:zi9 ygF (a0,())) (hq:yEE a0=true):yrN a0=(fun n=>some ((n.1,()),(n.2,()))) (ywv a0):=by
 have hq:=of_decide_eq_true hq
 have h1:=zkr (step:=yek) a0.2.2.2.2.2.2.2.2.1.length (fun _ s=>ywo s) yIE (fun i s=>s.2.2.2.2.2.2.2.2.1.length+i=a0.2.2.2.2.2.2.2.2.1.length) (fun b=>(0,b))
  (fun r=>bif r.1==0 then .inl (yVd r.2) else .inr (yVh r.1 r.2)) (fun i s hi hs=>by
   have hp:0 < s.2.2.2.2.2.2.2.2.1.length:=by omega
   constructor
   ·simp only [yek,ywo,yw0,zkV,zjI (show (0:Int) < (s.2.2.2.2.2.2.2.2.1.length:Int) by omega),cond_true,show inb 0 s.2.2.2.2.2.2.2.2.1.length=true from zkO (i:=0) hp]
    rw [yGM s (nth s.2.2.2.2.2.2.2.2.1 0 (0,[])).1 (decide_eq_true (show s.2.2.2.2.2.2.2.2.1.length≤1000 by omega))]
    simp only [zky,ylB]
    unfold yIE
    generalize yac s (nth s.2.2.2.2.2.2.2.2.1 0 (0,[])).1=R
    cases hr:(R.1 !=0)
    ·rfl
    ·simp only [cond_true]
     rw [show (R.1==0)=false from beq_eq_false_iff_ne.2 (bne_iff_ne.1 hr)]; rfl
   ·intro s' h
    unfold yIE at h
    cases hr:((yac s (nth s.2.2.2.2.2.2.2.2.1 0 (0,[])).1).1 !=0)
    ·rw [hr]at h
     simp only [cond_false,Sum.inl.injEq]at h
     rw [← h,yUj hp (bne_eq_false_iff_eq.1 hr),List.length_drop]; omega
    ·rw [hr]at h; cases h) (fun s hs=>by
   simp only [yek,ywo,yw0,show ltb 0 (s.2.2.2.2.2.2.2.2.1.length:Int)=false from zkm (by omega)]; rfl) a0 rfl 18446744073709551616 (by omega)
 unfold yrN ywv yXr
 refine (congrArg (fun z=>zjw z _ _) (show yxV (yVf a0)=_ from h1)).trans ?_
 generalize goE yIE (fun b=>(0,b)) a0.2.2.2.2.2.2.2.2.1.length 0 a0=R
 cases hr:(R.1==0)
 ·rfl
 ·simp only [cond_true,zkJ,zkV]
  rw [show R.1=0 from beq_iff_eq.1 hr]
def ywy (a0:dA):Option (ResD yqj×MutD ygF):=bif yEE a0 then (fun n=>some ((n.1,()),(n.2,()))) (ywv a0) else none
theorem y1Q (a0:dA) (h:yEE a0=true):ywy a0=(fun n=>some ((n.1,()),(n.2,()))) (ywv a0):=by unfold ywy; rw [h]; rfl
def yH7:Con:=⟨ygF,yqj,fun x=>ywy x.1⟩
theorem y1O:ConOk Tryz.prog 186 yH7:=(yZe).mono (fun x r hk h=>zkW h (fun hq=>y1l x.1 hk hq))
end
section
def yE9:Code:=(Tryz.f87.body).getD .skip
def yFO:Env:=zki TT [(103,ywc),(104,yx4),(186,yH7)] []
theorem yMk:FrOk Tryz.prog ⟨yFO,17,fun _=>none⟩ yE9:=zkp yb yc ⟨yIv,yJ4,y1O,trivial⟩
def yNy:Nat→Option Seg:=fun _=>none
abbrev ye6:List Par:= [.rd tA]
abbrev yoM:List OT:= [⟨false,tA,(.pr .fz (.pr (.pr .fz .fz) (.pr (.ow (.pr (.ow .fz) (.pr (.ow (.pr .fz .fz)) (.pr .fz (.ow .fz))))) (.pr .fz (.pr .fz (.pr .fz (.pr .fz (.pr .fz (.pr (.ow (.pr .fz .fz)) (.pr .fz (.pr .fz .fz)))))))))))⟩,⟨false,tI,.fz⟩]
def ykr (a0:dA):Option (ResD yoM×MutD ye6) :=
 let r1:=yfy a0
 let r2:=ylC a0
 bif (r2 !=0) then
 some ((r1,r2,()),())
 else
 bnd (ywy r1) fun r3 =>
 some ((r3.2.1,r3.1.1,()),())
theorem yUa (x:InD ye6):zjH ⟨yFO,17,yNy⟩ Tryz.f87.results.toList yE9 ye6 yoM x=ykr x.1:=by kernel_rfl
theorem yO8:ConOk Tryz.prog 87 ⟨ye6,yoM,fun x=>ykr x.1⟩:=zkh (yMk) Tryz.func87 (by kernel_rfl) (by kernel_rfl) Tryz.ntmps87.symm (by decide) (fun x r h=>(yUa x).trans h)
def yjo (a0:dA):dA×Int:=yt8 a0
theorem yR4 (a0:dA) (hk:zi9 ye6 (a0,())):ykr a0=(fun n=>some ((n.1,n.2,()),())) (yjo a0):=by
 unfold ykr yjo yt8
 simp only [yfy,y3Y]
 cases ha:yp a0
 ·rfl
 cases hd:yd a0
 ·rw [y1Q a0 (decide_eq_true (Nat.le_trans (yGB (yuO ha) (yaZ ha)) (by omega)))]; rfl
 ·rfl
def yBz:Con:=⟨ye6,yoM,fun x=>(fun n=>some ((n.1,n.2,()),())) (yjo x.1)⟩
theorem ySK:ConOk Tryz.prog 87 yBz:=(yO8).mono (fun x r hk h=>(yR4 x.1 hk).trans h)
end
section
def ysA:Code:=(Tryz.f11.body).getD .skip
def ysC:Env:=zki TT [(86,yBq),(87,yBz),(89,yx0),(90,yx1),(91,yxZ),(92,yt6),(93,yt5)] []
theorem yCv:FrOk Tryz.prog ⟨ysC,96,fun _=>none⟩ ysA:=zkp yb yc ⟨ySB,ySK,yJ0,yJ1,yJZ,yGK,yGJ,trivial⟩
def yCT:Nat→Option Seg:=fun _=>none
abbrev yaq:List Par:= [.rd tA]
abbrev yeo:List OT:= [⟨false,tB,.fz⟩]
def yde (a0:dA):Option (ResD yeo×MutD yaq) :=
 let r1:=ybV a0 1048576
 bif (ltb r1 0) then
 some ((true,()),())
 else
 let r2:=ya1 a0
 let r3:=yjo r2
 let r4:=ya1 a0
 let r5:=yfg r4
 let r6:=yZ r5.1 r3.1
 bif (!(!r6)) then
 bif (r5.2 !=r3.2) then
 some ((false,()),())
 else
 let r7:=ya1 a0
 let r8:=yZ r4 r7
 bif (!r8) then
 some ((false,()),())
 else
 let r9:=yy r4 1
 bif (!(ltb r9.1 0)) then
 let r10:=yZ r5.1 r3.1
 bif (!(!r10)) then
 bif (r5.2 !=r3.2) then
 some ((false,()),())
 else
 let r11:=yy r5.1 1
 let r12:=yat (r5.1.1,r5.1.2.1,r11.2.2.2.1,r5.1.2.2.2.1,r5.1.2.2.2.2.1,r5.1.2.2.2.2.2.1,r5.1.2.2.2.2.2.2.1,r5.1.2.2.2.2.2.2.2.1,r11.2.2.2.2.2.2.2.2.2.1,r5.1.2.2.2.2.2.2.2.2.2) 1
 bif (ltb r12 0) then
 some ((false,()),())
 else
 bif (r12 !=r11.1) then
 some ((false,()),())
 else
 let r13:=ya1 a0
 let r14:=yfg r13
 let r15:=yZ r14.1 r3.1
 bif (!(!r15)) then
 bif (r14.2 !=r3.2) then
 some ((false,()),())
 else
 let r16:=yat (r5.1.1,r5.1.2.1,r11.2.2.2.1,r5.1.2.2.2.1,r5.1.2.2.2.2.1,r5.1.2.2.2.2.2.1,r5.1.2.2.2.2.2.2.1,r5.1.2.2.2.2.2.2.2.1,r11.2.2.2.2.2.2.2.2.2.1,r5.1.2.2.2.2.2.2.2.2.2) 1
 bif (ltb r16 0) then
 some ((false,()),())
 else
 bif (r16 !=r11.1) then
 some ((false,()),())
 else
 some ((true,()),())
 else
 some ((false,()),())
 else
 some ((false,()),())
 else
 some ((false,()),())
 else
 some ((false,()),())
theorem yGU (x:InD yaq):zjH ⟨ysC,96,yCT⟩ Tryz.f11.results.toList ysA yaq yeo x=yde x.1:=by kernel_rfl
theorem yEw:ConOk Tryz.prog 11 ⟨yaq,yeo,fun x=>yde x.1⟩:=zkh (yCv) Tryz.func11 (by kernel_rfl) (by kernel_rfl) Tryz.ntmps11.symm (by decide) (fun x r h=>(yGU x).trans h)
def yjC (a0:dA):Bool:=true
theorem y2O {M:Nat}: ∀ (k i:Nat) (a:dA),yP3 M a→yP3 M (goE yIE (fun b=>(0,b)) k i a).2
 | 0,_,_,h=>h
 | k+1,i,a,h=>by
  have hf:=yVk (nth a.2.2.2.2.2.2.2.2.1 0 (0,[])).1 h
  unfold goE yIE
  cases hc:((yac a (nth a.2.2.2.2.2.2.2.2.1 0 (0,[])).1).1 !=0)
  ·exact y2O k (i+1) _ hf
  ·exact hf
theorem yXV {a:dA} (ha:ybw a≤2097152):ybw (yt8 a).1≤2105000:=by
 unfold yt8
 cases h:yp a
 ·show ybw a≤_; omega
 cases yd a
 ·have:=yVl (y2O a.2.2.2.2.2.2.2.2.1.length 0 a (y2P h ha))
  show ybw (yXr a).2≤_
  unfold yXr; omega
 ·show ybw a≤_; omega
theorem yEZ (a0:dA) (hk:zi9 yaq (a0,())):yde a0=(fun n=>some ((n,()),())) (yjC a0):=by
 unfold yde yjC yfg yjo
 cases h:ltb (ybV a0 1048576) 0
 ·have hs:=y26 (a:=a0) hk.1 h
  have hf:=yXV hs
  obtain ⟨f1,f2,f3⟩:=yNt (x:=a0) (by omega)
  obtain ⟨g1,g2,g3⟩:=yNt (x:=(yt8 a0).1) (by omega)
  simp only [h,yJX,yIe,bne_self_eq_false,Bool.not_true,Bool.not_false,cond_true,cond_false,f1,g2,g3]
 ·simp only [h,cond_true]
def yDB:Con:=⟨yaq,yeo,fun x=>(fun n=>some ((n,()),())) (yjC x.1)⟩
theorem yE2:ConOk Tryz.prog 11 yDB:=(yEw).mono (fun x r hk h=>(yEZ x.1 hk).trans h)
end
end
end Go.Tf
