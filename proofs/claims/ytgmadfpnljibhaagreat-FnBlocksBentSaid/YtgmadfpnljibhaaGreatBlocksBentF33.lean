/- Functions of the program, and what they come to. -/
import Derived.Test.YtgmadfpnljibhaaGreatBlocksBentF32
namespace Go.Tf
noncomputable section
open Go.Proofs
set_option synthInstance.maxHeartbeats 400000
set_option synthInstance.maxSize 10000
set_option linter.unusedVariables false
set_option linter.unusedSimpArgs false
set_option maxRecDepth 100000
section
def yF9:Code:=(Tryz.f155.body).getD .skip
def yGP:Env:=zj3 TT [(94,ymp),(96,ykq),(97,yxE),(114,ymq)] []
theorem yOu:FrOk Tryz.prog ⟨yGP,14,fun _=>none⟩ yF9:=zj7 yb yc ⟨yuY,ysH,yJ0,yuZ,trivial⟩
def yPV:Nat→Option Seg:=fun _=>none
abbrev yjs:List Par:= [.kp tYs .fz]
abbrev ypQ:List OT:= [⟨false,tA,(.pr .fz (.pr (.pr .fz .fz) (.pr (.ow (.pr (.ow .fz) (.pr (.ow (.pr .fz .fz)) (.pr .fz (.ow .fz))))) (.pr .fz (.pr .fz (.pr .fz (.pr .fz (.pr .fz (.pr (.ow (.pr .fz .fz)) (.pr .fz (.pr .fz .fz)))))))))))⟩]
def yg8 (a0:List Int):Option (ResD ypQ×MutD yjs) :=
 let r1:=ydZ a0
 let r2:=ycz a0 12
 bnd (ybH r1 r2) fun r3 =>
 bnd (yd3 r3.2.1 r3.1.1) fun r4 =>
 some ((r4.1.1,()),())
theorem yW4 (x:InD yjs):zjx ⟨yGP,14,yPV⟩ Tryz.f155.results.toList yF9 yjs ypQ x=yg8 x.1:=by kernel_rfl
theorem yRI:ConOk Tryz.prog 155 ⟨yjs,ypQ,fun x=>yg8 x.1⟩:=zj2 (yOu) Tryz.func155 (by kernel_rfl) (by kernel_rfl) Tryz.ntmps155.symm (by decide) (fun x r h=>(yW4 x).trans h)
def yCC:Con:=⟨yjs,ypQ,fun x=>yg8 x.1⟩
theorem yVs:ConOk Tryz.prog 155 yCC:=yRI
end
section
def yyA:Code:=(Tryz.f85.body).getD .skip
def yyG:Env:=zj3 TT [(155,yCC)] []
theorem yHY:FrOk Tryz.prog ⟨yyG,5,fun _=>none⟩ yyA:=zj7 yb yc ⟨yVs,trivial⟩
def yIB:Nat→Option Seg:=fun _=>none
abbrev yeC:List Par:= [.kp tYs .fz]
abbrev yiB:List OT:= [⟨false,tA,(.pr .fz (.pr (.pr .fz .fz) (.pr (.ow (.pr (.ow .fz) (.pr (.ow (.pr .fz .fz)) (.pr .fz (.ow .fz))))) (.pr .fz (.pr .fz (.pr .fz (.pr .fz (.pr .fz (.pr (.ow (.pr .fz .fz)) (.pr .fz (.pr .fz .fz)))))))))))⟩]
def yba (a0:List Int):Option (ResD yiB×MutD yeC) :=
 bnd (yg8 a0) fun r1 =>
 some ((r1.1.1,()),())
theorem yMl (x:InD yeC):zjx ⟨yyG,5,yIB⟩ Tryz.f85.results.toList yyA yeC yiB x=yba x.1:=by kernel_rfl
theorem yJM:ConOk Tryz.prog 85 ⟨yeC,yiB,fun x=>yba x.1⟩:=zj2 (yHY) Tryz.func85 (by kernel_rfl) (by kernel_rfl) Tryz.ntmps85.symm (by decide) (fun x r h=>(yMl x).trans h)
def yv8:Con:=⟨yeC,yiB,fun x=>yba x.1⟩
theorem yKL:ConOk Tryz.prog 85 yv8:=yJM
theorem yWL (a0:List Int) (hb:a0.length≤140737488355328): ∃ a:dA,yba a0=some ((a,()),())∧yff a:=by
 unfold yba yg8
 obtain ⟨h1,h2⟩:=yPK a0 12 (by omega) hb
 obtain ⟨a,u1,e1,q1,d1⟩:=yKf _ _ (yWO a0 hb) h1 (by omega)
 obtain ⟨a',u2,e2,q2,d2⟩:=y5I u1 a d1 q1
 simp only [e1,e2,zkd]
 exact ⟨a',rfl,q2⟩
end
section
def yjf:Code:=(Tryz.f86.body).getD .skip
def ypt:Env:=zj3 TT [(45,yhw),(83,yni),(98,yil)] []
theorem yOb:FrOk Tryz.prog ⟨ypt,40,fun _=>none⟩ yjf:=zj7 yb yc ⟨yoM,yze,yql,trivial⟩
def yBV:Nat→Option Seg:=fun _=>none
def ybn:Shape:=⟨[(2,false,[.ptr 64 0]),(4,false,[.ptr 20608 0]),(5,false,[.int .i64]),(22,false,[.br tW]),(23,false,[.int .i64]),(24,false,[.int .i64])],[(64,[.int .i64,.int .i64,.int .i64,.nil,.int .i64,.int .i64,.int .i64,.int .i64,.int .i64,.nil,.int .i64,.bool,.bool]),(20608,[.int .i64,.int .i64,.int .i64,.at 800000000,.int .i64,.int .i64,.int .i64,.int .i64,.int .i64,.at 800000001,.int .i64,.bool,.bool])],[(800000000,tM,(.pr (.ow (.ow .fz)) (.pr (.ow (.pr .fz (.ow .fz))) (.pr .fz (.ow .fz))))),(800000001,tW,(.pr .fz (.ow .fz)))]⟩
def yfy:Shape:=⟨[(2,false,[.ptr 64 0]),(4,false,[.ptr 20608 0]),(5,false,[.ci .i64 0]),(22,false,[.br tW]),(23,false,[.int .i64]),(24,false,[.ci .i64 0])],[(64,[.int .i64,.int .i64,.int .i64,.nil,.int .i64,.int .i64,.int .i64,.int .i64,.int .i64,.nil,.int .i64,.bool,.bool]),(20608,[.int .i64,.int .i64,.int .i64,.at 800000000,.int .i64,.int .i64,.int .i64,.int .i64,.int .i64,.at 800000001,.int .i64,.bool,.bool])],[(800000000,tM,(.pr (.ow (.ow .fz)) (.pr (.ow (.pr .fz (.ow .fz))) (.pr .fz (.ow .fz))))),(800000001,tW,(.pr .fz (.ow .fz)))]⟩
def yfq:Shape:=⟨[(2,false,[.ptr 64 0]),(4,false,[.ptr 20608 0]),(5,false,[.int .i64])],[(64,[.int .i64,.int .i64,.int .i64,.nil,.int .i64,.int .i64,.int .i64,.int .i64,.int .i64,.nil,.int .i64,.bool,.bool]),(20608,[.int .i64,.int .i64,.int .i64,.at 800000000,.int .i64,.int .i64,.int .i64,.int .i64,.int .i64,.at 800000001,.int .i64,.bool,.bool])],[(800000000,tM,(.pr (.ow (.ow .fz)) (.pr (.ow (.pr .fz (.ow .fz))) (.pr .fz (.ow .fz))))),(800000001,tW,(.pr .fz (.ow .fz)))]⟩
def yka:Shape:=⟨[],[],[]⟩
abbrev yo4 (v0:Int) (v1:List dW) (v2 v3:Int) (v4 v5:dA):(ybn).X:=((((),()),((),()),(v0,()),(v1,()),(v2,()),(v3,()),()),((v4.1,v4.2.1.1,v4.2.1.2,(),v4.2.2.2.1,v4.2.2.2.2.1,v4.2.2.2.2.2.1,v4.2.2.2.2.2.2.1,v4.2.2.2.2.2.2.2.1,(),v4.2.2.2.2.2.2.2.2.2.1,v4.2.2.2.2.2.2.2.2.2.2.1,v4.2.2.2.2.2.2.2.2.2.2.2,()),(v5.1,v5.2.1.1,v5.2.1.2,(),v5.2.2.2.1,v5.2.2.2.2.1,v5.2.2.2.2.2.1,v5.2.2.2.2.2.2.1,v5.2.2.2.2.2.2.2.1,(),v5.2.2.2.2.2.2.2.2.2.1,v5.2.2.2.2.2.2.2.2.2.2.1,v5.2.2.2.2.2.2.2.2.2.2.2,()),()),(v5.2.2.1,v5.2.2.2.2.2.2.2.2.1,()))
abbrev yMD (v0:List dW) (v1:Int) (v2 v3:dA):(yfy).X:=((((),()),((),()),((),()),(v0,()),(v1,()),((),()),()),((v2.1,v2.2.1.1,v2.2.1.2,(),v2.2.2.2.1,v2.2.2.2.2.1,v2.2.2.2.2.2.1,v2.2.2.2.2.2.2.1,v2.2.2.2.2.2.2.2.1,(),v2.2.2.2.2.2.2.2.2.2.1,v2.2.2.2.2.2.2.2.2.2.2.1,v2.2.2.2.2.2.2.2.2.2.2.2,()),(v3.1,v3.2.1.1,v3.2.1.2,(),v3.2.2.2.1,v3.2.2.2.2.1,v3.2.2.2.2.2.1,v3.2.2.2.2.2.2.1,v3.2.2.2.2.2.2.2.1,(),v3.2.2.2.2.2.2.2.2.2.1,v3.2.2.2.2.2.2.2.2.2.2.1,v3.2.2.2.2.2.2.2.2.2.2.2,()),()),(v3.2.2.1,v3.2.2.2.2.2.2.2.2.1,()))
abbrev yza (v0:Int) (v1 v2:dA):(yfq).X:=((((),()),((),()),(v0,()),()),((v1.1,v1.2.1.1,v1.2.1.2,(),v1.2.2.2.1,v1.2.2.2.2.1,v1.2.2.2.2.2.1,v1.2.2.2.2.2.2.1,v1.2.2.2.2.2.2.2.1,(),v1.2.2.2.2.2.2.2.2.2.1,v1.2.2.2.2.2.2.2.2.2.2.1,v1.2.2.2.2.2.2.2.2.2.2.2,()),(v2.1,v2.2.1.1,v2.2.1.2,(),v2.2.2.2.1,v2.2.2.2.2.1,v2.2.2.2.2.2.1,v2.2.2.2.2.2.2.1,v2.2.2.2.2.2.2.2.1,(),v2.2.2.2.2.2.2.2.2.2.1,v2.2.2.2.2.2.2.2.2.2.2.1,v2.2.2.2.2.2.2.2.2.2.2.2,()),()),(v2.2.2.1,v2.2.2.2.2.2.2.2.2.1,()))
def ypj (v0:Int) (v1:List dW) (v2 v3 v4 v5 v6 v7 v8 v9 v10 v11 v12:Int) (v13 v14:Bool) (v15 v16 v17 v18 v19 v20 v21 v22 v23:Int) (v24 v25:Bool) (v26:List dM) (v27:List dW):Option ((ybn).X ⊕ ((yfq).X ⊕ (yka).X)) :=
 bif (ltb v3 v2) then
 bif (inb v3 v1.length) then
 bif (v0==0) then
 let r6:=ybu (v15,(v16,v17),v26,v18,v19,v20,v21,v22,v27,v23,v24,v25) ((nth v1 v3 (0,[])).1)
 some (.inl ((((),()),((),()),(r6.2,()),(v1,()),(v2,()),((IntKind.i64.wrap (v3+1)),()),()),((v4,v5,v6,(),v7,v8,v9,v10,v11,(),v12,v13,v14,()),(r6.1.1,r6.1.2.1.1,r6.1.2.1.2,(),r6.1.2.2.2.1,r6.1.2.2.2.2.1,r6.1.2.2.2.2.2.1,r6.1.2.2.2.2.2.2.1,r6.1.2.2.2.2.2.2.2.1,(),r6.1.2.2.2.2.2.2.2.2.2.1,r6.1.2.2.2.2.2.2.2.2.2.2.1,r6.1.2.2.2.2.2.2.2.2.2.2.2,()),()),(r6.1.2.2.1,r6.1.2.2.2.2.2.2.2.2.1,())))
 else
 some (.inl ((((),()),((),()),(v0,()),(v1,()),(v2,()),((IntKind.i64.wrap (v3+1)),()),()),((v4,v5,v6,(),v7,v8,v9,v10,v11,(),v12,v13,v14,()),(v15,v16,v17,(),v18,v19,v20,v21,v22,(),v23,v24,v25,()),()),(v26,v27,())))
 else none
 else
 some (.inr (.inl ((((),()),((),()),(v0,()),()),((v4,v5,v6,(),v7,v8,v9,v10,v11,(),v12,v13,v14,()),(v15,v16,v17,(),v18,v19,v20,v21,v22,(),v23,v24,v25,()),()),(v26,v27,()))))
def ybK (x:(ybn).X):=ypj x.1.2.2.1.1 x.1.2.2.2.1.1 x.1.2.2.2.2.1.1 x.1.2.2.2.2.2.1.1 x.2.1.1.1 x.2.1.1.2.1 x.2.1.1.2.2.1 x.2.1.1.2.2.2.2.1 x.2.1.1.2.2.2.2.2.1 x.2.1.1.2.2.2.2.2.2.1 x.2.1.1.2.2.2.2.2.2.2.1 x.2.1.1.2.2.2.2.2.2.2.2.1 x.2.1.1.2.2.2.2.2.2.2.2.2.2.1 x.2.1.1.2.2.2.2.2.2.2.2.2.2.2.1 x.2.1.1.2.2.2.2.2.2.2.2.2.2.2.2.1 x.2.1.2.1.1 x.2.1.2.1.2.1 x.2.1.2.1.2.2.1 x.2.1.2.1.2.2.2.2.1 x.2.1.2.1.2.2.2.2.2.1 x.2.1.2.1.2.2.2.2.2.2.1 x.2.1.2.1.2.2.2.2.2.2.2.1 x.2.1.2.1.2.2.2.2.2.2.2.2.1 x.2.1.2.1.2.2.2.2.2.2.2.2.2.2.1 x.2.1.2.1.2.2.2.2.2.2.2.2.2.2.2.1 x.2.1.2.1.2.2.2.2.2.2.2.2.2.2.2.2.1 x.2.2.1 x.2.2.2.1
def yyU (x:(yfy).X):(ybn).X:=((((),()),((),()),(0,()),(x.1.2.2.2.1.1,()),(x.1.2.2.2.2.1.1,()),(0,()),()),((x.2.1.1.1,x.2.1.1.2.1,x.2.1.1.2.2.1,(),x.2.1.1.2.2.2.2.1,x.2.1.1.2.2.2.2.2.1,x.2.1.1.2.2.2.2.2.2.1,x.2.1.1.2.2.2.2.2.2.2.1,x.2.1.1.2.2.2.2.2.2.2.2.1,(),x.2.1.1.2.2.2.2.2.2.2.2.2.2.1,x.2.1.1.2.2.2.2.2.2.2.2.2.2.2.1,x.2.1.1.2.2.2.2.2.2.2.2.2.2.2.2.1,()),(x.2.1.2.1.1,x.2.1.2.1.2.1,x.2.1.2.1.2.2.1,(),x.2.1.2.1.2.2.2.2.1,x.2.1.2.1.2.2.2.2.2.1,x.2.1.2.1.2.2.2.2.2.2.1,x.2.1.2.1.2.2.2.2.2.2.2.1,x.2.1.2.1.2.2.2.2.2.2.2.2.1,(),x.2.1.2.1.2.2.2.2.2.2.2.2.2.2.1,x.2.1.2.1.2.2.2.2.2.2.2.2.2.2.2.1,x.2.1.2.1.2.2.2.2.2.2.2.2.2.2.2.2.1,()),()),(x.2.2.1,x.2.2.2.1,()))
def yAp:Code:=(zdD yjf 64 244).getD .skip
theorem yNK:zdD yjf 64 61=some (.block 1 (.loop yAp)):=by kernel_rfl
theorem yPv (x:(ybn).X):zg0 ⟨ypt,40,yBV⟩ 1 yAp 244 ybn yfq yka x=ybK x:=by kernel_rfl
def yy3 (x:(yfy).X):Nat:=18446744073709551616
def yqX (x:(yfy).X):Option ((yfq).X ⊕ (yka).X):=zz ybK (yy3 x) (yyU x)
def yzh:Seg:=⟨yfy,yfq,yka,yqX⟩
def yBW:Nat→Option Seg:=fun q=>bif Nat.beq q 61 then some yzh else yBV q
theorem yOc:FrOk Tryz.prog ⟨ypt,40,yBW⟩ yjf:=(yOb).loop (sg:=yzh) ybn yyU (by decide) yNK ybK yy3 (by decide) (fun _=>rfl) (fun x r _ h=>h) yPv
abbrev yfO:List Par:= [.rd tA]
abbrev ypD:List OT:= [⟨false,tA,(.pr .fz (.pr (.pr .fz .fz) (.pr (.ow (.pr (.ow (.ow .fz)) (.pr (.ow (.pr .fz (.ow .fz))) (.pr .fz (.ow .fz))))) (.pr .fz (.pr .fz (.pr .fz (.pr .fz (.pr .fz (.pr (.ow (.pr .fz (.ow .fz))) (.pr .fz (.pr .fz .fz)))))))))))⟩,⟨false,tI,.fz⟩]
def yli (a0:dA):Option (ResD ypD×MutD yfO) :=
 let r1:=yah a0
 bif (!r1) then
 let r2:=yC a0
 some ((r2,1,()),())
 else
 bif a0.2.2.2.2.2.2.2.2.2.2.1 then
 let r3:=yC a0
 some ((r3,6,()),())
 else
 let r4:=yC a0
 zjZ (yqX ((((),()),((),()),((),()),(a0.2.2.2.2.2.2.2.2.1,()),((a0.2.2.2.2.2.2.2.2.1.length:Int),()),((),()),()),((0,0,0,(),0,0,0,0,0,(),0,false,false,()),(r4.1,r4.2.1.1,r4.2.1.2,(),r4.2.2.2.1,r4.2.2.2.2.1,r4.2.2.2.2.2.1,r4.2.2.2.2.2.2.1,r4.2.2.2.2.2.2.2.1,(),r4.2.2.2.2.2.2.2.2.2.1,r4.2.2.2.2.2.2.2.2.2.2.1,r4.2.2.2.2.2.2.2.2.2.2.2,()),()),(r4.2.2.1,r4.2.2.2.2.2.2.2.2.1,()))) (fun y6 =>
 some (((y6.2.1.2.1.1,(y6.2.1.2.1.2.1,y6.2.1.2.1.2.2.1),y6.2.2.1,y6.2.1.2.1.2.2.2.2.1,y6.2.1.2.1.2.2.2.2.2.1,y6.2.1.2.1.2.2.2.2.2.2.1,y6.2.1.2.1.2.2.2.2.2.2.2.1,y6.2.1.2.1.2.2.2.2.2.2.2.2.1,y6.2.2.2.1,y6.2.1.2.1.2.2.2.2.2.2.2.2.2.2.1,y6.2.1.2.1.2.2.2.2.2.2.2.2.2.2.2.1,y6.2.1.2.1.2.2.2.2.2.2.2.2.2.2.2.2.1),y6.1.2.2.1.1,()),())) (fun y6 =>
 none)
theorem yWR (x:InD yfO):zjx ⟨ypt,40,yBW⟩ Tryz.f86.results.toList yjf yfO ypD x=yli x.1:=by kernel_rfl
theorem yRv:ConOk Tryz.prog 86 ⟨yfO,ypD,fun x=>yli x.1⟩:=zj2 (yOc) Tryz.func86 (by kernel_rfl) (by kernel_rfl) Tryz.ntmps86.symm (by decide) (fun x r h=>(yWR x).trans h)
def ykt (a0:dA):dA×Int:=yzE a0
theorem yUu (a0:dA) (hk:zi2 yfO (a0,())):yli a0=(fun n=>some ((n.1,n.2,()),())) (ykt a0):=by
 unfold yli ykt yzE
 simp only [yC,yah]
 cases ha:yx a0
 ·rfl
 rcases Bool.eq_false_or_eq_true (ye a0) with hd | hd
 ·rw [show a0.2.2.2.2.2.2.2.2.2.2.1=true from hd,hd]; rfl
 have hl8:=yb6 (yet ha) (yR ha)
 have h1:yqX (yMD a0.2.2.2.2.2.2.2.2.1 (a0.2.2.2.2.2.2.2.2.1.length:Int) yaC a0)=some (.inl (yza (a0.2.2.2.2.2.2.2.2.1.foldl yHT (0,a0)).1 yaC (a0.2.2.2.2.2.2.2.2.1.foldl yHT (0,a0)).2)) :=
  zj4 (step:=ybK) a0.2.2.2.2.2.2.2.2.1 (0,[]) (fun i (s:Int×dA)=>yo4 s.1 a0.2.2.2.2.2.2.2.2.1 (a0.2.2.2.2.2.2.2.2.1.length:Int) i yaC s.2) yHT (fun _ _=>True) (fun s=> .inl (yza s.1 yaC s.2)) (fun i s hi _=>by
   refine ⟨?_,trivial⟩
   simp only [ybK,yo4,ypj,zj5 (show (i:Int) < a0.2.2.2.2.2.2.2.2.1.length by omega),cond_true,wr (show -9223372036854775808≤(i:Int)+1 by omega) (by omega),Int.natCast_add,Int.natCast_one,Int.toNat_natCast,zkm hi,zkn,zks,ybu]
   unfold yHT
   cases (s.1==0)<;>rfl) (fun s _=>by simp only [ybK,yo4,ypj,zky (Int.le_refl _),cond_false]) (0,a0) trivial 18446744073709551616 (by omega)
 simp only [Bool.not_true,cond_false]
 refine (congrArg (fun t=>bif t then _ else _) (show a0.2.2.2.2.2.2.2.2.2.2.1=false from hd)).trans ?_
 rw [hd]
 simp only [cond_false]
 refine (congrArg (fun z=>zjZ z _ _) h1).trans ?_
 rw [y6i a0.2.2.2.2.2.2.2.2.1 0 a0 rfl]
 simp only [zki,zks]
 rfl
def yCu:Con:=⟨yfO,ypD,fun x=>(fun n=>some ((n.1,n.2,()),())) (ykt x.1)⟩
theorem yVk:ConOk Tryz.prog 86 yCu:=(yRv).mono (fun x r hk h=>(yUu x.1 hk).trans h)
end
section
def yGa:Code:=(Tryz.f87.body).getD .skip
def yGQ:Env:=zj3 TT [(103,yqe),(104,yzC),(186,yzB)] []
theorem yOv:FrOk Tryz.prog ⟨yGQ,17,fun _=>none⟩ yGa:=zj7 yb yc ⟨yzJ,yL5,yL4,trivial⟩
def yPW:Nat→Option Seg:=fun _=>none
abbrev yfY:List Par:= [.rd tA]
abbrev ypR:List OT:= [⟨false,tA,(.pr .fz (.pr (.pr .fz .fz) (.pr (.ow (.pr (.ow .fz) (.pr (.ow (.pr .fz .fz)) (.pr .fz (.ow .fz))))) (.pr .fz (.pr .fz (.pr .fz (.pr .fz (.pr .fz (.pr (.ow (.pr .fz .fz)) (.pr .fz (.pr .fz .fz)))))))))))⟩,⟨false,tI,.fz⟩]
def yls (a0:dA):Option (ResD ypR×MutD yfY) :=
 let r1:=ycA a0
 let r2:=ymL a0
 bif (r2 !=0) then
 some ((r1,r2,()),())
 else
 bnd (ymP r1) fun r3 =>
 some ((r3.2.1,r3.1.1,()),())
theorem yW5 (x:InD yfY):zjx ⟨yGQ,17,yPW⟩ Tryz.f87.results.toList yGa yfY ypR x=yls x.1:=by kernel_rfl
theorem yRJ:ConOk Tryz.prog 87 ⟨yfY,ypR,fun x=>yls x.1⟩:=zj2 (yOv) Tryz.func87 (by kernel_rfl) (by kernel_rfl) Tryz.ntmps87.symm (by decide) (fun x r h=>(yW5 x).trans h)
def ykz (a0:dA):dA×Int:=yzE a0
theorem yUG (a0:dA) (hk:zi2 yfY (a0,())):yls a0=(fun n=>some ((n.1,n.2,()),())) (ykz a0):=by
 unfold yls ykz yzE
 simp only [ycA,y6z]
 cases ha:yx a0
 ·rfl
 cases hd:ye a0
 ·rw [yL7 a0 (decide_eq_true (Nat.le_trans (yb6 (yet ha) (yR ha)) (by omega)))]; rfl
 ·rfl
def yCD:Con:=⟨yfY,ypR,fun x=>(fun n=>some ((n.1,n.2,()),())) (ykz x.1)⟩
theorem yVt:ConOk Tryz.prog 87 yCD:=(yRJ).mono (fun x r hk h=>(yUG x.1 hk).trans h)
end
section
def yM4:Code:=(Tryz.f88.body).getD .skip
def yNq:Env:=zj3 TT [] []
theorem yXn:FrOk Tryz.prog ⟨yNq,7,fun _=>none⟩ yM4:=zj7 yb yc trivial
def yZU:Nat→Option Seg:=fun _=>none
abbrev yq4:List Par:= [.rd tA]
abbrev ywV:List OT:= [⟨false,tB,.fz⟩]
def yzS (a0:dA):Option (ResD ywV×MutD yq4) :=
 some ((((a0.2.2.2.2.2.2.2.2.1.length:Int)==0),()),())
theorem y4r (x:InD yq4):zjx ⟨yNq,7,yZU⟩ Tryz.f88.results.toList yM4 yq4 ywV x=yzS x.1:=by kernel_rfl
theorem y1r:ConOk Tryz.prog 88 ⟨yq4,ywV,fun x=>yzS x.1⟩:=zj2 (yXn) Tryz.func88 (by kernel_rfl) (by kernel_rfl) Tryz.ntmps88.symm (by decide) (fun x r h=>(y4r x).trans h)
def yxZ (a0:dA):Bool :=
 ((a0.2.2.2.2.2.2.2.2.1.length:Int)==0)
def yJi:Con:=⟨yq4,ywV,fun x=>(fun n=>some ((n,()),())) (yxZ x.1)⟩
theorem y3G (a0:dA):yzS a0=(fun n=>some ((n,()),())) (yxZ a0):=zkq (p:=fun (n:Bool)=>((n,()),())) rfl
theorem y35:ConOk Tryz.prog 88 yJi:=(y1r).mono (fun x r _ h=>(y3G x.1).trans h)
end
section
def yyz:Code:=(Tryz.f8.body).getD .skip
def yyF:Env:=zj3 TT [(12,yNU),(25,yEt),(76,yv9),(77,yCw),(78,yCE),(79,ywa),(80,yCy),(81,yCF),(82,yrs),(83,yni),(84,yxy),(85,yv8),(86,yCu),(87,yCD),(88,yJi)] []
theorem yHX:FrOk Tryz.prog ⟨yyF,142,fun _=>none⟩ yyz:=zj7 yb yc ⟨y5x,yZq,yKM,yVm,yVu,yKN,yVo,yVv,yF1,yze,yMX,yKL,yVk,yVt,y35,trivial⟩
def yIA:Nat→Option Seg:=fun _=>none
abbrev ycb:List Par:= [.kp tYs .fz]
abbrev yiy:List OT:= [⟨false,tB,.fz⟩]
def ygf (a0:List Int):Option (ResD yiy×MutD ycb) :=
 let r1:=yDx a0
 bif r1 then
 some ((true,()),())
 else
 bnd (ybb a0) fun r2 =>
 let r3:=ykv r2.1.1 r2.1.2.1
 let r4:=ykA r2.1.1 r2.1.2.1
 bnd (ybc a0) fun r5 =>
 let r6:=ykx r5.1.1 r5.1.2.1 r5.1.2.2.1
 let r7:=ykB r5.1.1 r5.1.2.1 r5.1.2.2.1
 bnd (yas a0) fun r8 =>
 let r9:=ybu r8.1.1 r8.1.2.1
 let r10:=yfK r8.1.1 r8.1.2.1
 bnd (yba a0) fun r11 =>
 let r12:=ykt r11.1.1
 let r13:=ykz r11.1.1
 bif (r3.1==r4.1) then
 bif (r3.2==r4.2) then
 bif (r6.2==r7.2) then
 bnd (ybw r6.1 r7.1) fun r14 =>
 bif r14.1.1 then
 bif (r9.2==r10.2) then
 bnd (ybw r9.1 r10.1) fun r15 =>
 bif r15.1.1 then
 bif (r12.2==r13.2) then
 bnd (ybw r12.1 r13.1) fun r16 =>
 bif r16.1.1 then
 let r17:=yxZ r2.1.1
 some (((r17==((r2.1.1.2.2.2.2.2.2.2.2.1.length:Int)==0)),()),())
 else
 some ((false,()),())
 else
 some ((false,()),())
 else
 some ((false,()),())
 else
 some ((false,()),())
 else
 some ((false,()),())
 else
 some ((false,()),())
 else
 some ((false,()),())
 else
 some ((false,()),())
theorem yMk (x:InD ycb):zjx ⟨yyF,142,yIA⟩ Tryz.f8.results.toList yyz ycb yiy x=ygf x.1:=by kernel_rfl
theorem yJL:ConOk Tryz.prog 8 ⟨ycb,yiy,fun x=>ygf x.1⟩:=zj2 (yHX) Tryz.func8 (by kernel_rfl) (by kernel_rfl) Tryz.ntmps8.symm (by decide) (fun x r h=>(yMk x).trans h)
def ypd (a0:List Int):Bool:=true
theorem y6x {a b:dA} (h:yff a) (h1:b.2.2.1=a.2.2.1) (h2:b.2.2.2.2.2.2.2.2.1.length≤a.2.2.2.2.2.2.2.2.1.length+8) (h3:yx a=true):yff b:=by
 refine ⟨by rw [h1]; exact h.1,by rw [h1]; exact h.2.1,?_⟩
 have:=yb6 (yet h3) (yR h3)
 omega
theorem y51 {a:dA} {b n:Int} (h:yff a):yff (yJ5 a b n).1:=by
 unfold yJ5
 cases hc:(yau a b !=0)
 ·obtain ⟨h1,_,_⟩:=yAw (bne_eq_false_iff_eq.1 hc)
  cases isW n
  ·exact h
  ·unfold setOne
   cases (yI a (yB a.2.1 b)).2
   ·exact h
   ·refine y6x h rfl ?_ h1
    show (yFv _ _).length≤_
    rw [y5a h1,y2p (yrt.1 (yet h1)).2,List.length_append,List.length_cons]
    have h4:=List.length_filter_le (fun x:dW=>ltb x.1 (yB a.2.1 b)) a.2.2.2.2.2.2.2.2.1
    have h5:=List.length_filter_le (fun x:dW=>ltb (yB a.2.1 b) x.1) a.2.2.2.2.2.2.2.2.1
    have h6:=yb6 (yet h1) (yR h1)
    simp only at h4 h5 ⊢
    have h7: ∀ (l:List dW) (s:Int),(l.filter (fun x=>ltb x.1 s)).length+(l.filter (fun x=>ltb s x.1)).length≤l.length:=by
     intro l s
     induction l with
     | nil=>exact Nat.le_refl _
     | cons x t ih =>
      rw [List.filter_cons,List.filter_cons,List.length_cons]
      by_cases hx:x.1 < s
      ·rw [zj5 hx,zky (show x.1≤s by omega)]; simp only [if_true,Bool.false_eq_true,if_false,List.length_cons]; omega
      ·rw [zky (show s≤x.1 by omega)]
       cases ltb s x.1<;>simp only [if_true,Bool.false_eq_true,if_false,List.length_cons]<;>omega
    have:=h7 a.2.2.2.2.2.2.2.2.1 (yB a.2.1 b)
    omega
 ·exact h
def Nie (M:Nat) (x:dA):Prop:=x.2.2.1.length≤5∧ya7 x.2.2.1∧x.2.2.2.2.2.2.2.2.1.length≤M
theorem y5M {M:Nat} {x:dA} (h:Nie M x) (hM:M≤1000000000):yff x:=y41 (d:=x.2.2.2.2.2.2.2.2.1) ⟨h.1,h.2.1,rfl⟩ (by have:=h.2.2; omega)
theorem y2J {M:Nat} {a:dA} (s:Int) (h:Nie M a):Nie M (flushE a s).2:=by
 unfold flushE
 cases ltb (yo a.2.2.2.2.2.2.2.2.1 s) 0
 ·generalize (nth a.2.2.2.2.2.2.2.2.1 (yo a.2.2.2.2.2.2.2.2.1 s) (0,[])).2=D
  cases (yp a s D !=0)
  ·have hw:=y58 (d:=a.2.2.2.2.2.2.2.2.1) s D ⟨h.1,h.2.1,rfl⟩
   cases ((yac a s D).1==0)
   ·exact ⟨hw.1,hw.2.1,by show (yac a s D).2.2.2.2.2.2.2.2.2.1.length≤M; rw [hw.2.2]; exact h.2.2⟩
   ·refine ⟨hw.1,hw.2.1,Nat.le_trans ?_ h.2.2⟩
    show (yDq _ _).length≤_
    unfold yDq
    rw [List.length_append,List.length_take,List.length_drop]; omega
  ·exact h
 ·exact h
theorem y5K {M:Nat}: ∀ (k i:Nat) (a:dA),Nie M a→Nie M (goE yD9 (fun b=>(0,b)) k i a).2
 | 0,_,_,h=>h
 | k+1,i,a,h=>by
  have hf:=y2J (nth a.2.2.2.2.2.2.2.2.1 0 (0,[])).1 h
  unfold goE yD9
  cases hc:((flushE a (nth a.2.2.2.2.2.2.2.2.1 0 (0,[])).1).1 !=0)
  ·exact y5K k (i+1) _ hf
  ·exact hf
theorem y5L {a:dA} (h:yx a=true):Nie 8 a:=⟨y4m h,yWE h,yb6 (yet h) (yR h)⟩
theorem y50 {a:dA} {s:Int} (h:yff a):yff (yow a s).1:=by
 unfold yow
 cases ha:yx a
 ·exact h
 cases ye a
 ·cases yP a.2.1 s
  ·exact h
  ·exact y5M (y2J s (y5L ha)) (by omega)
 ·exact h
theorem y40 {a:dA} (h:yff a):yff (yzE a).1:=by
 unfold yzE
 cases ha:yx a
 ·exact h
 cases ye a
 ·exact y5M (y5K _ 0 a (y5L ha)) (by omega)
 ·exact h
theorem yKB (a0:List Int) (hk:zi2 ycb (a0,())):ygf a0=(fun n=>some ((n,()),())) (ypd a0):=by
 have hb:a0.length≤140737488355328:=by have:a0.length * 1≤2 ^ 47:=hk.1.1; omega
 obtain ⟨a,b,e1⟩:=yWM a0 hb
 obtain ⟨c,d,n,e2,q2⟩:=yWN a0 hb
 obtain ⟨f,t,e3,q3⟩:=yNX a0 hb
 obtain ⟨g,e4,q4⟩:=yWL a0 hb
 unfold ygf ypd
 simp only [e1,e2,e3,e4,zkd,ykv,ykA,ykx,ykB,ybu,yfK,ykt,ykz,yxZ,beq_self_eq_true,yVM _ (y51 q2),yVM _ (y50 q3),yVM _ (y40 q4),cond_true]
 cases yDx a0<;>rfl
def yJl:Con:=⟨ycb,yiy,fun x=>(fun n=>some ((n,()),())) (ypd x.1)⟩
theorem yKI:ConOk Tryz.prog 8 yJl:=(yJL).mono (fun x r hk h=>(yKB x.1 hk).trans h)
end
end
end Go.Tf
