/- Functions of the program, and what they come to. -/
import Derived.Test.YtgmadfpnljibhaaGreatArrsF19
namespace Go.Tf
noncomputable section
open Go.Proofs
set_option synthInstance.maxHeartbeats 400000
set_option synthInstance.maxSize 10000
set_option linter.unusedVariables false
set_option linter.unusedSimpArgs false
set_option maxRecDepth 100000
section
def yFv:Code:=(Tryz.f147.body).getD .skip
def yGd:Env:=zj2 TT [(208,yta),(229,yGt),(230,yED)] []
theorem yML:FrOk Tryz.prog ⟨yGd,54,fun _=>none⟩ yFv:=zj6 yc yd ⟨yEU,yZb,yXl,trivial⟩
def yOc:Nat→Option Seg:=fun _=>none
abbrev ydZ:List Par:= [.pt tA (.pr .fz (.pr (.pr .fz .fz) (.pr (.ow (.pr (.ow .fz) (.pr (.ow (.pr .fz .fz)) (.pr .fz (.ow .fz))))) (.pr .fz (.pr .fz (.pr .fz (.pr .fz (.pr .fz (.pr (.ow (.pr .fz .fz)) (.pr .fz (.pr .fz .fz))))))))))),.rd tI,.rd tL]
abbrev ykT:List OT:= [⟨false,tI,.fz⟩]
def yl1 (a0:dA) (a1:Int) (a2:List Int):Option (ResD ykT×MutD ydZ) :=
 bif (leb 4 (IntKind.i64.wrap (a0.2.2.2.2.2.1 - a0.2.2.2.2.2.2.1))) then
 let r1:=ygt a0
 bif r1.2.2.2.2.2.2.2.2.2.2.1 then
 some ((6,()),(r1,()))
 else
 bif (zjR ([]:List Int).length a2.length 8) then
 let r2:=yk8 r1 (r1.2.2.2.2.2.1,a1,(([]:List Int)++a2))
 bif r2.2.2.2.2.2.2.2.2.2.2.1 then
 some ((6,()),(r2,()))
 else
 bnd (yhV (r2.1,r2.2.1,r2.2.2.1,r2.2.2.2.1,r2.2.2.2.2.1,(IntKind.i64.wrap (r2.2.2.2.2.2.1+1)),r2.2.2.2.2.2.2) a1 a2) fun r3 =>
 bif r3.2.1.2.2.2.2.2.2.2.2.2.2.1 then
 some ((6,()),(r3.2.1,()))
 else
 some ((0,()),(r3.2.1,()))
 else none
 else
 bif a0.2.2.2.2.2.2.2.2.2.2.1 then
 some ((6,()),(a0,()))
 else
 bif (zjR ([]:List Int).length a2.length 8) then
 let r4:=yk8 a0 (a0.2.2.2.2.2.1,a1,(([]:List Int)++a2))
 bif r4.2.2.2.2.2.2.2.2.2.2.1 then
 some ((6,()),(r4,()))
 else
 bnd (yhV (r4.1,r4.2.1,r4.2.2.1,r4.2.2.2.1,r4.2.2.2.2.1,(IntKind.i64.wrap (r4.2.2.2.2.2.1+1)),r4.2.2.2.2.2.2) a1 a2) fun r5 =>
 bif r5.2.1.2.2.2.2.2.2.2.2.2.2.1 then
 some ((6,()),(r5.2.1,()))
 else
 some ((0,()),(r5.2.1,()))
 else none
theorem yVN (x:InD ydZ):zjx ⟨yGd,54,yOc⟩ Tryz.f147.results.toList yFv ydZ ykT x=yl1 x.1 x.2.1 x.2.2.1:=by kernel_rfl
theorem yQK:ConOk Tryz.prog 147 ⟨ydZ,ykT,fun x=>yl1 x.1 x.2.1 x.2.2.1⟩:=zj1 (yML) Tryz.func147 (by kernel_rfl) (by kernel_rfl) Tryz.ntmps147.symm (by decide) (fun x r h=>(yVN x).trans h)
def yk9 (a0:dA) (a1:Int) (a2:List Int):Int×dA:=yf4 a0 a1 a2
def ylf (a0:dA) (a1:Int) (a2:List Int):Bool:=yaM a0.2.1 a1&&((a2.length:Int)==a0.2.1.1 - 1&&(a0.2.2.1.length:Int)==a0.2.1.1)
theorem yTM (a0:dA) (a1:Int) (a2:List Int) (hk:zi2 ydZ (a0,a1,a2,())) (hq:ylf a0 a1 a2=true):yl1 a0 a1 a2=(fun n=>some ((n.1,()),(n.2,()))) (yk9 a0 a1 a2):=by
 have hq':=hq
 simp only [ylf,Bool.and_eq_true,beq_iff_eq]at hq
 have hg:=yi.1 (ybC.1 hq.1).1
 have hap:zjR ([]:List Int).length a2.length 8=true:=zka.2 (by simp only [List.length_nil]; omega)
 have key: ∀ b:dA,b.2.1=a0.2.1→b.2.2.1.length=a0.2.2.1.length→yhV (yhz (ylg b (b.2.2.2.2.2.1,a1,a2))) a1 a2=some ((),(ye9 (yhz (ylg b (b.2.2.2.2.2.1,a1,a2))) a1 a2,())):=fun b h1 h2=>yXo _ _ _ (by
  unfold ym7
  rw [show (yhz (ylg b (b.2.2.2.2.2.1,a1,a2))).2.1=a0.2.1 from (ypz (yxn _ _)).trans h1,show (yhz (ylg b (b.2.2.2.2.2.1,a1,a2))).2.2.1.length=a0.2.2.1.length from (y2I _ _).trans h2]
  exact hq')
 unfold yl1 yk9 yf4 yaD
 simp only [yIy,yk8,List.nil_append,hap,cond_true]
 cases leb 4 (IntKind.i64.wrap (a0.2.2.2.2.2.1 - a0.2.2.2.2.2.2.1))
 ·have hd:=key a0 rfl rfl
  simp only [cond_false]
  generalize ylg a0 (a0.2.2.2.2.2.1,a1,a2)=R at hd ⊢
  generalize ye9 (yhz R) a1 a2=Q at hd ⊢
  unfold yhz at hd
  simp only [cond_false,hd,zkc]
  unfold downA
  cases a0.2.2.2.2.2.2.2.2.2.2.1
  ·cases R.2.2.2.2.2.2.2.2.2.2.1
   ·cases Q.2.2.2.2.2.2.2.2.2.2.1<;>rfl
   ·rfl
  ·rfl
 ·have hd:=key (checkA a0) (yXw a0) (y1j a0)
  simp only [cond_true]
  generalize checkA a0=C at hd ⊢
  generalize ylg C (C.2.2.2.2.2.1,a1,a2)=R at hd ⊢
  generalize ye9 (yhz R) a1 a2=Q at hd ⊢
  unfold yhz at hd
  simp only [cond_true,hd,zkc]
  unfold downA
  cases C.2.2.2.2.2.2.2.2.2.2.1
  ·cases R.2.2.2.2.2.2.2.2.2.2.1
   ·cases Q.2.2.2.2.2.2.2.2.2.2.1<;>rfl
   ·rfl
  ·rfl
def yqJ (a0:dA) (a1:Int) (a2:List Int):Option (ResD ykT×MutD ydZ):=bif ylf a0 a1 a2 then (fun n=>some ((n.1,()),(n.2,()))) (yk9 a0 a1 a2) else none
theorem yUJ (a0:dA) (a1:Int) (a2:List Int) (h:ylf a0 a1 a2=true):yqJ a0 a1 a2=(fun n=>some ((n.1,()),(n.2,()))) (yk9 a0 a1 a2):=by unfold yqJ; rw [h]; rfl
def yBJ:Con:=⟨ydZ,ykT,fun x=>yqJ x.1 x.2.1 x.2.2.1⟩
theorem yUE:ConOk Tryz.prog 147 yBJ:=(yQK).mono (fun x r hk h=>zks h (fun hq=>yTM x.1 x.2.1 x.2.2.1 hk hq))
end
section
def yFw:Code:=(Tryz.f185.body).getD .skip
def yGe:Env:=zj2 TT [(146,yEC),(147,yBJ),(243,yyL)] [(36928,(.pr .fz .fz))]
theorem yMM:FrOk Tryz.prog ⟨yGe,63,fun _=>none⟩ yFw:=zj6 yc yd ⟨yXk,yUE,yLk,trivial⟩
def yOd:Nat→Option Seg:=fun _=>none
abbrev yd0:List Par:= [.pt tA (.pr .fz (.pr (.pr .fz .fz) (.pr (.ow (.pr (.ow .fz) (.pr (.ow (.pr .fz .fz)) (.pr .fz (.ow .fz))))) (.pr .fz (.pr .fz (.pr .fz (.pr .fz (.pr .fz (.pr (.ow (.pr .fz .fz)) (.pr .fz (.pr .fz .fz))))))))))),.rd tI]
abbrev ykU:List OT:= [⟨false,tI,.fz⟩]
def yl2 (a0:dA) (a1:Int):Option (ResD ykU×MutD yd0) :=
 let r1:=yjo a0 a1
 bif (ltb r1 0) then
 some ((0,()),(a0,()))
 else
 bif (inb r1 a0.2.2.2.2.2.2.2.2.1.length) then
 let r2:=yar a0 a1 ((nth a0.2.2.2.2.2.2.2.2.1 r1 (0,[])).2)
 bif (r2 !=0) then
 some ((r2,()),(a0,()))
 else
 bif (inb r1 a0.2.2.2.2.2.2.2.2.1.length) then
 bnd (yqJ a0 a1 ((nth a0.2.2.2.2.2.2.2.2.1 r1 (0,[])).2)) fun r3 =>
 bif (r3.1.1==0) then
 bif (zjw 0 r1 r3.2.1.2.2.2.2.2.2.2.2.1.length) then
 bif (zjR ([]:List dW).length ((r3.2.1.2.2.2.2.2.2.2.2.1.drop (0:Int).toNat).take (r1 - 0).toNat).length 32) then
 bif (zjw (IntKind.i64.wrap (r1+1)) (r3.2.1.2.2.2.2.2.2.2.2.1.length:Int) r3.2.1.2.2.2.2.2.2.2.2.1.length) then
 bif (zjR (([]:List dW)++((r3.2.1.2.2.2.2.2.2.2.2.1.drop (0:Int).toNat).take (r1 - 0).toNat)).length ((r3.2.1.2.2.2.2.2.2.2.2.1.drop ((IntKind.i64.wrap (r1+1))).toNat).take ((r3.2.1.2.2.2.2.2.2.2.2.1.length:Int) - (IntKind.i64.wrap (r1+1))).toNat).length 32) then
 some ((r3.1.1,()),((r3.2.1.1,r3.2.1.2.1,r3.2.1.2.2.1,r3.2.1.2.2.2.1,r3.2.1.2.2.2.2.1,r3.2.1.2.2.2.2.2.1,r3.2.1.2.2.2.2.2.2.1,r3.2.1.2.2.2.2.2.2.2.1,((([]:List dW)++((r3.2.1.2.2.2.2.2.2.2.2.1.drop (0:Int).toNat).take (r1 - 0).toNat))++((r3.2.1.2.2.2.2.2.2.2.2.1.drop ((IntKind.i64.wrap (r1+1))).toNat).take ((r3.2.1.2.2.2.2.2.2.2.2.1.length:Int) - (IntKind.i64.wrap (r1+1))).toNat)),r3.2.1.2.2.2.2.2.2.2.2.2),()))
 else none
 else none
 else none
 else none
 else
 some ((r3.1.1,()),(r3.2.1,()))
 else none
 else none
theorem yVO (x:InD yd0):zjx ⟨yGe,63,yOd⟩ Tryz.f185.results.toList yFw yd0 ykU x=yl2 x.1 x.2.1:=by kernel_rfl
theorem yQL:ConOk Tryz.prog 185 ⟨yd0,ykU,fun x=>yl2 x.1 x.2.1⟩:=zj1 (yMM) Tryz.func185 (by kernel_rfl) (by kernel_rfl) Tryz.ntmps185.symm (by decide) (fun x r h=>(yVO x).trans h)
def yla (a0:dA) (a1:Int):Int×dA:=flushE a0 a1
def yxg (a0:dA) (a1:Int):Bool:=decide (a0.2.2.2.2.2.2.2.2.1.length≤1000)
theorem yTN (a0:dA) (a1:Int) (hk:zi2 yd0 (a0,a1,())) (hq:yxg a0 a1=true):yl2 a0 a1=(fun n=>some ((n.1,()),(n.2,()))) (yla a0 a1):=by
 have hq:=of_decide_eq_true hq
 unfold yl2 yla flushE
 simp only [yjo]
 cases h0:ltb (yC a0.2.2.2.2.2.2.2.2.1 a1) 0
 ·have h1:=zkq h0
  have hi:inb (yC a0.2.2.2.2.2.2.2.2.1 a1) a0.2.2.2.2.2.2.2.2.1.length=true:=(ytc (d:=((0:Int),([]:List Int))) (zkw h1)).1
  simp only [hi,cond_true,cond_false]
  generalize hD:(nth a0.2.2.2.2.2.2.2.2.1 (yC a0.2.2.2.2.2.2.2.2.1 a1) (0,[])).2=D
  cases hc:(yar a0 a1 D !=0)
  ·obtain ⟨ha,hl,hw,hd,hs,hb,_⟩:=yXy (bne_eq_false_iff_eq.1 hc)
   rw [yUJ a0 a1 D (by unfold ylf; rw [hs,hl,yD2 ha]; simp)]
   simp only [zkc,cond_false,yk9,y0K]
   have hk:=zjD.1 hi
   cases hr:((yf4 a0 a1 D).1==0)
   ·rfl
   ·generalize yC a0.2.2.2.2.2.2.2.2.1 a1=K at h1 hk
    rw [wr (show -9223372036854775808≤K+1 by omega) (by omega),zj5.2 (show (0:Int)≤0∧0≤K∧K≤(a0.2.2.2.2.2.2.2.2.1.length:Int) by omega),zj5.2 (show 0≤K+1∧K+1≤(a0.2.2.2.2.2.2.2.2.1.length:Int)∧(a0.2.2.2.2.2.2.2.2.1.length:Int)≤(a0.2.2.2.2.2.2.2.2.1.length:Int) by omega),
     zka.2 (by rw [List.length_take,List.length_drop,List.length_nil]; omega),zka.2 (by rw [List.length_append,List.length_take,List.length_take,List.length_drop,List.length_drop,List.length_nil]; omega),y1m h1 hk.2]
    rw [beq_iff_eq.1 hr]; rfl
  ·rfl
 ·rfl
def ycp (a0:dA) (a1:Int):Option (ResD ykU×MutD yd0):=bif yxg a0 a1 then (fun n=>some ((n.1,()),(n.2,()))) (yla a0 a1) else none
theorem yEX (a0:dA) (a1:Int) (h:yxg a0 a1=true):ycp a0 a1=(fun n=>some ((n.1,()),(n.2,()))) (yla a0 a1):=by unfold ycp; rw [h]; rfl
def ytb:Con:=⟨yd0,ykU,fun x=>ycp x.1 x.2.1⟩
theorem yEV:ConOk Tryz.prog 185 ytb:=(yQL).mono (fun x r hk h=>zks h (fun hq=>yTN x.1 x.2.1 hk hq))
end
section
def yoZ:Code:=(Tryz.f186.body).getD .skip
def yug:Env:=zj2 TT [(185,ytb)] []
theorem yS9:FrOk Tryz.prog ⟨yug,22,fun _=>none⟩ yoZ:=zj6 yc yd ⟨yEV,trivial⟩
def yFV:Nat→Option Seg:=fun _=>none
def yd3:Shape:=⟨[(0,false,[.ptr 1000000000 0])],[(1000000000,[.int .i64,.int .i64,.int .i64,.at 800000000,.int .i64,.int .i64,.int .i64,.int .i64,.int .i64,.at 800000001,.int .i64,.bool,.bool])],[(800000000,tM,(.pr (.ow .fz) (.pr (.ow (.pr .fz .fz)) (.pr .fz (.ow .fz))))),(800000001,tW,(.pr .fz .fz))]⟩
def ykM:Shape:=⟨[(0,false,[.ptr 1000000000 0])],[(1000000000,[.int .i64,.int .i64,.int .i64,.at 800000000,.int .i64,.int .i64,.int .i64,.int .i64,.int .i64,.at 800000001,.int .i64,.bool,.bool])],[(800000000,tM,(.pr (.ow .fz) (.pr (.ow (.pr .fz .fz)) (.pr .fz (.ow .fz))))),(800000001,tW,(.pr .fz .fz))]⟩
def ykI:Shape:=⟨[],[(1000000000,[.int .i64,.int .i64,.int .i64,.at 800000000,.int .i64,.int .i64,.int .i64,.int .i64,.int .i64,.at 800000001,.int .i64,.bool,.bool])],[(800000000,tM,(.pr (.ow .fz) (.pr (.ow (.pr .fz .fz)) (.pr .fz (.ow .fz))))),(800000001,tW,(.pr .fz .fz))]⟩
def ykW:Shape:=⟨[(2,false,[.int .i64])],[(1000000000,[.int .i64,.int .i64,.int .i64,.at 800000000,.int .i64,.int .i64,.int .i64,.int .i64,.int .i64,.at 800000001,.int .i64,.bool,.bool])],[(800000000,tM,(.pr (.ow .fz) (.pr (.ow (.pr .fz .fz)) (.pr .fz (.ow .fz))))),(800000001,tW,(.pr .fz .fz))]⟩
abbrev yvt (v0:dA):(yd3).X:=((((),()),()),((v0.1,v0.2.1.1,v0.2.1.2,(),v0.2.2.2.1,v0.2.2.2.2.1,v0.2.2.2.2.2.1,v0.2.2.2.2.2.2.1,v0.2.2.2.2.2.2.2.1,(),v0.2.2.2.2.2.2.2.2.2.1,v0.2.2.2.2.2.2.2.2.2.2.1,v0.2.2.2.2.2.2.2.2.2.2.2,()),()),(v0.2.2.1,v0.2.2.2.2.2.2.2.2.1,()))
abbrev yTo (v0:dA):(ykM).X:=((((),()),()),((v0.1,v0.2.1.1,v0.2.1.2,(),v0.2.2.2.1,v0.2.2.2.2.1,v0.2.2.2.2.2.1,v0.2.2.2.2.2.2.1,v0.2.2.2.2.2.2.2.1,(),v0.2.2.2.2.2.2.2.2.2.1,v0.2.2.2.2.2.2.2.2.2.2.1,v0.2.2.2.2.2.2.2.2.2.2.2,()),()),(v0.2.2.1,v0.2.2.2.2.2.2.2.2.1,()))
abbrev yTk (v0:dA):(ykI).X:=((),((v0.1,v0.2.1.1,v0.2.1.2,(),v0.2.2.2.1,v0.2.2.2.2.1,v0.2.2.2.2.2.1,v0.2.2.2.2.2.2.1,v0.2.2.2.2.2.2.2.1,(),v0.2.2.2.2.2.2.2.2.2.1,v0.2.2.2.2.2.2.2.2.2.2.1,v0.2.2.2.2.2.2.2.2.2.2.2,()),()),(v0.2.2.1,v0.2.2.2.2.2.2.2.2.1,()))
abbrev yTr (v0:Int) (v1:dA):(ykW).X:=(((v0,()),()),((v1.1,v1.2.1.1,v1.2.1.2,(),v1.2.2.2.1,v1.2.2.2.2.1,v1.2.2.2.2.2.1,v1.2.2.2.2.2.2.1,v1.2.2.2.2.2.2.2.1,(),v1.2.2.2.2.2.2.2.2.2.1,v1.2.2.2.2.2.2.2.2.2.2.1,v1.2.2.2.2.2.2.2.2.2.2.2,()),()),(v1.2.2.1,v1.2.2.2.2.2.2.2.2.1,()))
def yv5 (v0 v1 v2 v3 v4 v5 v6 v7 v8:Int) (v9 v10:Bool) (v11:List dM) (v12:List dW):Option ((yd3).X ⊕ ((ykI).X ⊕ (ykW).X)) :=
 bif (ltb 0 (v12.length:Int)) then
 bif (inb 0 v12.length) then
 bnd (ycp (v0,(v1,v2),v11,v3,v4,v5,v6,v7,v12,v8,v9,v10) ((nth v12 0 (0,[])).1)) fun r2 =>
 bif (r2.1.1 !=0) then
 some (.inr (.inr (((r2.1.1,()),()),((r2.2.1.1,r2.2.1.2.1.1,r2.2.1.2.1.2,(),r2.2.1.2.2.2.1,r2.2.1.2.2.2.2.1,r2.2.1.2.2.2.2.2.1,r2.2.1.2.2.2.2.2.2.1,r2.2.1.2.2.2.2.2.2.2.1,(),r2.2.1.2.2.2.2.2.2.2.2.2.1,r2.2.1.2.2.2.2.2.2.2.2.2.2.1,r2.2.1.2.2.2.2.2.2.2.2.2.2.2,()),()),(r2.2.1.2.2.1,r2.2.1.2.2.2.2.2.2.2.2.1,()))))
 else
 some (.inl ((((),()),()),((r2.2.1.1,r2.2.1.2.1.1,r2.2.1.2.1.2,(),r2.2.1.2.2.2.1,r2.2.1.2.2.2.2.1,r2.2.1.2.2.2.2.2.1,r2.2.1.2.2.2.2.2.2.1,r2.2.1.2.2.2.2.2.2.2.1,(),r2.2.1.2.2.2.2.2.2.2.2.2.1,r2.2.1.2.2.2.2.2.2.2.2.2.2.1,r2.2.1.2.2.2.2.2.2.2.2.2.2.2,()),()),(r2.2.1.2.2.1,r2.2.1.2.2.2.2.2.2.2.2.1,())))
 else none
 else
 some (.inr (.inl ((),((v0,v1,v2,(),v3,v4,v5,v6,v7,(),v8,v9,v10,()),()),(v11,v12,()))))
def yec (x:(yd3).X):=yv5 x.2.1.1.1 x.2.1.1.2.1 x.2.1.1.2.2.1 x.2.1.1.2.2.2.2.1 x.2.1.1.2.2.2.2.2.1 x.2.1.1.2.2.2.2.2.2.1 x.2.1.1.2.2.2.2.2.2.2.1 x.2.1.1.2.2.2.2.2.2.2.2.1 x.2.1.1.2.2.2.2.2.2.2.2.2.2.1 x.2.1.1.2.2.2.2.2.2.2.2.2.2.2.1 x.2.1.1.2.2.2.2.2.2.2.2.2.2.2.2.1 x.2.2.1 x.2.2.2.1
def yEH (x:(ykM).X):(yd3).X:=((((),()),()),((x.2.1.1.1,x.2.1.1.2.1,x.2.1.1.2.2.1,(),x.2.1.1.2.2.2.2.1,x.2.1.1.2.2.2.2.2.1,x.2.1.1.2.2.2.2.2.2.1,x.2.1.1.2.2.2.2.2.2.2.1,x.2.1.1.2.2.2.2.2.2.2.2.1,(),x.2.1.1.2.2.2.2.2.2.2.2.2.2.1,x.2.1.1.2.2.2.2.2.2.2.2.2.2.2.1,x.2.1.1.2.2.2.2.2.2.2.2.2.2.2.2.1,()),()),(x.2.2.1,x.2.2.2.1,()))
def yGj:Code:=(zdD yoZ 64 24).getD .skip
theorem yVn:zdD yoZ 64 6=some (.block 0 (.loop yGj)):=by kernel_rfl
theorem yXr (x:(yd3).X):zg0 ⟨yug,22,yFV⟩ 0 yGj 24 yd3 ykI ykW x=yec x:=by kernel_rfl
def yEM (x:(ykM).X):Nat:=18446744073709551616
def ywS (x:(ykM).X):Option ((ykI).X ⊕ (ykW).X):=zz yec (yEM x) (yEH x)
def yE0:Seg:=⟨ykM,ykI,ykW,ywS⟩
def yFW:Nat→Option Seg:=fun q=>bif Nat.beq q 6 then some yE0 else yFV q
theorem yTa:FrOk Tryz.prog ⟨yug,22,yFW⟩ yoZ:=(yS9).loop (sg:=yE0) yd3 yEH (by decide) yVn yec yEM (by decide) (fun _=>rfl) (fun x r _ h=>h) yXr
abbrev ygI:List Par:= [.pt tA (.pr .fz (.pr (.pr .fz .fz) (.pr (.ow (.pr (.ow .fz) (.pr (.ow (.pr .fz .fz)) (.pr .fz (.ow .fz))))) (.pr .fz (.pr .fz (.pr .fz (.pr .fz (.pr .fz (.pr (.ow (.pr .fz .fz)) (.pr .fz (.pr .fz .fz)))))))))))]
abbrev ypr:List OT:= [⟨false,tI,.fz⟩]
def yqX (a0:dA):Option (ResD ypr×MutD ygI) :=
 zkh (ywS ((((),()),()),((a0.1,a0.2.1.1,a0.2.1.2,(),a0.2.2.2.1,a0.2.2.2.2.1,a0.2.2.2.2.2.1,a0.2.2.2.2.2.2.1,a0.2.2.2.2.2.2.2.1,(),a0.2.2.2.2.2.2.2.2.2.1,a0.2.2.2.2.2.2.2.2.2.2.1,a0.2.2.2.2.2.2.2.2.2.2.2,()),()),(a0.2.2.1,a0.2.2.2.2.2.2.2.2.1,()))) (fun y2 =>
 some ((0,()),((y2.2.1.1.1,(y2.2.1.1.2.1,y2.2.1.1.2.2.1),y2.2.2.1,y2.2.1.1.2.2.2.2.1,y2.2.1.1.2.2.2.2.2.1,y2.2.1.1.2.2.2.2.2.2.1,y2.2.1.1.2.2.2.2.2.2.2.1,y2.2.1.1.2.2.2.2.2.2.2.2.1,y2.2.2.2.1,y2.2.1.1.2.2.2.2.2.2.2.2.2.2.1,y2.2.1.1.2.2.2.2.2.2.2.2.2.2.2.1,y2.2.1.1.2.2.2.2.2.2.2.2.2.2.2.2.1),()))) (fun y2 =>
 some ((y2.1.1.1,()),((y2.2.1.1.1,(y2.2.1.1.2.1,y2.2.1.1.2.2.1),y2.2.2.1,y2.2.1.1.2.2.2.2.1,y2.2.1.1.2.2.2.2.2.1,y2.2.1.1.2.2.2.2.2.2.1,y2.2.1.1.2.2.2.2.2.2.2.1,y2.2.1.1.2.2.2.2.2.2.2.2.1,y2.2.2.2.1,y2.2.1.1.2.2.2.2.2.2.2.2.2.2.1,y2.2.1.1.2.2.2.2.2.2.2.2.2.2.2.1,y2.2.1.1.2.2.2.2.2.2.2.2.2.2.2.2.1),())))
theorem yZV (x:InD ygI):zjx ⟨yug,22,yFW⟩ Tryz.f186.results.toList yoZ ygI ypr x=yqX x.1:=by kernel_rfl
theorem yWY:ConOk Tryz.prog 186 ⟨ygI,ypr,fun x=>yqX x.1⟩:=zj1 (yTa) Tryz.func186 (by kernel_rfl) (by kernel_rfl) Tryz.ntmps186.symm (by decide) (fun x r h=>(yZV x).trans h)
def yvC (a0:dA):Int×dA:=allE a0
def yCF (a0:dA):Bool:=decide (a0.2.2.2.2.2.2.2.2.1.length≤1000)
theorem yYV (a0:dA) (hk:zi2 ygI (a0,())) (hq:yCF a0=true):yqX a0=(fun n=>some ((n.1,()),(n.2,()))) (yvC a0):=by
 have hq:=of_decide_eq_true hq
 have h1:=zj7 (step:=yec) a0.2.2.2.2.2.2.2.2.1.length (fun _ s=>yvt s) yOq (fun i s=>s.2.2.2.2.2.2.2.2.1.length+i=a0.2.2.2.2.2.2.2.2.1.length) (fun b=>(0,b))
  (fun r=>bif r.1==0 then .inl (yTk r.2) else .inr (yTr r.1 r.2)) (fun i s hi hs=>by
   have hp:0 < s.2.2.2.2.2.2.2.2.1.length:=by omega
   constructor
   ·simp only [yec,yvt,yv5,zkr,zj4 (show (0:Int) < (s.2.2.2.2.2.2.2.2.1.length:Int) by omega),cond_true,show inb 0 s.2.2.2.2.2.2.2.2.1.length=true from zkl (i:=0) hp]
    rw [yEX s (nth s.2.2.2.2.2.2.2.2.1 0 (0,[])).1 (decide_eq_true (show s.2.2.2.2.2.2.2.2.1.length≤1000 by omega))]
    simp only [zkc,yla]
    unfold yOq
    generalize flushE s (nth s.2.2.2.2.2.2.2.2.1 0 (0,[])).1=R
    cases hr:(R.1 !=0)
    ·rfl
    ·simp only [cond_true]
     rw [show (R.1==0)=false from beq_eq_false_iff_ne.2 (bne_iff_ne.1 hr)]; rfl
   ·intro s' h
    unfold yOq at h
    cases hr:((flushE s (nth s.2.2.2.2.2.2.2.2.1 0 (0,[])).1).1 !=0)
    ·rw [hr]at h
     simp only [cond_false,Sum.inl.injEq]at h
     rw [← h,y04 hp (bne_eq_false_iff_eq.1 hr),List.length_drop]; omega
    ·rw [hr]at h; cases h) (fun s hs=>by
   simp only [yec,yvt,yv5,show ltb 0 (s.2.2.2.2.2.2.2.2.1.length:Int)=false from zkx (by omega)]; rfl) a0 rfl 18446744073709551616 (by omega)
 unfold yqX yvC allE
 refine (congrArg (fun z=>zkh z _ _) (show ywS (yTo a0)=_ from h1)).trans ?_
 generalize goE yOq (fun b=>(0,b)) a0.2.2.2.2.2.2.2.2.1.length 0 a0=R
 cases hr:(R.1==0)
 ·rfl
 ·simp only [cond_true,zki,zkr]
  rw [show R.1=0 from beq_iff_eq.1 hr]
def ypP (a0:dA):Option (ResD ypr×MutD ygI):=bif yCF a0 then (fun n=>some ((n.1,()),(n.2,()))) (yvC a0) else none
theorem yZf (a0:dA) (h:yCF a0=true):ypP a0=(fun n=>some ((n.1,()),(n.2,()))) (yvC a0):=by unfold ypP; rw [h]; rfl
def yGu:Con:=⟨ygI,ypr,fun x=>ypP x.1⟩
theorem yZc:ConOk Tryz.prog 186 yGu:=(yWY).mono (fun x r hk h=>zks h (fun hq=>yYV x.1 hk hq))
end
section
def yFo:Code:=(Tryz.f232.body).getD .skip
def yF6:Env:=zj2 TT [(152,yi2)] [(12288,(.pr .fz .fz))]
theorem yMw:FrOk Tryz.prog ⟨yF6,10,fun _=>none⟩ yFo:=zj6 yc yd ⟨yqK,trivial⟩
def yN5:Nat→Option Seg:=fun _=>none
abbrev ykx:List Par:= [.rd tM]
abbrev yqo:List OT:= [⟨false,tM,(.pr (.ow .fz) (.pr (.ow (.pr .fz .fz)) (.pr .fz (.ow .fz))))⟩]
def ytz (a0:dM):Option (ResD yqo×MutD ykx) :=
 let r1:=yab a0
 some (((r1.1,([]:List dW),true,r1.2.2.2),()),())
theorem yVC (x:InD ykx):zjx ⟨yF6,10,yN5⟩ Tryz.f232.results.toList yFo ykx yqo x=ytz x.1:=by kernel_rfl
theorem yQz:ConOk Tryz.prog 232 ⟨ykx,yqo,fun x=>ytz x.1⟩:=zj1 (yMw) Tryz.func232 (by kernel_rfl) (by kernel_rfl) Tryz.ntmps232.symm (by decide) (fun x r h=>(yVC x).trans h)
def yk3 (a0:dM):dM :=
 let r1:=yab a0
 (r1.1,([]:List dW),true,r1.2.2.2)
def ys8:Con:=⟨ykx,yqo,fun x=>(fun n=>some ((n,()),())) (yk3 x.1)⟩
theorem yTC (a0:dM):ytz a0=(fun n=>some ((n,()),())) (yk3 a0):=zkp (p:=fun (n:dM)=>((n,()),())) rfl
theorem yES:ConOk Tryz.prog 232 ys8:=(yQz).mono (fun x r _ h=>(yTC x.1).trans h)
end
section
def yFr:Code:=(Tryz.f199.body).getD .skip
def yF9:Env:=zj2 TT [(203,yoq),(232,ys8)] []
theorem yMB:FrOk Tryz.prog ⟨yF9,62,fun _=>none⟩ yFr:=zj6 yc yd ⟨yxa,yES,trivial⟩
def yN8:Nat→Option Seg:=fun _=>none
abbrev ydU:List Par:= [.pt tA (.pr .fz (.pr (.pr .fz .fz) (.pr (.ow (.pr (.ow .fz) (.pr (.ow (.pr .fz .fz)) (.pr .fz (.ow .fz))))) (.pr .fz (.pr .fz (.pr .fz (.pr .fz (.pr .fz (.pr (.ow (.pr .fz .fz)) (.pr .fz (.pr .fz .fz))))))))))),.rd tI]
abbrev ykP:List OT:= []
def ylW (a0:dA) (a1:Int):Option (ResD ykP×MutD ydU) :=
 bif (inb a1 a0.2.2.1.length) then
 let r1:=yk3 ((nth a0.2.2.1 a1 ([],[],false,[])).1,((nth a0.2.2.1 a1 ([],[],false,[])).2).1,(((nth a0.2.2.1 a1 ([],[],false,[])).2).2))
 bif (inb a1 a0.2.2.1.length) then
 bif (!(a0.2.2.2.1==(-1))) then
 bif (a0.2.2.2.1==a1) then
 bif (!a0.2.2.2.2.2.2.2.2.2.2.1) then
 bif (!a0.2.2.2.2.2.2.2.2.2.2.2) then
 bif (ltb a0.2.2.2.2.2.2.2.1 60000) then
 let r2:=yas (a0.1,a0.2.1,(a0.2.2.1.set (a1).toNat r1),a1,0,a0.2.2.2.2.2)
 some ((),(r2,()))
 else
 some ((),((a0.1,a0.2.1,(a0.2.2.1.set (a1).toNat r1),a1,0,a0.2.2.2.2.2),()))
 else
 some ((),((a0.1,a0.2.1,(a0.2.2.1.set (a1).toNat r1),a1,0,a0.2.2.2.2.2),()))
 else
 some ((),((a0.1,a0.2.1,(a0.2.2.1.set (a1).toNat r1),a1,0,a0.2.2.2.2.2),()))
 else
 bif (!a0.2.2.2.2.2.2.2.2.2.2.1) then
 some ((),((a0.1,a0.2.1,(a0.2.2.1.set (a1).toNat r1),a0.2.2.2.1,a0.2.2.2.2.1,a0.2.2.2.2.2.1,a0.2.2.2.2.2.2.1,a0.2.2.2.2.2.2.2.1,a0.2.2.2.2.2.2.2.2.1,a0.2.2.2.2.2.2.2.2.2.1,a0.2.2.2.2.2.2.2.2.2.2.1,true),()))
 else
 some ((),((a0.1,a0.2.1,(a0.2.2.1.set (a1).toNat r1),a0.2.2.2.1,a0.2.2.2.2.1,a0.2.2.2.2.2.1,a0.2.2.2.2.2.2.1,a0.2.2.2.2.2.2.2.1,a0.2.2.2.2.2.2.2.2.1,a0.2.2.2.2.2.2.2.2.2.1,a0.2.2.2.2.2.2.2.2.2.2.1,true),()))
 else
 bif (!a0.2.2.2.2.2.2.2.2.2.2.1) then
 bif (!a0.2.2.2.2.2.2.2.2.2.2.2) then
 bif (ltb a0.2.2.2.2.2.2.2.1 60000) then
 let r3:=yas (a0.1,a0.2.1,(a0.2.2.1.set (a1).toNat r1),a1,0,a0.2.2.2.2.2)
 some ((),(r3,()))
 else
 some ((),((a0.1,a0.2.1,(a0.2.2.1.set (a1).toNat r1),a1,0,a0.2.2.2.2.2),()))
 else
 some ((),((a0.1,a0.2.1,(a0.2.2.1.set (a1).toNat r1),a1,0,a0.2.2.2.2.2),()))
 else
 some ((),((a0.1,a0.2.1,(a0.2.2.1.set (a1).toNat r1),a1,0,a0.2.2.2.2.2),()))
 else none
 else none
theorem yVG (x:InD ydU):zjx ⟨yF9,62,yN8⟩ Tryz.f199.results.toList yFr ydU ykP x=ylW x.1 x.2.1:=by kernel_rfl
theorem yQD:ConOk Tryz.prog 199 ⟨ydU,ykP,fun x=>ylW x.1 x.2.1⟩:=zj1 (yMB) Tryz.func199 (by kernel_rfl) (by kernel_rfl) Tryz.ntmps199.symm (by decide) (fun x r h=>(yVG x).trans h)
def yqE (a0:dA) (a1:Int):dA:=failOne a0 a1
def yxd (a0:dA) (a1:Int):Bool:=inb a1 a0.2.2.1.length
theorem yTG (a0:dA) (a1:Int) (hk:zi2 ydU (a0,a1,())) (hq:yxd a0 a1=true):ylW a0 a1=(fun n=>some ((),(n,()))) (yqE a0 a1):=by
 have hq:inb a1 a0.2.2.1.length=true:=hq
 unfold ylW yqE failOne yGV ySq yAO downA
 simp only [hq,zkr,yk3,yab,yas]
 cases (a0.2.2.2.1== -1)<;>cases (a0.2.2.2.1==a1)<;>cases a0.2.2.2.2.2.2.2.2.2.2.1<;>cases a0.2.2.2.2.2.2.2.2.2.2.2<;>cases ltb a0.2.2.2.2.2.2.2.1 60000<;>rfl
def ylb (a0:dA) (a1:Int):Option (ResD ykP×MutD ydU):=bif yxd a0 a1 then (fun n=>some ((),(n,()))) (yqE a0 a1) else none
theorem yUG (a0:dA) (a1:Int) (h:yxd a0 a1=true):ylb a0 a1=(fun n=>some ((),(n,()))) (yqE a0 a1):=by unfold ylb; rw [h]; rfl
def yBG:Con:=⟨ydU,ykP,fun x=>ylb x.1 x.2.1⟩
theorem yUB:ConOk Tryz.prog 199 yBG:=(yQD).mono (fun x r hk h=>zks h (fun hq=>yTG x.1 x.2.1 hk hq))
end
section
def yh3:Code:=(Tryz.f265.body).getD .skip
def ynK:Env:=zj2 TT [(135,yr),(152,yi2),(224,ygq),(238,yw0)] []
theorem yKC:FrOk Tryz.prog ⟨ynK,68,fun _=>none⟩ yh3:=zj6 yc yd ⟨yx,yqK,ym5,yIv,trivial⟩
def yzo:Nat→Option Seg:=fun _=>none
def yaB:Shape:=⟨[(1,false,[.int .i64]),(4,false,[.ptr 64 0]),(5,false,[.ptr 4224 0]),(6,false,[.int .i64])],[(64,[.nil,.nil,.bool,.nil]),(4224,[.at 800000000,.at 800000001,.bool,.at 800000002])],[(800000000,tL,.fz),(800000001,tW,(.pr .fz .fz)),(800000002,tI,.fz)]⟩
def ydQ:Shape:=⟨[(1,false,[.int .i64]),(4,false,[.ptr 64 0]),(5,false,[.ptr 4224 0]),(6,false,[.int .i64])],[(64,[.nil,.nil,.bool,.nil]),(4224,[.at 800000000,.at 800000001,.bool,.at 800000002])],[(800000000,tL,.fz),(800000001,tW,(.pr .fz .fz)),(800000002,tI,.fz)]⟩
def ydJ:Shape:=⟨[(1,false,[.int .i64]),(4,false,[.ptr 64 0]),(5,false,[.ptr 4224 0]),(6,false,[.int .i64])],[(64,[.nil,.nil,.bool,.nil]),(4224,[.at 800000000,.at 800000001,.bool,.at 800000002])],[(800000000,tL,.fz),(800000001,tW,(.pr .fz .fz)),(800000002,tI,.fz)]⟩
def yhw:Shape:=⟨[],[],[]⟩
abbrev ylL (v0 v1:Int) (v2 v3:dM):(yaB).X:=(((v0,()),((),()),((),()),(v1,()),()),(((),(),v2.2.2.1,(),()),((),(),v3.2.2.1,(),()),()),(v3.1,v3.2.1,v3.2.2.2,()))
abbrev yHd (v0 v1:Int) (v2 v3:dM):(ydQ).X:=(((v0,()),((),()),((),()),(v1,()),()),(((),(),v2.2.2.1,(),()),((),(),v3.2.2.1,(),()),()),(v3.1,v3.2.1,v3.2.2.2,()))
abbrev yG7 (v0 v1:Int) (v2 v3:dM):(ydJ).X:=(((v0,()),((),()),((),()),(v1,()),()),(((),(),v2.2.2.1,(),()),((),(),v3.2.2.1,(),()),()),(v3.1,v3.2.1,v3.2.2.2,()))
def yl8 (v0 v1:Int) (v2 v3:Bool) (v4:List (List Int)) (v5:List dW) (v6:List Int):Option ((yaB).X ⊕ ((ydJ).X ⊕ (yhw).X)) :=
 bif (ltb 0 v1) then
 bif (inb (IntKind.i64.wrap (v1 - 1)) v6.length) then
 bif (ltb v0 (nth v6 (IntKind.i64.wrap (v1 - 1)) 0)) then
 bif (inb (IntKind.i64.wrap (v1 - 1)) v6.length) then
 bif (inb v1 v6.length) then
 some (.inl (((v0,()),((),()),((),()),((IntKind.i64.wrap (v1 - 1)),()),()),(((),(),v2,(),()),((),(),v3,(),()),()),(v4,v5,(v6.set (v1).toNat (nth v6 (IntKind.i64.wrap (v1 - 1)) 0)),())))
 else none
 else none
 else
 some (.inr (.inl (((v0,()),((),()),((),()),(v1,()),()),(((),(),v2,(),()),((),(),v3,(),()),()),(v4,v5,v6,()))))
 else none
 else
 some (.inr (.inl (((v0,()),((),()),((),()),(v1,()),()),(((),(),v2,(),()),((),(),v3,(),()),()),(v4,v5,v6,()))))
def yaU (x:(yaB).X):=yl8 x.1.1.1 x.1.2.2.2.1.1 x.2.1.1.2.2.1 x.2.1.2.1.2.2.1 x.2.2.1 x.2.2.2.1 x.2.2.2.2.1
def yvf (x:(ydQ).X):(yaB).X:=(((x.1.1.1,()),((),()),((),()),(x.1.2.2.2.1.1,()),()),(((),(),x.2.1.1.2.2.1,(),()),((),(),x.2.1.2.1.2.2.1,(),()),()),(x.2.2.1,x.2.2.2.1,x.2.2.2.2.1,()))
def ywd:Code:=(zdD yh3 64 504).getD .skip
theorem yIK:zdD yh3 64 126=some (.block 0 (.loop ywd)):=by kernel_rfl
theorem yJl (x:(yaB).X):zg0 ⟨ynK,68,yzo⟩ 0 ywd 504 yaB ydJ yhw x=yaU x:=by kernel_rfl
def yvm (x:(ydQ).X):Nat:=18446744073709551616
def ynj (x:(ydQ).X):Option ((ydJ).X ⊕ (yhw).X):=zz yaU (yvm x) (yvf x)
def yv1:Seg:=⟨ydQ,ydJ,yhw,ynj⟩
def yzp:Nat→Option Seg:=fun q=>bif Nat.beq q 126 then some yv1 else yzo q
theorem yKD:FrOk Tryz.prog ⟨ynK,68,yzp⟩ yh3:=(yKC).loop (sg:=yv1) yaB yvf (by decide) yIK yaU yvm (by decide) (fun _=>rfl) (fun x r _ h=>h) yJl
abbrev ye2:List Par:= [.rd tM,.rd tI]
abbrev yn5:List OT:= [⟨false,tM,(.pr (.ow .fz) (.pr (.ow (.pr .fz .fz)) (.pr .fz (.ow .fz))))⟩]
def yj4 (a0:dM) (a1:Int):Option (ResD yn5×MutD ye2) :=
 let r1:=yab a0
 let r2:=yag a0
 bif (!(!r2)) then
 let r3:=ya a1 0 (IntKind.i64.wrap ((a0.1.length:Int) - 1))
 bif (!(!r3)) then
 let r4:=yhm a0.2.2.2 a1
 bif r4 then
 some ((r1,()),())
 else
 bif (zjR r1.2.2.2.length ([a1]:List Int).length 8) then
 zkh (ynj (((a1,()),((),()),((),()),((IntKind.i64.wrap (((r1.2.2.2++([a1]:List Int)).length:Int) - 1)),()),()),(((),(),false,(),()),((),(),r1.2.2.1,(),()),()),(r1.1,r1.2.1,(r1.2.2.2++([a1]:List Int)),()))) (fun y4 =>
 bif (inb y4.1.2.2.2.1.1 y4.2.2.2.2.1.length) then
 some (((y4.2.2.1,y4.2.2.2.1,y4.2.1.2.1.2.2.1,(y4.2.2.2.2.1.set (y4.1.2.2.2.1.1).toNat y4.1.1.1)),()),())
 else none) (fun y4 =>
 none)
 else none
 else
 some ((r1,()),())
 else
 some ((r1,()),())
theorem ySk (x:InD ye2):zjx ⟨ynK,68,yzp⟩ Tryz.f265.results.toList yh3 ye2 yn5 x=yj4 x.1 x.2.1:=by kernel_rfl
theorem yNt:ConOk Tryz.prog 265 ⟨ye2,yn5,fun x=>yj4 x.1 x.2.1⟩:=zj1 (yKD) Tryz.func265 (by kernel_rfl) (by kernel_rfl) Tryz.ntmps265.symm (by decide) (fun x r h=>(ySk x).trans h)
def yfc (a0:dM) (a1:Int):dM:=spoil a0 a1
theorem yU2 (n:Int) (m:dM) (p:List Int) (hp: ∀ x∈p,x < n): ∀ (j:Nat) (q1 q2:List Int) (x:Int) (fuel:Nat),q1.length=j→j < fuel→(∀ y∈q1,n < y)→p.length+q1.length≤1000 →
  ∃ (x':Int) (q':List Int),q1++q2=q'∧zz yaU fuel (ylL n ((p.length+q1.length:Nat):Int) noMem (m.1,m.2.1,m.2.2.1,(p++q1)++x::q2))=some (.inl (yG7 n (p.length:Nat) noMem (m.1,m.2.1,m.2.2.1,p++x'::q')))
 | 0,q1,q2,x,fuel+1,hj,hf,hq,hb=>by
  have:q1= []:=List.length_eq_zero_iff.1 hj
  subst this
  refine ⟨x,q2,rfl,?_⟩
  simp only [zz,yaU,ylL,yl8,List.length_nil,Nat.add_zero,List.append_nil]
  rcases List.eq_nil_or_concat p with rfl | ⟨P,y,rfl⟩
  ·rfl
  ·have hy:=hp y (by simp)
   simp only [List.concat_eq_append,List.length_append,List.length_cons,List.length_nil,List.append_assoc,List.cons_append,List.nil_append]at hb ⊢
   rw [zj4 (show (0:Int) < ((P.length+(0+1):Nat):Int) by omega),wr (show -9223372036854775808≤((P.length+(0+1):Nat):Int) - 1 by omega) (by omega),show ((P.length+(0+1):Nat):Int) - 1=(P.length:Nat) by omega,
    zkl (by simp),zkm,y0R,zkx (show y≤n by omega)]
   rfl
 | j+1,q1,q2,x,fuel+1,hj,hf,hq,hb=>by
  rcases List.eq_nil_or_concat q1 with rfl | ⟨Q,y,rfl⟩
  ·cases hj
  ·rw [List.concat_eq_append]at hj hq hb ⊢
   have hQ:Q.length=j:=by simpa using hj
   have hy:=hq y (by simp)
   obtain ⟨x',q',e1,e2⟩:=yU2 n m p hp j Q (y::q2) y fuel hQ (by omega) (fun z hz=>hq z (by simp [hz])) (by simp at hb; omega)
   refine ⟨x',q',by rw [← e1]; simp,?_⟩
   rw [← e2]
   have ea:((p++(Q++ [y]))++x::q2)=(p++Q)++y::x::q2:=by simp
   have el:p.length+(Q++ [y]).length=(p++Q).length+1:=by simp; omega
   have el2:p.length+Q.length=(p++Q).length:=by simp
   have hb2:(p++Q).length≤1000:=by simp at hb ⊢; omega
   rw [ea,el,el2]
   generalize p++Q=A at hb2
   rw [zz]
   simp only [yaU,ylL,yl8]
   have es:(A++y::x::q2).set (A.length+1) y=A++y::y::q2:=by
    have:=y0U (A++ [y]) x y q2
    simp at this ⊢
   rw [zj4 (show (0:Int) < ((A.length+1:Nat):Int) by omega),wr (show -9223372036854775808≤((A.length+1:Nat):Int) - 1 by omega) (by omega),show ((A.length+1:Nat):Int) - 1=(A.length:Nat) by omega,zkl (show A.length < (A++y::x::q2).length by simp),zkm,y0R,zj4 hy,
    zkl (show A.length+1 < (A++y::x::q2).length by simp),Int.toNat_natCast,es]
   rfl
theorem yQh (a0:dM) (a1:Int) (hk:zi2 ye2 (a0,a1,())):yj4 a0 a1=(fun n=>some ((n,()),())) (yfc a0 a1):=by
 unfold yj4 yfc spoil
 simp only [yab,yag,ybX,yhm]
 cases hm:yq a0
 ·rfl
 obtain ⟨h1,h2,h3,h4,h5,h6⟩:=ya9 hm
 rw [ylh]at h3
 have hlen:=yLy h3.2 (lo:=0) (n:=a0.1.length) h3.1 (by omega)
 rw [wr (show -9223372036854775808≤(a0.1.length:Int) - 1 by omega) (by omega)]
 have hi:(leb 0 a1&&leb a1 ((a0.1.length:Int) - 1))=inb a1 a0.1.length:=by
  rw [Bool.eq_iff_iff,Bool.and_eq_true,zjE,zjE,zjD]; omega
 rw [hi]
 cases hin:inb a1 a0.1.length
 ·rfl
 cases hh:a0.2.2.2.any (· ==a1)
 ·have hn:a1∉a0.2.2.2:=fun h=>by
   have:=List.any_eq_false.1 hh a1 h
   simp at this
  have hsp:=y0m h3.2 hn
  have hp: ∀ x∈a0.2.2.2.filter (fun x=>ltb x a1),x < a1:=fun x hx=>zjH.1 (List.mem_filter.1 hx).2
  have hq: ∀ x∈a0.2.2.2.filter (fun x=>ltb a1 x),a1 < x:=fun x hx=>zjH.1 (List.mem_filter.1 hx).2
  unfold yTf
  generalize a0.2.2.2.filter (fun x=>ltb x a1)=P at hsp hp
  generalize a0.2.2.2.filter (fun x=>ltb a1 x)=Q at hsp hq
  have hPQ:P.length+Q.length=a0.2.2.2.length:=by rw [hsp,List.length_append]
  obtain ⟨x',q',e1,e2⟩:=yU2 a1 a0 P hp Q.length Q [] a1 18446744073709551616 rfl (by omega) hq (by omega)
  rw [List.append_nil]at e1
  subst e1
  simp only [cond_true,cond_false,Bool.not_true,Bool.not_false,Bool.and_self]
  rw [zka.2 (show (a0.2.2.2.length+ [a1].length) * 8≤140737488355328 by simp only [List.length_cons,List.length_nil]; omega),wr (show -9223372036854775808≤((a0.2.2.2++ [a1]).length:Int) - 1 by omega) (by simp only [List.length_append,List.length_cons,List.length_nil]; omega),
   show ((a0.2.2.2++ [a1]).length:Int) - 1=((P.length+Q.length:Nat):Int) by simp only [List.length_append,List.length_cons,List.length_nil]; omega,hsp,cond_true]
  refine (congrArg (fun z=>zkh z _ _) (show ynj (yHd a1 ((P.length+Q.length:Nat):Int) noMem (a0.1,a0.2.1,a0.2.2.1,(P++Q)++ [a1]))=_ from e2)).trans ?_
  simp only [zki]
  show (bif inb (P.length:Int) (P++x'::Q).length then some (((a0.1,a0.2.1,a0.2.2.1,(P++x'::Q).set (P.length:Int).toNat a1),()),()) else none)=_
  rw [zkl (by simp),Int.toNat_natCast,y0U]; rfl
 ·rfl
def yrj:Con:=⟨ye2,yn5,fun x=>(fun n=>some ((n,()),())) (yfc x.1 x.2.1)⟩
theorem yCz:ConOk Tryz.prog 265 yrj:=(yNt).mono (fun x r hk h=>(yQh x.1 x.2.1 hk).trans h)
end
end
end Go.Tf
