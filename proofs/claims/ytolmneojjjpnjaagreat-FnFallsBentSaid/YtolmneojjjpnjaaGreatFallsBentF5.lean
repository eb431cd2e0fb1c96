/- Functions of the program, and what they come to. -/
import Derived.Test.YtolmneojjjpnjaaGreatFallsBentF4
namespace Go.Tf
noncomputable section
open Go.Proofs Go.Proofs.Tryz IntKind
set_option synthInstance.maxHeartbeats 400000
set_option synthInstance.maxSize 10000
set_option linter.unusedVariables false
set_option linter.unusedSimpArgs false
set_option maxRecDepth 100000
def yrW:Code:=(f28.body).getD .skip
def yBq:Env:=zkw TT [(23,ysZ),(95,ys2),(96,yDx),(97,yxs),(98,yAh),(99,yAg)] []
theorem yS8:FrOk prog ⟨yBq,50,fun _=>none⟩ yrW:=zkA mixed yd ⟨yIO,yIR,yVB,yOW,yRQ,yRP,trivial⟩
def yHF:Nat→Option Seg:=fun _=>none
def ycJ:Shape:=⟨[(2,false,[.ptr 64 0]),(3,false,[.ptr 4224 0]),(16,false,[.int .i64])],[(64,[.int .i64,.int .i64,.int .i64,.nil,.int .i64,.int .i64,.int .i64,.int .i64,.int .i64,.nil,.int .i64,.bool,.bool]),(4224,[.int .i64,.int .i64,.int .i64,.at 800000000,.int .i64,.int .i64,.int .i64,.int .i64,.int .i64,.at 800000001,.int .i64,.bool,.bool])],[(800000000,tM,(.pr (.ow (.ow .fz)) (.pr (.ow (.pr .fz (.ow .fz))) (.pr .fz (.ow .fz))))),(800000001,tW,(.pr .fz (.ow .fz)))]⟩
def yhs:Shape:=⟨[(2,false,[.ptr 64 0]),(3,false,[.ptr 4224 0]),(16,false,[.ci .i64 0])],[(64,[.int .i64,.int .i64,.int .i64,.nil,.int .i64,.int .i64,.int .i64,.int .i64,.int .i64,.nil,.int .i64,.bool,.bool]),(4224,[.int .i64,.int .i64,.int .i64,.at 800000000,.int .i64,.int .i64,.int .i64,.int .i64,.int .i64,.at 800000001,.int .i64,.bool,.bool])],[(800000000,tM,(.pr (.ow (.ow .fz)) (.pr (.ow (.pr .fz (.ow .fz))) (.pr .fz (.ow .fz))))),(800000001,tW,(.pr .fz (.ow .fz)))]⟩
def yhf:Shape:=⟨[(2,false,[.ptr 64 0]),(3,false,[.ptr 4224 0])],[(64,[.int .i64,.int .i64,.int .i64,.nil,.int .i64,.int .i64,.int .i64,.int .i64,.int .i64,.nil,.int .i64,.bool,.bool]),(4224,[.int .i64,.int .i64,.int .i64,.at 800000000,.int .i64,.int .i64,.int .i64,.int .i64,.int .i64,.at 800000001,.int .i64,.bool,.bool])],[(800000000,tM,(.pr (.ow (.ow .fz)) (.pr (.ow (.pr .fz (.ow .fz))) (.pr .fz (.ow .fz))))),(800000001,tW,(.pr .fz (.ow .fz)))]⟩
def yhF:Shape:=⟨[(2,false,[.ptr 64 0])],[(64,[.int .i64,.int .i64,.int .i64,.at 800000000,.int .i64,.int .i64,.int .i64,.int .i64,.int .i64,.at 800000001,.int .i64,.bool,.bool])],[(800000000,tM,(.pr (.ow (.ow .fz)) (.pr (.ow (.pr .fz (.ow .fz))) (.pr .fz (.ow .fz))))),(800000001,tW,(.pr .fz (.ow .fz)))]⟩
abbrev yqZ (v0:Int) (v1 v2:dA):(ycJ).X:=((((),()),((),()),(v0,()),()),((v1.1,v1.2.1.1,v1.2.1.2,(),v1.2.2.2.1,v1.2.2.2.2.1,v1.2.2.2.2.2.1,v1.2.2.2.2.2.2.1,v1.2.2.2.2.2.2.2.1,(),v1.2.2.2.2.2.2.2.2.2.1,v1.2.2.2.2.2.2.2.2.2.2.1,v1.2.2.2.2.2.2.2.2.2.2.2,()),(v2.1,v2.2.1.1,v2.2.1.2,(),v2.2.2.2.1,v2.2.2.2.2.1,v2.2.2.2.2.2.1,v2.2.2.2.2.2.2.1,v2.2.2.2.2.2.2.2.1,(),v2.2.2.2.2.2.2.2.2.2.1,v2.2.2.2.2.2.2.2.2.2.2.1,v2.2.2.2.2.2.2.2.2.2.2.2,()),()),(v2.2.2.1,v2.2.2.2.2.2.2.2.2.1,()))
abbrev yQZ (v0 v1:dA):(yhs).X:=((((),()),((),()),((),()),()),((v0.1,v0.2.1.1,v0.2.1.2,(),v0.2.2.2.1,v0.2.2.2.2.1,v0.2.2.2.2.2.1,v0.2.2.2.2.2.2.1,v0.2.2.2.2.2.2.2.1,(),v0.2.2.2.2.2.2.2.2.2.1,v0.2.2.2.2.2.2.2.2.2.2.1,v0.2.2.2.2.2.2.2.2.2.2.2,()),(v1.1,v1.2.1.1,v1.2.1.2,(),v1.2.2.2.1,v1.2.2.2.2.1,v1.2.2.2.2.2.1,v1.2.2.2.2.2.2.1,v1.2.2.2.2.2.2.2.1,(),v1.2.2.2.2.2.2.2.2.2.1,v1.2.2.2.2.2.2.2.2.2.2.1,v1.2.2.2.2.2.2.2.2.2.2.2,()),()),(v1.2.2.1,v1.2.2.2.2.2.2.2.2.1,()))
abbrev yQR (v0 v1:dA):(yhf).X:=((((),()),((),()),()),((v0.1,v0.2.1.1,v0.2.1.2,(),v0.2.2.2.1,v0.2.2.2.2.1,v0.2.2.2.2.2.1,v0.2.2.2.2.2.2.1,v0.2.2.2.2.2.2.2.1,(),v0.2.2.2.2.2.2.2.2.2.1,v0.2.2.2.2.2.2.2.2.2.2.1,v0.2.2.2.2.2.2.2.2.2.2.2,()),(v1.1,v1.2.1.1,v1.2.1.2,(),v1.2.2.2.1,v1.2.2.2.2.1,v1.2.2.2.2.2.1,v1.2.2.2.2.2.2.1,v1.2.2.2.2.2.2.2.1,(),v1.2.2.2.2.2.2.2.2.2.1,v1.2.2.2.2.2.2.2.2.2.2.1,v1.2.2.2.2.2.2.2.2.2.2.2,()),()),(v1.2.2.1,v1.2.2.2.2.2.2.2.2.1,()))
abbrev yra (v0:dA):(yhF).X:=((((),()),()),((v0.1,v0.2.1.1,v0.2.1.2,(),v0.2.2.2.1,v0.2.2.2.2.1,v0.2.2.2.2.2.1,v0.2.2.2.2.2.2.1,v0.2.2.2.2.2.2.2.1,(),v0.2.2.2.2.2.2.2.2.2.1,v0.2.2.2.2.2.2.2.2.2.2.1,v0.2.2.2.2.2.2.2.2.2.2.2,()),()),(v0.2.2.1,v0.2.2.2.2.2.2.2.2.1,()))
def yrB (v0 v1 v2 v3 v4 v5 v6 v7 v8 v9:Int) (v10 v11:Bool) (v12 v13 v14 v15 v16 v17 v18 v19 v20:Int) (v21 v22:Bool) (v23:List dM) (v24:List dW):Option ((ycJ).X ⊕ ((yhf).X ⊕ (yhF).X)) :=bif(ltb v0 4)then bnd (ykX (v12,(v13,v14),v23,v15,v16,v17,v18,v19,v24,v20,v21,v22) v17) fun r6 =>bif(!(!r6.1.2.1))then bif(leb 60000 v17)then some (.inr (.inl ((((),()),((),()),()),((v1,v2,v3,(),v4,v5,v6,v7,v8,(),v9,v10,v11,()),(v12,v13,v14,(),v15,v16,v17,v18,v19,(),v20,v21,v22,()),()),(v23,v24,())))) else bnd (ygN (v12,(v13,v14),v23,v15,v16,v17,v18,v19,v24,v20,v21,v22) r6.1.1) fun r7 =>bif(!r7.1.1)then some (.inr (.inr ((((),()),()),((r7.2.1.1,r7.2.1.2.1.1,r7.2.1.2.1.2,(),r7.2.1.2.2.2.1,r7.2.1.2.2.2.2.1,r7.2.1.2.2.2.2.2.1,r7.2.1.2.2.2.2.2.2.1,r7.2.1.2.2.2.2.2.2.2.1,(),r7.2.1.2.2.2.2.2.2.2.2.2.1,r7.2.1.2.2.2.2.2.2.2.2.2.2.1,r7.2.1.2.2.2.2.2.2.2.2.2.2.2,()),()),(r7.2.1.2.2.1,r7.2.1.2.2.2.2.2.2.2.2.1,())))) else bnd (yhS (r7.2.1.1,r7.2.1.2.1,r7.2.1.2.2.1,r7.2.1.2.2.2.1,r7.2.1.2.2.2.2.1,(i64.wrap (r7.2.1.2.2.2.2.2.1+1)),r7.2.1.2.2.2.2.2.2) r6.1.1.2.1 r6.1.1.2.2) fun r8 =>bif(!r8.1.1)then some (.inr (.inr ((((),()),()),((r8.2.1.1,r8.2.1.2.1.1,r8.2.1.2.1.2,(),r8.2.1.2.2.2.1,r8.2.1.2.2.2.2.1,r8.2.1.2.2.2.2.2.1,r8.2.1.2.2.2.2.2.2.1,r8.2.1.2.2.2.2.2.2.2.1,(),r8.2.1.2.2.2.2.2.2.2.2.2.1,r8.2.1.2.2.2.2.2.2.2.2.2.2.1,r8.2.1.2.2.2.2.2.2.2.2.2.2.2,()),()),(r8.2.1.2.2.1,r8.2.1.2.2.2.2.2.2.2.2.1,())))) else some (.inl ((((),()),((),()),((i64.wrap (v0+1)),()),()),((v1,v2,v3,(),v4,v5,v6,v7,v8,(),v9,v10,v11,()),(r8.2.1.1,r8.2.1.2.1.1,r8.2.1.2.1.2,(),r8.2.1.2.2.2.1,r8.2.1.2.2.2.2.1,r8.2.1.2.2.2.2.2.1,r8.2.1.2.2.2.2.2.2.1,r8.2.1.2.2.2.2.2.2.2.1,(),r8.2.1.2.2.2.2.2.2.2.2.2.1,r8.2.1.2.2.2.2.2.2.2.2.2.2.1,r8.2.1.2.2.2.2.2.2.2.2.2.2.2,()),()),(r8.2.1.2.2.1,r8.2.1.2.2.2.2.2.2.2.2.1,()))) else some (.inr (.inl ((((),()),((),()),()),((v1,v2,v3,(),v4,v5,v6,v7,v8,(),v9,v10,v11,()),(v12,v13,v14,(),v15,v16,v17,v18,v19,(),v20,v21,v22,()),()),(v23,v24,())))) else some (.inr (.inl ((((),()),((),()),()),((v1,v2,v3,(),v4,v5,v6,v7,v8,(),v9,v10,v11,()),(v12,v13,v14,(),v15,v16,v17,v18,v19,(),v20,v21,v22,()),()),(v23,v24,()))))
def ydf (x:(ycJ).X):=yrB x.1.2.2.1.1 x.2.1.1.1 x.2.1.1.2.1 x.2.1.1.2.2.1 x.2.1.1.2.2.2.2.1 x.2.1.1.2.2.2.2.2.1 x.2.1.1.2.2.2.2.2.2.1 x.2.1.1.2.2.2.2.2.2.2.1 x.2.1.1.2.2.2.2.2.2.2.2.1 x.2.1.1.2.2.2.2.2.2.2.2.2.2.1 x.2.1.1.2.2.2.2.2.2.2.2.2.2.2.1 x.2.1.1.2.2.2.2.2.2.2.2.2.2.2.2.1 x.2.1.2.1.1 x.2.1.2.1.2.1 x.2.1.2.1.2.2.1 x.2.1.2.1.2.2.2.2.1 x.2.1.2.1.2.2.2.2.2.1 x.2.1.2.1.2.2.2.2.2.2.1 x.2.1.2.1.2.2.2.2.2.2.2.1 x.2.1.2.1.2.2.2.2.2.2.2.2.1 x.2.1.2.1.2.2.2.2.2.2.2.2.2.2.1 x.2.1.2.1.2.2.2.2.2.2.2.2.2.2.2.1 x.2.1.2.1.2.2.2.2.2.2.2.2.2.2.2.2.1 x.2.2.1 x.2.2.2.1
def yDH (x:(yhs).X):(ycJ).X:=((((),()),((),()),(0,()),()),((x.2.1.1.1,x.2.1.1.2.1,x.2.1.1.2.2.1,(),x.2.1.1.2.2.2.2.1,x.2.1.1.2.2.2.2.2.1,x.2.1.1.2.2.2.2.2.2.1,x.2.1.1.2.2.2.2.2.2.2.1,x.2.1.1.2.2.2.2.2.2.2.2.1,(),x.2.1.1.2.2.2.2.2.2.2.2.2.2.1,x.2.1.1.2.2.2.2.2.2.2.2.2.2.2.1,x.2.1.1.2.2.2.2.2.2.2.2.2.2.2.2.1,()),(x.2.1.2.1.1,x.2.1.2.1.2.1,x.2.1.2.1.2.2.1,(),x.2.1.2.1.2.2.2.2.1,x.2.1.2.1.2.2.2.2.2.1,x.2.1.2.1.2.2.2.2.2.2.1,x.2.1.2.1.2.2.2.2.2.2.2.1,x.2.1.2.1.2.2.2.2.2.2.2.2.1,(),x.2.1.2.1.2.2.2.2.2.2.2.2.2.2.1,x.2.1.2.1.2.2.2.2.2.2.2.2.2.2.2.1,x.2.1.2.1.2.2.2.2.2.2.2.2.2.2.2.2.1,()),()),(x.2.2.1,x.2.2.2.1,()))
def yFI:Code:=(zd7 yrW 64 244).getD .skip
theorem ySL:zd7 yrW 64 61=some (.block 0 (.loop yFI)):=by kernel_rfl
theorem yVQ (x:(ycJ).X):zhu ⟨yBq,50,yHF⟩ 0 yFI 244 ycJ yhf yhF x=ydf x:=by kernel_rfl
def yDU (x:(yhs).X):Nat:=18446744073709551616
def ysG (x:(yhs).X):Option ((yhf).X ⊕ (yhF).X):=zF ydf (yDU x) (yDH x)
def yEg:Seg:=⟨yhs,yhf,yhF,ysG⟩
def yWq:Nat→Option Seg:=fun q=>bif Nat.beq q 61 then some yEg else yHF q
theorem yS9:FrOk prog ⟨yBq,50,yWq⟩ yrW:=(yS8).loop (sg:=yEg) ycJ yDH (by decide) ySL ydf yDU (by decide) (fun _=>rfl) (fun x r _ h=>h) yVQ
abbrev ysb:List Par:= [.rd tA]
abbrev yB4:List OT:= [⟨false,tA,(.pr .fz (.pr (.pr .fz .fz) (.pr (.ow (.pr (.ow (.ow .fz)) (.pr (.ow (.pr .fz (.ow .fz))) (.pr .fz (.ow .fz))))) (.pr .fz (.pr .fz (.pr .fz (.pr .fz (.pr .fz (.pr (.ow (.pr .fz (.ow .fz))) (.pr .fz (.pr .fz .fz)))))))))))⟩]
def ywL (a0:dA):Option (zaY yB4×zak ysb) :=let r1:=yeZ a0;let r2:=ydR a0;bif(!(!r2))then bif a0.2.2.2.2.2.2.2.2.2.2.2 then some ((r1,()),()) else zkt (ysG ((((),()),((),()),((),()),()),((0,0,0,(),0,0,0,0,0,(),0,false,false,()),(r1.1,r1.2.1.1,r1.2.1.2,(),r1.2.2.2.1,r1.2.2.2.2.1,r1.2.2.2.2.2.1,r1.2.2.2.2.2.2.1,r1.2.2.2.2.2.2.2.1,(),r1.2.2.2.2.2.2.2.2.2.1,r1.2.2.2.2.2.2.2.2.2.2.1,r1.2.2.2.2.2.2.2.2.2.2.2,()),()),(r1.2.2.1,r1.2.2.2.2.2.2.2.2.1,()))) (fun y8 =>bnd (ylW (y8.2.1.2.1.1,(y8.2.1.2.1.2.1,y8.2.1.2.1.2.2.1),y8.2.2.1,y8.2.1.2.1.2.2.2.2.1,y8.2.1.2.1.2.2.2.2.2.1,y8.2.1.2.1.2.2.2.2.2.2.1,y8.2.1.2.1.2.2.2.2.2.2.2.1,y8.2.1.2.1.2.2.2.2.2.2.2.2.1,y8.2.2.2.1,y8.2.1.2.1.2.2.2.2.2.2.2.2.2.2.1,y8.2.1.2.1.2.2.2.2.2.2.2.2.2.2.2.1,y8.2.1.2.1.2.2.2.2.2.2.2.2.2.2.2.2.1)) fun r10 =>some ((r10.2.1,()),())) (fun y8 =>some (((y8.2.1.1.1,(y8.2.1.1.2.1,y8.2.1.1.2.2.1),y8.2.2.1,y8.2.1.1.2.2.2.2.1,y8.2.1.1.2.2.2.2.2.1,y8.2.1.1.2.2.2.2.2.2.1,y8.2.1.1.2.2.2.2.2.2.2.1,y8.2.1.1.2.2.2.2.2.2.2.2.1,y8.2.2.2.1,y8.2.1.1.2.2.2.2.2.2.2.2.2.2.1,y8.2.1.1.2.2.2.2.2.2.2.2.2.2.2.1,y8.2.1.1.2.2.2.2.2.2.2.2.2.2.2.2.1),()),())) else some ((r1,()),())
theorem yYQ:ConOk prog 28 ⟨ysb,yB4,fun x=>ywL x.1⟩:=zkI (yS9) func28 ntmps28.symm fun x=>by kernel_rfl
def yek (a0:dA):dA:=ymD a0
theorem y8e {α:Type} {c:Bool} (h:c=false) {x y:α}:(bif c then x else y)=y:=by subst h; rfl
theorem y0T {α:Type} {c:Bool} (h:c=true) {x y:α}:(bif c then x else y)=x:=by subst h; rfl
theorem y1h (a0:dA) (hk:zjx ysb (a0,())):ywL a0=(fun n=>some ((n,()),())) (yek a0):=by
 unfold ywL yek;simp only[yeZ];cases hm:(yE a0&&(!(ye a0)&&(!a0.2.2.2.2.2.2.2.2.2.2.2&&ltb a0.2.2.2.2.2.2.2.1 60000)))
 ·have hr:ymD a0=a0:=by unfold ymD; rw[hm]; rfl
  rw[hr];cases hmk:ydR a0
  ·rfl
  ·have:a0.2.2.2.2.2.2.2.2.2.2.2=true:=by
    unfold ydR at hmk;simp only[ybA]at hmk;unfold ye at hm;revert hm hmk;cases yE a0<;>cases a0.2.2.2.2.2.2.2.2.2.2.1<;>cases ltb a0.2.2.2.2.2.2.2.1 60000<;>cases a0.2.2.2.2.2.2.2.2.2.2.2<;>decide
   rw[y0T (by rfl),y0T this]
 ·have hr:ymD a0=yPk a0:=by unfold ymD; rw[hm]; rfl
  rw[hr];simp only[Bool.and_eq_true,Bool.not_eq_true']at hm;obtain⟨ha,hdn,hbr,hlt⟩:=hm
  have hmk:ydR a0=true:=by
   unfold ydR;simp only[ybA,ha,show a0.2.2.2.2.2.2.2.2.2.2.1=false from hdn,hlt]; rfl
  rw[hmk,y0T (by rfl),y8e hbr];have hgo:yf a0.2.1=true:=yjf ha;have hle:=yz3 ha
  have h1:=zkC (step:=ydf) 4 (fun i s=>yqZ i yK s) ytP (fun _ s=>s.2.1=a0.2.1∧s.2.2.1.length=a0.2.2.1.length∧ye s=false) .inl
   (fun b=>match b with | .inl x=> .inl (yQR yK x) | .inr x=> .inr (yra x)) (fun i s hi hs=>by
    constructor
    ·simp only[ydf,yqZ,yrB,zky (show(i:Int)<4 by omega),cond_true,wq ((i:Int)+1) (by omega) (by omega),Int.natCast_add,Int.natCast_one,Int.toNat_natCast,zkX]
     rw[yIY s s.2.2.2.2.2.1 (by unfold yk3; rw[hs.1,hgo]; rfl)];simp only[zkH,yg0];unfold ytP;cases hf:(yU s s.2.2.2.2.2.1).2
     ·rfl
     ·cases leb 60000 s.2.2.2.2.2.1
      ·have ho:=y6E (a:=s) (q:=s.2.2.2.2.2.1) (by rw[hs.1]; exact hgo) hf
       have hr:ygN s (yU s s.2.2.2.2.2.1).1=some ((!(ye (ygW s)),()),(ygW s,())):=yO4 _ _ (by unfold ygO; rw[hs.2.2]; rfl)
       have hd:ye (ygW s)=false→yhS (yQ (ygW s)) (yU s s.2.2.2.2.2.1).1.2.1 (yU s s.2.2.2.2.2.1).1.2.2=some ((!(ye (ype s)),()),(ype s,())):=fun hd1=>yRW _ _ _ (by
         unfold yhT;simp only[Bool.and_eq_true,beq_iff_eq,Bool.not_eq_true'];rw[show(yQ (ygW s)).2.1=s.2.1 from yV3 s]
         exact⟨hd1,ho.1,ho.2,by rw[show(yQ (ygW s)).2.2.1.length=s.2.2.1.length from yKP s _,hs.2.1,hle,hs.1]⟩)
       rw[hr];generalize ype s=R2 at hd ⊢;generalize ygW s=R1 at hd ⊢;generalize yU s s.2.2.2.2.2.1=F at hd ⊢;unfold yQ at hd;simp only[Bool.not_true,Bool.not_false,cond_true,cond_false,Bool.or_self,zkH];cases hd1:ye R1
       ·simp only[Bool.not_true,Bool.not_false,cond_true,cond_false,hd hd1,zkH]
        cases hd2:ye R2
        ·rfl
        ·simp only[hd2,Bool.not_true,Bool.not_false,cond_true,yra]
       ·simp only[hd1,Bool.not_true,Bool.not_false,cond_true,yra]
      ·rfl
    ·intro s' h
     unfold ytP at h;cases hc:(!(yU s s.2.2.2.2.2.1).2||leb 60000 s.2.2.2.2.2.1)
     ·rw[hc]at h
      cases hd1:ye (ygW s)
      ·rw[hd1]at h
       cases hd2:ye (ype s)
       ·rw[hd2]at h
        simp only[cond_false,Sum.inl.injEq]at h;subst h;exact⟨(y50 s).trans hs.1,(y51 s).trans hs.2.1,hd2⟩
       ·rw[hd2]at h; cases h
      ·rw[hd1]at h; cases h
     ·rw[hc]at h; cases h) (fun s hs=>by simp only[ydf,yqZ,yrB]; rfl) a0 ⟨rfl,rfl,hdn⟩ 18446744073709551616 (by omega)
  have hdo: ∀b,goE ytP .inl 4 0 a0= .inl b→ye b=false:=fun b hb=>y52 4 0 a0 b hdn hb
  refine(congrArg (fun z=>zkt z _ _) (show ysG (yQZ yK a0)=_ from h1)).trans ?_;unfold yPk;cases hg:goE ytP .inl 4 0 a0 with
  | inl b =>
   simp only[zkN,zkX];rw[yRV b (by unfold ylY; rw[hdo b hg]; rfl)]; rfl
  | inr b=>rfl
def yvM:Con:=⟨ysb,yB4,fun x=>(fun n=>some ((n,()),())) (yek x.1)⟩
theorem yKt:ConOk prog 28 yvM:=(yYQ).mono (fun x r hk h=>(y1h x.1 hk).trans h)
def ypx:Code:=(f103.body).getD .skip
def yyj:Env:=zkw TT [(81,yF),(127,yeU),(133,yhJ),(158,yaX)] []
theorem yP4:FrOk prog ⟨yyj,45,fun _=>none⟩ ypx:=zkA mixed yd ⟨yS,yie,yog,ycY,trivial⟩
def yEF:Nat→Option Seg:=fun _=>none
def ybq:Shape:=⟨[(1,false,[.int .i64]),(4,false,[.ptr 64 0]),(5,false,[.ptr 4224 0]),(18,false,[.br tW]),(19,false,[.int .i64]),(20,false,[.int .i64])],[(64,[.nil,.nil,.bool,.nil]),(4224,[.at 800000000,.at 800000001,.bool,.at 800000002])],[(800000000,tL,(.ow .fz)),(800000001,tW,(.pr .fz (.ow .fz))),(800000002,tI,.fz)]⟩
def yft:Shape:=⟨[(1,false,[.int .i64]),(4,false,[.ptr 64 0]),(5,false,[.ptr 4224 0]),(18,false,[.br tW]),(19,false,[.int .i64]),(20,false,[.int .i64])],[(64,[.nil,.nil,.bool,.nil]),(4224,[.at 800000000,.at 800000001,.bool,.at 800000002])],[(800000000,tL,(.ow .fz)),(800000001,tW,(.pr .fz (.ow .fz))),(800000002,tI,.fz)]⟩
def yfi:Shape:=⟨[(4,false,[.ptr 64 0]),(5,false,[.ptr 4224 0])],[(64,[.nil,.nil,.bool,.nil]),(4224,[.at 800000000,.at 800000001,.bool,.at 800000002])],[(800000000,tL,(.ow .fz)),(800000001,tW,(.pr .fz (.ow .fz))),(800000002,tI,.fz)]⟩
def yi0:Shape:=⟨[],[],[]⟩
abbrev ymY (v0:Int) (v1:List dW) (v2 v3:Int) (v4 v5:dM):(ybq).X:=(((v0,()),((),()),((),()),(v1,()),(v2,()),(v3,()),()),(((),(),v4.2.2.1,(),()),((),(),v5.2.2.1,(),()),()),(v5.1,v5.2.1,v5.2.2.2,()))
abbrev yMx (v0:Int) (v1:List dW) (v2 v3:Int) (v4 v5:dM):(yft).X:=(((v0,()),((),()),((),()),(v1,()),(v2,()),(v3,()),()),(((),(),v4.2.2.1,(),()),((),(),v5.2.2.1,(),()),()),(v5.1,v5.2.1,v5.2.2.2,()))
abbrev yxV (v0 v1:dM):(yfi).X:=((((),()),((),()),()),(((),(),v0.2.2.1,(),()),((),(),v1.2.2.1,(),()),()),(v1.1,v1.2.1,v1.2.2.2,()))
def ync (v0:Int) (v1:List dW) (v2 v3:Int) (v4 v5:Bool) (v6:List (List Int)) (v7:List dW) (v8:List Int):Option ((ybq).X ⊕ ((yfi).X ⊕ (yi0).X)) :=bif(ltb v3 v2)then bif(inb v3 v1.length)then bif(ltb v3 20)then bif(leb 0 v3)then bif((i64.wrap ((BitVec.ofInt IntKind.i64.bits (v0.fdiv (2^(min (v3).toNat IntKind.i64.bits))) &&& BitVec.ofInt IntKind.i64.bits 1).toNat:Int))==1)then let r5:=yn ((nth v1 v3 (0,[])).2);bif(inb ((nth v1 v3 (0,[])).1) v6.length)then some (.inl (((v0,()),((),()),((),()),(v1,()),(v2,()),((i64.wrap (v3+1)),()),()),(((),(),v4,(),()),((),(),v5,(),()),()),((v6.set ((nth v1 v3 (0,[])).1).toNat r5),v7,v8,()))) else none else some (.inl (((v0,()),((),()),((),()),(v1,()),(v2,()),((i64.wrap (v3+1)),()),()),(((),(),v4,(),()),((),(),v5,(),()),()),(v6,v7,v8,()))) else none else some (.inl (((v0,()),((),()),((),()),(v1,()),(v2,()),((i64.wrap (v3+1)),()),()),(((),(),v4,(),()),((),(),v5,(),()),()),(v6,v7,v8,()))) else none else some (.inr (.inl ((((),()),((),()),()),(((),(),v4,(),()),((),(),v5,(),()),()),(v6,v7,v8,()))))
def ybN (x:(ybq).X):=ync x.1.1.1 x.1.2.2.2.1.1 x.1.2.2.2.2.1.1 x.1.2.2.2.2.2.1.1 x.2.1.1.2.2.1 x.2.1.2.1.2.2.1 x.2.2.1 x.2.2.2.1 x.2.2.2.2.1
def yxz (x:(yft).X):(ybq).X:=(((x.1.1.1,()),((),()),((),()),(x.1.2.2.2.1.1,()),(x.1.2.2.2.2.1.1,()),(x.1.2.2.2.2.2.1.1,()),()),(((),(),x.2.1.1.2.2.1,(),()),((),(),x.2.1.2.1.2.2.1,(),()),()),(x.2.2.1,x.2.2.2.1,x.2.2.2.2.1,()))
def yz7:Code:=(zd7 ypx 64 500).getD .skip
theorem yNf:zd7 ypx 64 125=some (.block 0 (.loop yz7)):=by kernel_rfl
theorem yO8 (x:(ybq).X):zhu ⟨yyj,45,yEF⟩ 0 yz7 500 ybq yfi yi0 x=ybN x:=by kernel_rfl
def yxL (x:(yft).X):Nat:=18446744073709551616
def yik (x:(yft).X):Option ((yfi).X ⊕ (yi0).X):=zF ybN (yxL x) (yxz x)
def yx6:Seg:=⟨yft,yfi,yi0,yik⟩
def ySt:Nat→Option Seg:=fun q=>bif Nat.beq q 125 then some yx6 else yEF q
theorem yP5:FrOk prog ⟨yyj,45,ySt⟩ ypx:=(yP4).loop (sg:=yx6) ybq yxz (by decide) yNf ybN yxL (by decide) (fun _=>rfl) (fun x r _ h=>h) yO8
abbrev ypK:List Par:= [.rd tM,.rd tI]
abbrev yyL:List OT:= [⟨false,tM,(.pr (.ow (.ow .fz)) (.pr (.ow (.pr .fz (.ow .fz))) (.pr .fz (.ow .fz))))⟩]
def ytu (a0:dM) (a1:Int):Option (zaY yyL×zak ypK) :=let r1:=yaw a0;let r2:=yaa a0;bif(!r2)then some ((r1,()),()) else let r3:=yg a1 0 1048575;bif(!r3)then zkt (yik (((0,()),((),()),((),()),(a0.2.1,()),((a0.2.1.length:Int),()),(0,()),()),(((),(),false,(),()),((),(),r1.2.2.1,(),()),()),(r1.1,r1.2.1,r1.2.2.2,()))) (fun y5 =>some (((y5.2.2.1,[],y5.2.1.2.1.2.2.1,y5.2.2.2.2.1),()),())) (fun y5 =>none) else zkt (yik (((a1,()),((),()),((),()),(a0.2.1,()),((a0.2.1.length:Int),()),(0,()),()),(((),(),false,(),()),((),(),r1.2.2.1,(),()),()),(r1.1,r1.2.1,r1.2.2.2,()))) (fun y6 =>some (((y6.2.2.1,[],y6.2.1.2.1.2.2.1,y6.2.2.2.2.1),()),())) (fun y6 =>none)
theorem yUZ:ConOk prog 103 ⟨ypK,yyL,fun x=>ytu x.1 x.2.1⟩:=zkI (yP5) func103 ntmps103.symm fun x=>by kernel_rfl
def ygZ (a0:dM) (a1:Int):dM:=yfQ a0 a1
theorem yYi (a0:dM) (a1:Int) (hk:zjx ypK (a0,a1,())):ytu a0 a1=(fun n=>some ((n,()),())) (ygZ a0 a1):=by
 have hb2:a0.2.1.length*32≤2^47:=hk.1.2.1.1;unfold ytu ygZ yfQ;simp only[yaw,yaa,yai,ybm];cases hm:yu a0
 ·rfl
 have h1: ∀k,yik (yMx k a0.2.1 a0.2.1.length 0 yc a0)=some (.inl (yxV yc (ybI (fun i=>decide (i<20)&&yKZ k i) a0.2.1 a0.1,a0.2))):=fun k =>
  zkD (step:=ybN) a0.2.1.length (fun i s=>ymY k a0.2.1 a0.2.1.length i yc (s,a0.2)) (ybz (fun i=>decide (i<20)&&yKZ k i) a0.2.1) (fun i s=>s.length=a0.1.length) (fun s=> .inl (yxV yc (s,a0.2))) (fun i s hi hs=>by
   have hw:=(yLb hm hi).1;refine⟨?_,ywn.trans hs⟩;simp only[ybN,ymY,ync,zky (show(i:Int)<a0.2.1.length by omega),cond_true,wq ((i:Int)+1) (by omega) (by omega),Int.natCast_add,Int.natCast_one,Int.toNat_natCast,zk2 (show(0:Int)≤i by omega),zkR hi,hs,hw,ybz,yn];rw[show yKZ k i=(i64.wrap ((BitVec.ofInt IntKind.i64.bits (k.fdiv (2^(min i IntKind.i64.bits))) &&& BitVec.ofInt IntKind.i64.bits 1).toNat:Int)==1)from rfl];by_cases h20:i<20
   ·rw[zky (show(i:Int)<20 by omega),decide_eq_true h20]
    cases(i64.wrap ((BitVec.ofInt IntKind.i64.bits (k.fdiv (2^(min i IntKind.i64.bits))) &&& BitVec.ofInt IntKind.i64.bits 1).toNat:Int)==1)<;>rfl
   ·rw[zk3 (show(20:Int)≤i by omega),decide_eq_false h20]; rfl) (fun s hs=>by simp only[ybN,ymY,ync,zk3 (Int.le_refl _),cond_false]) a0.1 rfl _ (by show _<18446744073709551616; omega)
 unfold y5I;rw[h1 0,h1 a1];cases(leb 0 a1&&leb a1 1048575)<;>rfl
def yFW:Con:=⟨ypK,yyL,fun x=>(fun n=>some ((n,()),())) (ygZ x.1 x.2.1)⟩
theorem yZt:ConOk prog 103 yFW:=(yUZ).mono (fun x r hk h=>(yYi x.1 x.2.1 hk).trans h)
def yzM:Code:=(f32.body).getD .skip
def yJp:Env:=zkw TT [(103,yFW)] []
theorem y0Y:FrOk prog ⟨yJp,33,fun _=>none⟩ yzM:=zkA mixed yd ⟨yZt,trivial⟩
def yLJ:Nat→Option Seg:=fun _=>none
def yeQ:Shape:=⟨[(1,false,[.br tI]),(5,false,[.at 800000000]),(10,false,[.br tM]),(11,false,[.int .i64]),(12,false,[.int .i64])],[],[(800000000,tM,(.pr (.ow (.ow .fz)) (.pr (.ow (.pr .fz (.ow .fz))) (.pr .fz (.ow .fz)))))]⟩
def ykw:Shape:=⟨[(1,false,[.br tI]),(5,false,[.at 800000000]),(10,false,[.br tM]),(11,false,[.int .i64]),(12,false,[.ci .i64 0])],[],[(800000000,tM,(.pr (.ow (.ow .fz)) (.pr (.ow (.pr .fz (.ow .fz))) (.pr .fz (.ow .fz)))))]⟩
def yks:Shape:=⟨[(5,false,[.at 800000000])],[],[(800000000,tM,(.pr (.ow (.ow .fz)) (.pr (.ow (.pr .fz (.ow .fz))) (.pr .fz (.ow .fz)))))]⟩
def yp5:Shape:=⟨[],[],[]⟩
abbrev ywo (v0:List Int) (v1:List dM) (v2 v3:Int) (v4:List dM):(yeQ).X:=(((v0,()),((),()),(v1,()),(v2,()),(v3,()),()),(),(v4,()))
abbrev yYd (v0:List Int) (v1:List dM) (v2:Int) (v3:List dM):(ykw).X:=(((v0,()),((),()),(v1,()),(v2,()),((),()),()),(),(v3,()))
abbrev yIK (v0:List dM):(yks).X:=((((),()),()),(),(v0,()))
def yxc (v0:List Int) (v1:List dM) (v2 v3:Int) (v4:List dM):Option ((yeQ).X ⊕ ((yks).X ⊕ (yp5).X)) :=bif(ltb v3 v2)then bif(inb v3 v1.length)then bif(ltb v3 (v0.length:Int))then bif(inb v3 v0.length)then let r3:=ygZ ((nth v1 v3 ([],[],false,[])).1,((nth v1 v3 ([],[],false,[])).2).1,(((nth v1 v3 ([],[],false,[])).2).2)) (nth v0 v3 0);bif(zkl v4.length ([r3]:List dM).length 80)then some (.inl (((v0,()),((),()),(v1,()),(v2,()),((i64.wrap (v3+1)),()),()),(),((v4++([r3]:List dM)),()))) else none else none else let r4:=ygZ ((nth v1 v3 ([],[],false,[])).1,((nth v1 v3 ([],[],false,[])).2).1,(((nth v1 v3 ([],[],false,[])).2).2)) 0;bif(zkl v4.length ([r4]:List dM).length 80)then some (.inl (((v0,()),((),()),(v1,()),(v2,()),((i64.wrap (v3+1)),()),()),(),((v4++([r4]:List dM)),()))) else none else none else some (.inr (.inl ((((),()),()),(),(v4,()))))
def ye9 (x:(yeQ).X):=yxc x.1.1.1 x.1.2.2.1.1 x.1.2.2.2.1.1 x.1.2.2.2.2.1.1 x.2.2.1
def yIx (x:(ykw).X):(yeQ).X:=(((x.1.1.1,()),((),()),(x.1.2.2.1.1,()),(x.1.2.2.2.1.1,()),(0,()),()),(),(x.2.2.1,()))
def yJ1:Code:=(zd7 yzM 64 116).getD .skip
theorem y0P:zd7 yzM 64 29=some (.block 0 (.loop yJ1)):=by kernel_rfl
theorem y2E (x:(yeQ).X):zhu ⟨yJp,33,yLJ⟩ 0 yJ1 116 yeQ yks yp5 x=ye9 x:=by kernel_rfl
def yIC (x:(ykw).X):Nat:=18446744073709551616
def yyw (x:(ykw).X):Option ((yks).X ⊕ (yp5).X):=zF ye9 (yIC x) (yIx x)
def yJj:Seg:=⟨ykw,yks,yp5,yyw⟩
def y3P:Nat→Option Seg:=fun q=>bif Nat.beq q 29 then some yJj else yLJ q
theorem y0Z:FrOk prog ⟨yJp,33,y3P⟩ yzM:=(y0Y).loop (sg:=yJj) yeQ yIx (by decide) y0P ye9 yIC (by decide) (fun _=>rfl) (fun x r _ h=>h) y2E
abbrev yzP:List Par:= [.rd tMs,.rd tL]
abbrev yJu:List OT:= [⟨false,tMs,(.ow (.pr (.ow (.ow .fz)) (.pr (.ow (.pr .fz (.ow .fz))) (.pr .fz (.ow .fz)))))⟩]
def yCT (a0:List dM) (a1:List Int):Option (zaY yJu×zak yzP) :=zkt (yyw (((a1,()),((),()),(a0,()),((a0.length:Int),()),((),()),()),(),(([]:List dM),()))) (fun y4 =>some ((y4.2.2.1,()),())) (fun y4 =>none)
theorem y4K:ConOk prog 32 ⟨yzP,yJu,fun x=>yCT x.1 x.2.1⟩:=zkI (y0Z) func32 ntmps32.symm fun x=>by kernel_rfl
def yjI (a0:List dM) (a1:List Int):List dM:=ybc a0 a1
theorem y5R (a0:List dM) (a1:List Int) (hk:zjx yzP (a0,a1,())):yCT a0 a1=(fun n=>some ((n,()),())) (yjI a0 a1):=by
 have hb:a0.length*80≤2^47:=hk.1.1
 have h1:yyw (yYd a1 a0 a0.length [])=some (.inl (yIK ((List.range a0.length).foldl (fun s (i:Nat)=>s++ [yfQ (nth a0 i yc) (yGJ a1 i)]) []))) :=
  zkD (step:=ye9) a0.length (fun i s=>ywo a1 a0 a0.length i s) (fun s (i:Nat)=>s++ [yfQ (nth a0 i yc) (yGJ a1 i)]) (fun i s=>s.length=i) (fun s=> .inl (yIK s)) (fun i s hi hs=>⟨by
   simp only[ye9,ywo,yxc,zky (show(i:Int)<a0.length by omega),cond_true,wq ((i:Int)+1) (by omega) (by omega),Int.natCast_add,Int.natCast_one,Int.toNat_natCast,zkR hi,zkX,ygZ,yGJ];rw[zkF.2 (show(s.length+ [yfQ (nth a0 i ([],[],false,[])) (nth a1 i 0)].length)*80≤140737488355328 by simp only[List.length_cons,List.length_nil]; omega),zkF.2 (show(s.length+ [yfQ (nth a0 i ([],[],false,[])) 0].length)*80≤140737488355328 by simp only[List.length_cons,List.length_nil]; omega)];by_cases h:i<a1.length
   ·rw[zky (show(i:Int)<a1.length by omega),zkR h,decide_eq_true h]; rfl
   ·rw[zk3 (show(a1.length:Int)≤i by omega),decide_eq_false h]; rfl,by simp[hs]⟩) (fun s hs=>by simp only[ye9,ywo,yxc,zk3 (Int.le_refl _),cond_false]) [] rfl _ (by show _<18446744073709551616; omega)
 unfold yCT yjI ybc;rw[h1,ywc]; rfl
def yCE:Con:=⟨yzP,yJu,fun x=>(fun n=>some ((n,()),())) (yjI x.1 x.2.1)⟩
theorem yOX:ConOk prog 32 yCE:=(y4K).mono (fun x r hk h=>(y5R x.1 x.2.1 hk).trans h)
def yZ5:Code:=(f19.body).getD .skip
def y0y:Env:=zkw TT [(16,yqP),(28,yvM),(32,yCE),(81,yF)] []
theorem yQa:FrOk prog ⟨y0y,29,fun _=>none⟩ yZ5:=zkA mixed yd ⟨yGX,yKt,yOX,yS,trivial⟩
abbrev ypM:List Par:= [.rd tMs,.rd tL,.rd tI,.rd tI]
abbrev yyN:List OT:= [⟨false,tA,(.pr .fz (.pr (.pr .fz .fz) (.pr (.ow (.pr (.ow (.ow .fz)) (.pr (.ow (.pr .fz (.ow .fz))) (.pr .fz (.ow .fz))))) (.pr .fz (.pr .fz (.pr .fz (.pr .fz (.pr .fz (.pr (.ow (.pr .fz (.ow .fz))) (.pr .fz (.pr .fz .fz)))))))))))⟩,⟨false,tB,.fz⟩]
def ytx (a0:List dM) (a1:List Int) (a2 a3:Int):Option (zaY yyN×zak ypM) :=let r1:=yjI a0 a1;let r2:=ydP r1 a2;bif(!r2.2)then some (((0,(0,0),[],0,0,0,0,0,[],0,false,false),false,()),()) else let r3:=yg a3 (-1) 1000;bif r3 then let r4:=yek (r2.1.1,r2.1.2.1,r2.1.2.2.1,r2.1.2.2.2.1,r2.1.2.2.2.2.1,r2.1.2.2.2.2.2.1,r2.1.2.2.2.2.2.2.1,r2.1.2.2.2.2.2.2.2.1,r2.1.2.2.2.2.2.2.2.2.1,a3,r2.1.2.2.2.2.2.2.2.2.2.2);some ((r4,true,()),()) else let r5:=yek r2.1;some ((r5,true,()),())
theorem yU2:ConOk prog 19 ⟨ypM,yyN,fun x=>ytx x.1 x.2.1 x.2.2.1 x.2.2.2.1⟩:=zkI (yQa) func19 ntmps19.symm fun x=>by kernel_rfl
def ykN (a0:List dM) (a1:List Int) (a2 a3:Int):dA×Bool:=yzL a0 a1 a2 a3
theorem yYl (a0:List dM) (a1:List Int) (a2 a3:Int) (hk:zjx ypM (a0,a1,a2,a3,())):ytx a0 a1 a2 a3=(fun n=>some ((n.1,n.2,()),())) (ykN a0 a1 a2 a3):=by
 unfold ytx ykN yzL;simp only[yjI,ydP,yai,ybm,yek];cases h:(yca (ybc a0 a1) a2).2
 ·rfl
 ·cases(leb (-1) a3&&leb a3 1000)<;>rfl
def yFX:Con:=⟨ypM,yyN,fun x=>(fun n=>some ((n.1,n.2,()),())) (ykN x.1 x.2.1 x.2.2.1 x.2.2.2.1)⟩
theorem yZu:ConOk prog 19 yFX:=(yU2).mono (fun x r hk h=>(yYl x.1 x.2.1 x.2.2.1 x.2.2.2.1 hk).trans h)
def yf2:Code:=(f100.body).getD .skip
def ymd:Env:=zkw TT [(76,ycd)] [(8192,(.pr (.ow .fz) (.pr (.ow (.pr .fz .fz)) (.pr .fz (.ow .fz))))),(25088,(.pr (.ow .fz) (.pr (.ow (.pr .fz .fz)) (.pr .fz (.ow .fz))))),(28672,(.pr .fz .fz)),(46144,(.pr .fz .fz))]
theorem yTE:FrOk prog ⟨ymd,57,fun _=>none⟩ yf2:=zkA mixed yd ⟨ye4,trivial⟩
def yHK:Nat→Option Seg:=fun _=>none
def ycQ:Shape:=⟨[(1,false,[.ptr 0 0]),(2,false,[.ptr 64 0]),(3,false,[.ptr 4160 0]),(4,false,[.int .i64])],[(0,[.int .i64,.int .i64,.int .i64,.br tM,.int .i64,.int .i64,.int .i64,.int .i64,.int .i64,.br tW,.int .i64,.bool,.bool]),(64,[.int .i64,.int .i64,.int .i64,.nil,.int .i64,.int .i64,.int .i64,.int .i64,.int .i64,.nil,.int .i64,.bool,.bool]),(4160,[.int .i64,.int .i64,.int .i64,.at 800000000,.int .i64,.int .i64,.int .i64,.int .i64,.int .i64,.br tW,.int .i64,.bool,.bool])],[(800000000,tM,(.pr (.ow .fz) (.pr (.ow (.pr .fz .fz)) (.pr .fz (.ow .fz)))))]⟩
def yhz:Shape:=⟨[(1,false,[.ptr 0 0]),(2,false,[.ptr 64 0]),(3,false,[.ptr 4160 0]),(4,false,[.ci .i64 0])],[(0,[.int .i64,.int .i64,.int .i64,.br tM,.int .i64,.int .i64,.int .i64,.int .i64,.int .i64,.br tW,.int .i64,.bool,.bool]),(64,[.int .i64,.int .i64,.int .i64,.nil,.int .i64,.int .i64,.int .i64,.int .i64,.int .i64,.nil,.int .i64,.bool,.bool]),(4160,[.int .i64,.int .i64,.int .i64,.at 800000000,.int .i64,.int .i64,.int .i64,.int .i64,.int .i64,.br tW,.int .i64,.bool,.bool])],[(800000000,tM,(.pr (.ow .fz) (.pr (.ow (.pr .fz .fz)) (.pr .fz (.ow .fz)))))]⟩
def yhm:Shape:=⟨[(1,false,[.ptr 0 0]),(2,false,[.ptr 64 0]),(3,false,[.ptr 4160 0])],[(0,[.int .i64,.int .i64,.int .i64,.br tM,.int .i64,.int .i64,.int .i64,.int .i64,.int .i64,.br tW,.int .i64,.bool,.bool]),(64,[.int .i64,.int .i64,.int .i64,.nil,.int .i64,.int .i64,.int .i64,.int .i64,.int .i64,.nil,.int .i64,.bool,.bool]),(4160,[.int .i64,.int .i64,.int .i64,.at 800000000,.int .i64,.int .i64,.int .i64,.int .i64,.int .i64,.br tW,.int .i64,.bool,.bool])],[(800000000,tM,(.pr (.ow .fz) (.pr (.ow (.pr .fz .fz)) (.pr .fz (.ow .fz)))))]⟩
def ylA:Shape:=⟨[],[],[]⟩
abbrev yq4 (v0:Int) (v1 v2 v3:dA):(ycQ).X:=((((),()),((),()),((),()),(v0,()),()),((v1.1,v1.2.1.1,v1.2.1.2,v1.2.2.1,v1.2.2.2.1,v1.2.2.2.2.1,v1.2.2.2.2.2.1,v1.2.2.2.2.2.2.1,v1.2.2.2.2.2.2.2.1,v1.2.2.2.2.2.2.2.2.1,v1.2.2.2.2.2.2.2.2.2.1,v1.2.2.2.2.2.2.2.2.2.2.1,v1.2.2.2.2.2.2.2.2.2.2.2,()),(v2.1,v2.2.1.1,v2.2.1.2,(),v2.2.2.2.1,v2.2.2.2.2.1,v2.2.2.2.2.2.1,v2.2.2.2.2.2.2.1,v2.2.2.2.2.2.2.2.1,(),v2.2.2.2.2.2.2.2.2.2.1,v2.2.2.2.2.2.2.2.2.2.2.1,v2.2.2.2.2.2.2.2.2.2.2.2,()),(v3.1,v3.2.1.1,v3.2.1.2,(),v3.2.2.2.1,v3.2.2.2.2.1,v3.2.2.2.2.2.1,v3.2.2.2.2.2.2.1,v3.2.2.2.2.2.2.2.1,v3.2.2.2.2.2.2.2.2.1,v3.2.2.2.2.2.2.2.2.2.1,v3.2.2.2.2.2.2.2.2.2.2.1,v3.2.2.2.2.2.2.2.2.2.2.2,()),()),(v3.2.2.1,()))
abbrev yQ6 (v0 v1 v2:dA):(yhz).X:=((((),()),((),()),((),()),((),()),()),((v0.1,v0.2.1.1,v0.2.1.2,v0.2.2.1,v0.2.2.2.1,v0.2.2.2.2.1,v0.2.2.2.2.2.1,v0.2.2.2.2.2.2.1,v0.2.2.2.2.2.2.2.1,v0.2.2.2.2.2.2.2.2.1,v0.2.2.2.2.2.2.2.2.2.1,v0.2.2.2.2.2.2.2.2.2.2.1,v0.2.2.2.2.2.2.2.2.2.2.2,()),(v1.1,v1.2.1.1,v1.2.1.2,(),v1.2.2.2.1,v1.2.2.2.2.1,v1.2.2.2.2.2.1,v1.2.2.2.2.2.2.1,v1.2.2.2.2.2.2.2.1,(),v1.2.2.2.2.2.2.2.2.2.1,v1.2.2.2.2.2.2.2.2.2.2.1,v1.2.2.2.2.2.2.2.2.2.2.2,()),(v2.1,v2.2.1.1,v2.2.1.2,(),v2.2.2.2.1,v2.2.2.2.2.1,v2.2.2.2.2.2.1,v2.2.2.2.2.2.2.1,v2.2.2.2.2.2.2.2.1,v2.2.2.2.2.2.2.2.2.1,v2.2.2.2.2.2.2.2.2.2.1,v2.2.2.2.2.2.2.2.2.2.2.1,v2.2.2.2.2.2.2.2.2.2.2.2,()),()),(v2.2.2.1,()))
abbrev yQV (v0 v1 v2:dA):(yhm).X:=((((),()),((),()),((),()),()),((v0.1,v0.2.1.1,v0.2.1.2,v0.2.2.1,v0.2.2.2.1,v0.2.2.2.2.1,v0.2.2.2.2.2.1,v0.2.2.2.2.2.2.1,v0.2.2.2.2.2.2.2.1,v0.2.2.2.2.2.2.2.2.1,v0.2.2.2.2.2.2.2.2.2.1,v0.2.2.2.2.2.2.2.2.2.2.1,v0.2.2.2.2.2.2.2.2.2.2.2,()),(v1.1,v1.2.1.1,v1.2.1.2,(),v1.2.2.2.1,v1.2.2.2.2.1,v1.2.2.2.2.2.1,v1.2.2.2.2.2.2.1,v1.2.2.2.2.2.2.2.1,(),v1.2.2.2.2.2.2.2.2.2.1,v1.2.2.2.2.2.2.2.2.2.2.1,v1.2.2.2.2.2.2.2.2.2.2.2,()),(v2.1,v2.2.1.1,v2.2.1.2,(),v2.2.2.2.1,v2.2.2.2.2.1,v2.2.2.2.2.2.1,v2.2.2.2.2.2.2.1,v2.2.2.2.2.2.2.2.1,v2.2.2.2.2.2.2.2.2.1,v2.2.2.2.2.2.2.2.2.2.1,v2.2.2.2.2.2.2.2.2.2.2.1,v2.2.2.2.2.2.2.2.2.2.2.2,()),()),(v2.2.2.1,()))
def yrI (v0 v1 v2 v3:Int) (v4:List dM) (v5 v6 v7 v8 v9:Int) (v10:List dW) (v11:Int) (v12 v13:Bool) (v14 v15 v16 v17 v18 v19 v20 v21 v22:Int) (v23 v24:Bool) (v25 v26 v27 v28 v29 v30 v31 v32:Int) (v33:List dW) (v34:Int) (v35 v36:Bool) (v37:List dM):Option ((ycQ).X ⊕ ((yhm).X ⊕ (ylA).X)) :=bif(ltb v0 (v4.length:Int))then bif(inb v0 v4.length)then let r2:=yD ((nth v4 v0 ([],[],false,[])).1,((nth v4 v0 ([],[],false,[])).2).1,(((nth v4 v0 ([],[],false,[])).2).2));bif(zkl v37.length ([r2]:List dM).length 80)then some (.inl ((((),()),((),()),((),()),((i64.wrap (v0+1)),()),()),((v1,v2,v3,v4,v5,v6,v7,v8,v9,v10,v11,v12,v13,()),(v14,v15,v16,(),v17,v18,v19,v20,v21,(),v22,v23,v24,()),(v25,v26,v27,(),v28,v29,v30,v31,v32,v33,v34,v35,v36,()),()),((v37++([r2]:List dM)),()))) else none else none else some (.inr (.inl ((((),()),((),()),((),()),()),((v1,v2,v3,v4,v5,v6,v7,v8,v9,v10,v11,v12,v13,()),(v14,v15,v16,(),v17,v18,v19,v20,v21,(),v22,v23,v24,()),(v25,v26,v27,(),v28,v29,v30,v31,v32,v33,v34,v35,v36,()),()),(v37,()))))
def ydl (x:(ycQ).X):=yrI x.1.2.2.2.1.1 x.2.1.1.1 x.2.1.1.2.1 x.2.1.1.2.2.1 x.2.1.1.2.2.2.1 x.2.1.1.2.2.2.2.1 x.2.1.1.2.2.2.2.2.1 x.2.1.1.2.2.2.2.2.2.1 x.2.1.1.2.2.2.2.2.2.2.1 x.2.1.1.2.2.2.2.2.2.2.2.1 x.2.1.1.2.2.2.2.2.2.2.2.2.1 x.2.1.1.2.2.2.2.2.2.2.2.2.2.1 x.2.1.1.2.2.2.2.2.2.2.2.2.2.2.1 x.2.1.1.2.2.2.2.2.2.2.2.2.2.2.2.1 x.2.1.2.1.1 x.2.1.2.1.2.1 x.2.1.2.1.2.2.1 x.2.1.2.1.2.2.2.2.1 x.2.1.2.1.2.2.2.2.2.1 x.2.1.2.1.2.2.2.2.2.2.1 x.2.1.2.1.2.2.2.2.2.2.2.1 x.2.1.2.1.2.2.2.2.2.2.2.2.1 x.2.1.2.1.2.2.2.2.2.2.2.2.2.2.1 x.2.1.2.1.2.2.2.2.2.2.2.2.2.2.2.1 x.2.1.2.1.2.2.2.2.2.2.2.2.2.2.2.2.1 x.2.1.2.2.1.1 x.2.1.2.2.1.2.1 x.2.1.2.2.1.2.2.1 x.2.1.2.2.1.2.2.2.2.1 x.2.1.2.2.1.2.2.2.2.2.1 x.2.1.2.2.1.2.2.2.2.2.2.1 x.2.1.2.2.1.2.2.2.2.2.2.2.1 x.2.1.2.2.1.2.2.2.2.2.2.2.2.1 x.2.1.2.2.1.2.2.2.2.2.2.2.2.2.1 x.2.1.2.2.1.2.2.2.2.2.2.2.2.2.2.1 x.2.1.2.2.1.2.2.2.2.2.2.2.2.2.2.2.1 x.2.1.2.2.1.2.2.2.2.2.2.2.2.2.2.2.2.1 x.2.2.1
def yDO (x:(yhz).X):(ycQ).X:=((((),()),((),()),((),()),(0,()),()),((x.2.1.1.1,x.2.1.1.2.1,x.2.1.1.2.2.1,x.2.1.1.2.2.2.1,x.2.1.1.2.2.2.2.1,x.2.1.1.2.2.2.2.2.1,x.2.1.1.2.2.2.2.2.2.1,x.2.1.1.2.2.2.2.2.2.2.1,x.2.1.1.2.2.2.2.2.2.2.2.1,x.2.1.1.2.2.2.2.2.2.2.2.2.1,x.2.1.1.2.2.2.2.2.2.2.2.2.2.1,x.2.1.1.2.2.2.2.2.2.2.2.2.2.2.1,x.2.1.1.2.2.2.2.2.2.2.2.2.2.2.2.1,()),(x.2.1.2.1.1,x.2.1.2.1.2.1,x.2.1.2.1.2.2.1,(),x.2.1.2.1.2.2.2.2.1,x.2.1.2.1.2.2.2.2.2.1,x.2.1.2.1.2.2.2.2.2.2.1,x.2.1.2.1.2.2.2.2.2.2.2.1,x.2.1.2.1.2.2.2.2.2.2.2.2.1,(),x.2.1.2.1.2.2.2.2.2.2.2.2.2.2.1,x.2.1.2.1.2.2.2.2.2.2.2.2.2.2.2.1,x.2.1.2.1.2.2.2.2.2.2.2.2.2.2.2.2.1,()),(x.2.1.2.2.1.1,x.2.1.2.2.1.2.1,x.2.1.2.2.1.2.2.1,(),x.2.1.2.2.1.2.2.2.2.1,x.2.1.2.2.1.2.2.2.2.2.1,x.2.1.2.2.1.2.2.2.2.2.2.1,x.2.1.2.2.1.2.2.2.2.2.2.2.1,x.2.1.2.2.1.2.2.2.2.2.2.2.2.1,x.2.1.2.2.1.2.2.2.2.2.2.2.2.2.1,x.2.1.2.2.1.2.2.2.2.2.2.2.2.2.2.1,x.2.1.2.2.1.2.2.2.2.2.2.2.2.2.2.2.1,x.2.1.2.2.1.2.2.2.2.2.2.2.2.2.2.2.2.1,()),()),(x.2.2.1,()))
def yFP:Code:=(zd7 yf2 64 244).getD .skip
theorem ySS:zd7 yf2 64 61=some (.block 0 (.loop yFP)):=by kernel_rfl
theorem yVX (x:(ycQ).X):zhu ⟨ymd,57,yHK⟩ 0 yFP 244 ycQ yhm ylA x=ydl x:=by kernel_rfl
def yD1 (x:(yhz).X):Nat:=18446744073709551616
def ysN (x:(yhz).X):Option ((yhm).X ⊕ (ylA).X):=zF ydl (yD1 x) (yDO x)
def yEn:Seg:=⟨yhz,yhm,ylA,ysN⟩
def yuw:Nat→Option Seg:=fun q=>bif Nat.beq q 61 then some yEn else yHK q
theorem yTF:FrOk prog ⟨ymd,57,yuw⟩ yf2:=(yTE).loop (sg:=yEn) ycQ yDO (by decide) ySS ydl yD1 (by decide) (fun _=>rfl) (fun x r _ h=>h) yVX
def yb5:Shape:=⟨[(1,false,[.ptr 0 0]),(2,false,[.ptr 64 0]),(3,false,[.ptr 4160 0]),(5,false,[.int .i64])],[(0,[.int .i64,.int .i64,.int .i64,.br tM,.int .i64,.int .i64,.int .i64,.int .i64,.int .i64,.br tW,.int .i64,.bool,.bool]),(64,[.int .i64,.int .i64,.int .i64,.nil,.int .i64,.int .i64,.int .i64,.int .i64,.int .i64,.nil,.int .i64,.bool,.bool]),(4160,[.int .i64,.int .i64,.int .i64,.at 800000000,.int .i64,.int .i64,.int .i64,.int .i64,.int .i64,.at 800000001,.int .i64,.bool,.bool])],[(800000000,tM,(.pr (.ow .fz) (.pr (.ow (.pr .fz .fz)) (.pr .fz (.ow .fz))))),(800000001,tW,(.pr .fz .fz))]⟩
def ygA:Shape:=⟨[(1,false,[.ptr 0 0]),(2,false,[.ptr 64 0]),(3,false,[.ptr 4160 0]),(5,false,[.ci .i64 0])],[(0,[.int .i64,.int .i64,.int .i64,.br tM,.int .i64,.int .i64,.int .i64,.int .i64,.int .i64,.br tW,.int .i64,.bool,.bool]),(64,[.int .i64,.int .i64,.int .i64,.nil,.int .i64,.int .i64,.int .i64,.int .i64,.int .i64,.nil,.int .i64,.bool,.bool]),(4160,[.int .i64,.int .i64,.int .i64,.at 800000000,.int .i64,.int .i64,.int .i64,.int .i64,.int .i64,.at 800000001,.int .i64,.bool,.bool])],[(800000000,tM,(.pr (.ow .fz) (.pr (.ow (.pr .fz .fz)) (.pr .fz (.ow .fz))))),(800000001,tW,(.pr .fz .fz))]⟩
def ygl:Shape:=⟨[(2,false,[.ptr 64 0]),(3,false,[.ptr 4160 0])],[(64,[.int .i64,.int .i64,.int .i64,.nil,.int .i64,.int .i64,.int .i64,.int .i64,.int .i64,.nil,.int .i64,.bool,.bool]),(4160,[.int .i64,.int .i64,.int .i64,.at 800000000,.int .i64,.int .i64,.int .i64,.int .i64,.int .i64,.at 800000001,.int .i64,.bool,.bool])],[(800000000,tM,(.pr (.ow .fz) (.pr (.ow (.pr .fz .fz)) (.pr .fz (.ow .fz))))),(800000001,tW,(.pr .fz .fz))]⟩
def yj3:Shape:=⟨[],[],[]⟩
abbrev yoX (v0:Int) (v1 v2 v3:dA):(yb5).X:=((((),()),((),()),((),()),(v0,()),()),((v1.1,v1.2.1.1,v1.2.1.2,v1.2.2.1,v1.2.2.2.1,v1.2.2.2.2.1,v1.2.2.2.2.2.1,v1.2.2.2.2.2.2.1,v1.2.2.2.2.2.2.2.1,v1.2.2.2.2.2.2.2.2.1,v1.2.2.2.2.2.2.2.2.2.1,v1.2.2.2.2.2.2.2.2.2.2.1,v1.2.2.2.2.2.2.2.2.2.2.2,()),(v2.1,v2.2.1.1,v2.2.1.2,(),v2.2.2.2.1,v2.2.2.2.2.1,v2.2.2.2.2.2.1,v2.2.2.2.2.2.2.1,v2.2.2.2.2.2.2.2.1,(),v2.2.2.2.2.2.2.2.2.2.1,v2.2.2.2.2.2.2.2.2.2.2.1,v2.2.2.2.2.2.2.2.2.2.2.2,()),(v3.1,v3.2.1.1,v3.2.1.2,(),v3.2.2.2.1,v3.2.2.2.2.1,v3.2.2.2.2.2.1,v3.2.2.2.2.2.2.1,v3.2.2.2.2.2.2.2.1,(),v3.2.2.2.2.2.2.2.2.2.1,v3.2.2.2.2.2.2.2.2.2.2.1,v3.2.2.2.2.2.2.2.2.2.2.2,()),()),(v3.2.2.1,v3.2.2.2.2.2.2.2.2.1,()))
abbrev yOy (v0 v1 v2:dA):(ygA).X:=((((),()),((),()),((),()),((),()),()),((v0.1,v0.2.1.1,v0.2.1.2,v0.2.2.1,v0.2.2.2.1,v0.2.2.2.2.1,v0.2.2.2.2.2.1,v0.2.2.2.2.2.2.1,v0.2.2.2.2.2.2.2.1,v0.2.2.2.2.2.2.2.2.1,v0.2.2.2.2.2.2.2.2.2.1,v0.2.2.2.2.2.2.2.2.2.2.1,v0.2.2.2.2.2.2.2.2.2.2.2,()),(v1.1,v1.2.1.1,v1.2.1.2,(),v1.2.2.2.1,v1.2.2.2.2.1,v1.2.2.2.2.2.1,v1.2.2.2.2.2.2.1,v1.2.2.2.2.2.2.2.1,(),v1.2.2.2.2.2.2.2.2.2.1,v1.2.2.2.2.2.2.2.2.2.2.1,v1.2.2.2.2.2.2.2.2.2.2.2,()),(v2.1,v2.2.1.1,v2.2.1.2,(),v2.2.2.2.1,v2.2.2.2.2.1,v2.2.2.2.2.2.1,v2.2.2.2.2.2.2.1,v2.2.2.2.2.2.2.2.1,(),v2.2.2.2.2.2.2.2.2.2.1,v2.2.2.2.2.2.2.2.2.2.2.1,v2.2.2.2.2.2.2.2.2.2.2.2,()),()),(v2.2.2.1,v2.2.2.2.2.2.2.2.2.1,()))
abbrev yOj (v0 v1:dA):(ygl).X:=((((),()),((),()),()),((v0.1,v0.2.1.1,v0.2.1.2,(),v0.2.2.2.1,v0.2.2.2.2.1,v0.2.2.2.2.2.1,v0.2.2.2.2.2.2.1,v0.2.2.2.2.2.2.2.1,(),v0.2.2.2.2.2.2.2.2.2.1,v0.2.2.2.2.2.2.2.2.2.2.1,v0.2.2.2.2.2.2.2.2.2.2.2,()),(v1.1,v1.2.1.1,v1.2.1.2,(),v1.2.2.2.1,v1.2.2.2.2.1,v1.2.2.2.2.2.1,v1.2.2.2.2.2.2.1,v1.2.2.2.2.2.2.2.1,(),v1.2.2.2.2.2.2.2.2.2.1,v1.2.2.2.2.2.2.2.2.2.2.1,v1.2.2.2.2.2.2.2.2.2.2.2,()),()),(v1.2.2.1,v1.2.2.2.2.2.2.2.2.1,()))
def yps (v0 v1 v2 v3:Int) (v4:List dM) (v5 v6 v7 v8 v9:Int) (v10:List dW) (v11:Int) (v12 v13:Bool) (v14 v15 v16 v17 v18 v19 v20 v21 v22:Int) (v23 v24:Bool) (v25 v26 v27 v28 v29 v30 v31 v32 v33:Int) (v34 v35:Bool) (v36:List dM) (v37:List dW):Option ((yb5).X ⊕ ((ygl).X ⊕ (yj3).X)) :=bif(ltb v0 (v10.length:Int))then bif(inb v0 v10.length)then bif(inb v0 v10.length)then bif(zkl ([]:List Int).length ((nth v10 v0 (0,[])).2).length 8)then bif(zkl v37.length ([((nth v10 v0 (0,[])).1,(([]:List Int)++((nth v10 v0 (0,[])).2)))]:List dW).length 32)then some (.inl ((((),()),((),()),((),()),((i64.wrap (v0+1)),()),()),((v1,v2,v3,v4,v5,v6,v7,v8,v9,v10,v11,v12,v13,()),(v14,v15,v16,(),v17,v18,v19,v20,v21,(),v22,v23,v24,()),(v25,v26,v27,(),v28,v29,v30,v31,v32,(),v33,v34,v35,()),()),(v36,(v37++([((nth v10 v0 (0,[])).1,(([]:List Int)++((nth v10 v0 (0,[])).2)))]:List dW)),()))) else none else none else none else none else some (.inr (.inl ((((),()),((),()),()),((v14,v15,v16,(),v17,v18,v19,v20,v21,(),v22,v23,v24,()),(v25,v26,v27,(),v28,v29,v30,v31,v32,(),v33,v34,v35,()),()),(v36,v37,()))))
def yct (x:(yb5).X):=yps x.1.2.2.2.1.1 x.2.1.1.1 x.2.1.1.2.1 x.2.1.1.2.2.1 x.2.1.1.2.2.2.1 x.2.1.1.2.2.2.2.1 x.2.1.1.2.2.2.2.2.1 x.2.1.1.2.2.2.2.2.2.1 x.2.1.1.2.2.2.2.2.2.2.1 x.2.1.1.2.2.2.2.2.2.2.2.1 x.2.1.1.2.2.2.2.2.2.2.2.2.1 x.2.1.1.2.2.2.2.2.2.2.2.2.2.1 x.2.1.1.2.2.2.2.2.2.2.2.2.2.2.1 x.2.1.1.2.2.2.2.2.2.2.2.2.2.2.2.1 x.2.1.2.1.1 x.2.1.2.1.2.1 x.2.1.2.1.2.2.1 x.2.1.2.1.2.2.2.2.1 x.2.1.2.1.2.2.2.2.2.1 x.2.1.2.1.2.2.2.2.2.2.1 x.2.1.2.1.2.2.2.2.2.2.2.1 x.2.1.2.1.2.2.2.2.2.2.2.2.1 x.2.1.2.1.2.2.2.2.2.2.2.2.2.2.1 x.2.1.2.1.2.2.2.2.2.2.2.2.2.2.2.1 x.2.1.2.1.2.2.2.2.2.2.2.2.2.2.2.2.1 x.2.1.2.2.1.1 x.2.1.2.2.1.2.1 x.2.1.2.2.1.2.2.1 x.2.1.2.2.1.2.2.2.2.1 x.2.1.2.2.1.2.2.2.2.2.1 x.2.1.2.2.1.2.2.2.2.2.2.1 x.2.1.2.2.1.2.2.2.2.2.2.2.1 x.2.1.2.2.1.2.2.2.2.2.2.2.2.1 x.2.1.2.2.1.2.2.2.2.2.2.2.2.2.2.1 x.2.1.2.2.1.2.2.2.2.2.2.2.2.2.2.2.1 x.2.1.2.2.1.2.2.2.2.2.2.2.2.2.2.2.2.1 x.2.2.1 x.2.2.2.1
def yAz (x:(ygA).X):(yb5).X:=((((),()),((),()),((),()),(0,()),()),((x.2.1.1.1,x.2.1.1.2.1,x.2.1.1.2.2.1,x.2.1.1.2.2.2.1,x.2.1.1.2.2.2.2.1,x.2.1.1.2.2.2.2.2.1,x.2.1.1.2.2.2.2.2.2.1,x.2.1.1.2.2.2.2.2.2.2.1,x.2.1.1.2.2.2.2.2.2.2.2.1,x.2.1.1.2.2.2.2.2.2.2.2.2.1,x.2.1.1.2.2.2.2.2.2.2.2.2.2.1,x.2.1.1.2.2.2.2.2.2.2.2.2.2.2.1,x.2.1.1.2.2.2.2.2.2.2.2.2.2.2.2.1,()),(x.2.1.2.1.1,x.2.1.2.1.2.1,x.2.1.2.1.2.2.1,(),x.2.1.2.1.2.2.2.2.1,x.2.1.2.1.2.2.2.2.2.1,x.2.1.2.1.2.2.2.2.2.2.1,x.2.1.2.1.2.2.2.2.2.2.2.1,x.2.1.2.1.2.2.2.2.2.2.2.2.1,(),x.2.1.2.1.2.2.2.2.2.2.2.2.2.2.1,x.2.1.2.1.2.2.2.2.2.2.2.2.2.2.2.1,x.2.1.2.1.2.2.2.2.2.2.2.2.2.2.2.2.1,()),(x.2.1.2.2.1.1,x.2.1.2.2.1.2.1,x.2.1.2.2.1.2.2.1,(),x.2.1.2.2.1.2.2.2.2.1,x.2.1.2.2.1.2.2.2.2.2.1,x.2.1.2.2.1.2.2.2.2.2.2.1,x.2.1.2.2.1.2.2.2.2.2.2.2.1,x.2.1.2.2.1.2.2.2.2.2.2.2.2.1,(),x.2.1.2.2.1.2.2.2.2.2.2.2.2.2.2.1,x.2.1.2.2.1.2.2.2.2.2.2.2.2.2.2.2.1,x.2.1.2.2.1.2.2.2.2.2.2.2.2.2.2.2.2.1,()),()),(x.2.2.1,x.2.2.2.1,()))
def yDm:Code:=(zd7 yf2 64 1012).getD .skip
theorem yPZ:zd7 yf2 64 253=some (.block 2 (.loop yDm)):=by kernel_rfl
theorem yR9 (x:(yb5).X):zhu ⟨ymd,57,yuw⟩ 2 yDm 1012 yb5 ygl yj3 x=yct x:=by kernel_rfl
def yAR (x:(ygA).X):Nat:=18446744073709551616
def yqC (x:(ygA).X):Option ((ygl).X ⊕ (yj3).X):=zF yct (yAR x) (yAz x)
def yBl:Seg:=⟨ygA,ygl,yj3,yqC⟩
def yWv:Nat→Option Seg:=fun q=>bif Nat.beq q 253 then some yBl else yuw q
theorem yTG:FrOk prog ⟨ymd,57,yWv⟩ yf2:=(yTF).loop (sg:=yBl) yb5 yAz (by decide) yPZ yct yAR (by decide) (fun _=>rfl) (fun x r _ h=>h) yR9
abbrev ysk:List Par:= [.rd tA]
abbrev yCt:List OT:= [⟨false,tA,(.pr .fz (.pr (.pr .fz .fz) (.pr (.ow (.pr (.ow .fz) (.pr (.ow (.pr .fz .fz)) (.pr .fz (.ow .fz))))) (.pr .fz (.pr .fz (.pr .fz (.pr .fz (.pr .fz (.pr (.ow (.pr .fz .fz)) (.pr .fz (.pr .fz .fz)))))))))))⟩]
def ywU (a0:dA):Option (zaY yCt×zak ysk) :=zkt (ysN ((((),()),((),()),((),()),((),()),()),((a0.1,a0.2.1.1,a0.2.1.2,a0.2.2.1,a0.2.2.2.1,a0.2.2.2.2.1,a0.2.2.2.2.2.1,a0.2.2.2.2.2.2.1,a0.2.2.2.2.2.2.2.1,a0.2.2.2.2.2.2.2.2.1,a0.2.2.2.2.2.2.2.2.2.1,a0.2.2.2.2.2.2.2.2.2.2.1,a0.2.2.2.2.2.2.2.2.2.2.2,()),(0,0,0,(),0,0,0,0,0,(),0,false,false,()),(a0.1,a0.2.1.1,a0.2.1.2,(),a0.2.2.2.1,a0.2.2.2.2.1,a0.2.2.2.2.2.1,a0.2.2.2.2.2.2.1,a0.2.2.2.2.2.2.2.1,a0.2.2.2.2.2.2.2.2.1,a0.2.2.2.2.2.2.2.2.2.1,a0.2.2.2.2.2.2.2.2.2.2.1,a0.2.2.2.2.2.2.2.2.2.2.2,()),()),(([]:List dM),()))) (fun y2 =>zkt (yqC ((((),()),((),()),((),()),((),()),()),((y2.2.1.1.1,y2.2.1.1.2.1,y2.2.1.1.2.2.1,y2.2.1.1.2.2.2.1,y2.2.1.1.2.2.2.2.1,y2.2.1.1.2.2.2.2.2.1,y2.2.1.1.2.2.2.2.2.2.1,y2.2.1.1.2.2.2.2.2.2.2.1,y2.2.1.1.2.2.2.2.2.2.2.2.1,y2.2.1.1.2.2.2.2.2.2.2.2.2.1,y2.2.1.1.2.2.2.2.2.2.2.2.2.2.1,y2.2.1.1.2.2.2.2.2.2.2.2.2.2.2.1,y2.2.1.1.2.2.2.2.2.2.2.2.2.2.2.2.1,()),(y2.2.1.2.1.1,y2.2.1.2.1.2.1,y2.2.1.2.1.2.2.1,(),y2.2.1.2.1.2.2.2.2.1,y2.2.1.2.1.2.2.2.2.2.1,y2.2.1.2.1.2.2.2.2.2.2.1,y2.2.1.2.1.2.2.2.2.2.2.2.1,y2.2.1.2.1.2.2.2.2.2.2.2.2.1,(),y2.2.1.2.1.2.2.2.2.2.2.2.2.2.2.1,y2.2.1.2.1.2.2.2.2.2.2.2.2.2.2.2.1,y2.2.1.2.1.2.2.2.2.2.2.2.2.2.2.2.2.1,()),(y2.2.1.2.2.1.1,y2.2.1.2.2.1.2.1,y2.2.1.2.2.1.2.2.1,(),y2.2.1.2.2.1.2.2.2.2.1,y2.2.1.2.2.1.2.2.2.2.2.1,y2.2.1.2.2.1.2.2.2.2.2.2.1,y2.2.1.2.2.1.2.2.2.2.2.2.2.1,y2.2.1.2.2.1.2.2.2.2.2.2.2.2.1,(),y2.2.1.2.2.1.2.2.2.2.2.2.2.2.2.2.1,y2.2.1.2.2.1.2.2.2.2.2.2.2.2.2.2.2.1,y2.2.1.2.2.1.2.2.2.2.2.2.2.2.2.2.2.2.1,()),()),(y2.2.2.1,([]:List dW),()))) (fun y3 =>some (((y3.2.1.2.1.1,(y3.2.1.2.1.2.1,y3.2.1.2.1.2.2.1),y3.2.2.1,y3.2.1.2.1.2.2.2.2.1,y3.2.1.2.1.2.2.2.2.2.1,y3.2.1.2.1.2.2.2.2.2.2.1,y3.2.1.2.1.2.2.2.2.2.2.2.1,y3.2.1.2.1.2.2.2.2.2.2.2.2.1,y3.2.2.2.1,y3.2.1.2.1.2.2.2.2.2.2.2.2.2.2.1,y3.2.1.2.1.2.2.2.2.2.2.2.2.2.2.2.1,y3.2.1.2.1.2.2.2.2.2.2.2.2.2.2.2.2.1),()),())) (fun y3 =>none)) (fun y2 =>none)
theorem yZf:ConOk prog 100 ⟨ysk,yCt,fun x=>ywU x.1⟩:=zkI (yTG) func100 ntmps100.symm fun x=>by kernel_rfl
def yf6 (a0:dA):dA:=a0
theorem y1B (a0:dA) (hk:zjx ysk (a0,())):ywU a0=(fun n=>some ((n,()),())) (yf6 a0):=by
 have hb:a0.2.2.1.length*80≤2^47:=hk.1.2.2.1.1;have hb2:a0.2.2.2.2.2.2.2.2.1.length*32≤2^47:=hk.1.2.2.2.2.2.2.2.2.1.1;have hc: ∀i,i<a0.2.2.2.2.2.2.2.2.1.length→(a0.2.2.2.2.2.2.2.2.1.getD i (0,[])).2.length*8≤2^47:=fun i hi=>by rw[zkJ hi]; exact(hk.1.2.2.2.2.2.2.2.2.1.2 _ (List.getElem_mem hi)).2.1
 have h1:=zkx (step:=ydl) a0.2.2.1 yc (fun i s=>yq4 i a0 yK (a0.1,a0.2.1,s,a0.2.2.2)) (fun s x=>s++ [x]) (fun i s=>s.length=i) (fun s=> .inl (yQV a0 yK (a0.1,a0.2.1,s,a0.2.2.2))) (fun i s hi hs=>⟨by
   simp only[ydl,yq4,yrI,zky (show(i:Int)<a0.2.2.1.length by omega),cond_true,wq ((i:Int)+1) (by omega) (by omega),Int.natCast_add,Int.natCast_one,Int.toNat_natCast,zkR hi,zkS,yD,zkX]
   rw[zkF.2 (show(s.length+ [a0.2.2.1.getD i ([],[],false,[])].length)*80≤140737488355328 by simp only[List.length_cons,List.length_nil]; omega)]; rfl,by simp[hs]⟩) (fun s hs=>by simp only[ydl,yq4,yrI,zk3 (Int.le_refl _),cond_false]) [] rfl 18446744073709551616 (by omega)
 have h2:=zkx (step:=yct) a0.2.2.2.2.2.2.2.2.1 (0,[]) (fun i s=>yoX i a0 yK (a0.1,a0.2.1,a0.2.2.1,a0.2.2.2.1,a0.2.2.2.2.1,a0.2.2.2.2.2.1,a0.2.2.2.2.2.2.1,a0.2.2.2.2.2.2.2.1,s,a0.2.2.2.2.2.2.2.2.2)) (fun s x=>s++ [x]) (fun i s=>s.length=i) (fun s=> .inl (yOj yK (a0.1,a0.2.1,a0.2.2.1,a0.2.2.2.1,a0.2.2.2.2.1,a0.2.2.2.2.2.1,a0.2.2.2.2.2.2.1,a0.2.2.2.2.2.2.2.1,s,a0.2.2.2.2.2.2.2.2.2))) (fun i s hi hs=>⟨by
   have:=hc i hi;simp only[yct,yoX,yps,zky (show(i:Int)<a0.2.2.2.2.2.2.2.2.1.length by omega),cond_true,wq ((i:Int)+1) (by omega) (by omega),Int.natCast_add,Int.natCast_one,Int.toNat_natCast,zkR hi,zkS,List.nil_append,zkX]
   rw[zkF.2 (show(([]:List Int).length+(a0.2.2.2.2.2.2.2.2.1.getD i (0,[])).2.length)*8≤140737488355328 by rw[List.length_nil]; omega),zkF.2 (show(s.length+ [a0.2.2.2.2.2.2.2.2.1.getD i (0,[])].length)*32≤140737488355328 by simp only[List.length_cons,List.length_nil]; omega)]; rfl,by simp[hs]⟩) (fun s hs=>by simp only[yct,yoX,yps,zk3 (Int.le_refl _),cond_false]) [] rfl 18446744073709551616 (by omega)
 rw[ys9]at h1 h2;unfold ywU yf6;rw[show ysN (yQ6 a0 yK (a0.1,a0.2.1,[],a0.2.2.2))=_ from h1,zkN];refine(congrArg (fun z=>zkt z _ _) (show yqC (yOy a0 yK (a0.1,a0.2.1,a0.2.2.1,a0.2.2.2.1,a0.2.2.2.2.1,a0.2.2.2.2.2.1,a0.2.2.2.2.2.2.1,a0.2.2.2.2.2.2.2.1,[],a0.2.2.2.2.2.2.2.2.2))=_ from h2)).trans rfl
def yvX:Con:=⟨ysk,yCt,fun x=>(fun n=>some ((n,()),())) (yf6 x.1)⟩
theorem yKA:ConOk prog 100 yvX:=(yZf).mono (fun x r hk h=>(y1B x.1 hk).trans h)
def y3z:Code:=(f92.body).getD .skip
def y37:Env:=zkw TT [(162,yzb)] []
theorem yTm:FrOk prog ⟨y37,40,fun _=>none⟩ y3z:=zkA mixed yd ⟨yLQ,trivial⟩
abbrev yse:List Par:= [.rd tL]
abbrev yCf:List OT:= [⟨false,tN,(.pr .fz (.pr .fz (.ow .fz)))⟩,⟨false,tB,.fz⟩]
def ywO (a0:List Int):Option (zaY yCf×zak yse) :=bif(!(ltb (a0.length:Int) 4))then bif(inb 0 a0.length)then bif(!((nth a0 0 0) !=21322))then bif(inb 3 a0.length)then bif((nth a0 3 0) !=(i64.wrap ((a0.length:Int)-4)))then some (((0,0,[]),false,()),()) else bif(inb 1 a0.length)then bif(inb 2 a0.length)then bif(zj0 4 (a0.length:Int) a0.length)then bif(zkl ([]:List Int).length ((a0.drop (4:Int).toNat).take ((a0.length:Int)-4).toNat).length 8)then let r1:=yB ((nth a0 1 0),(nth a0 2 0),(([]:List Int)++((a0.drop (4:Int).toNat).take ((a0.length:Int)-4).toNat)));bif(!r1)then some (((0,0,[]),false,()),()) else some ((((nth a0 1 0),(nth a0 2 0),(([]:List Int)++((a0.drop (4:Int).toNat).take ((a0.length:Int)-4).toNat))),true,()),()) else none else none else none else none else none else some (((0,0,[]),false,()),()) else none else some (((0,0,[]),false,()),())
theorem yY1:ConOk prog 92 ⟨yse,yCf,fun x=>ywO x.1⟩:=zkI (yTm) func92 ntmps92.symm fun x=>by kernel_rfl
def ymv (a0:List Int):dN×Bool:=yba a0
theorem y1s (a0:List Int) (hk:zjx yse (a0,())):ywO a0=(fun n=>some ((n.1,n.2,()),())) (ymv a0):=by
 have hb:a0.length*8≤2^47:=hk.1.1;unfold ywO ymv yba;by_cases h:(a0.length:Int)<4
 ·rw[zky h,zk1 h]; rfl
 ·have ht:(a0.drop (4:Int).toNat).take ((a0.length:Int)-4).toNat=a0.drop 4:=List.take_of_length_le (by rw[List.length_drop]; show a0.length-4≤_; omega)
  rw[zk3 (Int.not_lt.1 h),zk2 (Int.not_lt.1 h)]
  simp only[bne,Bool.not_false,cond_true,zj6.2 (show(0:Int)≤0∧(0:Int)<a0.length by omega),zj6.2 (show(0:Int)≤1∧(1:Int)<a0.length by omega),zj6.2 (show(0:Int)≤2∧(2:Int)<a0.length by omega),zj6.2 (show(0:Int)≤3∧(3:Int)<a0.length by omega),zkz.2 (show(0:Int)≤4∧(4:Int)≤a0.length∧(a0.length:Int)≤a0.length by omega),ht,List.nil_append,
   zkF.2 (show(([]:List Int).length+(a0.drop 4).length)*8≤140737488355328 by rw[List.length_nil,List.length_drop]; omega),wq ((a0.length:Int)-4) (by omega) (by omega)]
  rw[show yB (nth a0 1 0,nth a0 2 0,a0.drop 4)=yB (yJi a0)from rfl];cases(nth a0 0 0==21322)<;>cases(nth a0 3 0==(a0.length:Int)-4)<;>cases yB (yJi a0)<;>rfl
def yIk:Con:=⟨yse,yCf,fun x=>(fun n=>some ((n.1,n.2,()),())) (ymv x.1)⟩
theorem y2q:ConOk prog 92 yIk:=(yY1).mono (fun x r hk h=>(y1s x.1 hk).trans h)
def ypE:Code:=(f24.body).getD .skip
def yyq:Env:=zkw TT [(82,yq),(90,ylI),(91,yvV),(92,yIk)] []
theorem yQv:FrOk prog ⟨yyq,65,fun _=>none⟩ ypE:=zkA mixed yd ⟨yy,ywE,yKy,y2q,trivial⟩
def yEP:Nat→Option Seg:=fun _=>none
def yb3:Shape:=⟨[(1,false,[.int .i64]),(2,false,[.ptr 0 0]),(4,false,[.ptr 64 0]),(6,false,[.int .i64])],[(0,[.int .i64,.int .i64,.int .i64,.br tM,.int .i64,.int .i64,.int .i64,.int .i64,.int .i64,.br tW,.int .i64,.bool,.bool]),(64,[.int .i64,.int .i64,.nil])],[]⟩
def ygy:Shape:=⟨[(1,false,[.int .i64]),(2,false,[.ptr 0 0]),(4,false,[.ptr 64 0]),(6,false,[.ci .i64 0])],[(0,[.int .i64,.int .i64,.int .i64,.br tM,.int .i64,.int .i64,.int .i64,.int .i64,.int .i64,.br tW,.int .i64,.bool,.bool]),(64,[.int .i64,.int .i64,.nil])],[]⟩
def ygj:Shape:=⟨[(4,false,[.ptr 64 0])],[(64,[.int .i64,.int .i64,.nil])],[]⟩
def ygH:Shape:=⟨[(4,false,[.ptr 64 0]),(5,false,[.bool])],[(64,[.int .i64,.int .i64,.at 800000000])],[(800000000,tI,.fz)]⟩
abbrev yoV (v0 v1:Int) (v2:dA) (v3:dN):(yb3).X:=(((v0,()),((),()),((),()),(v1,()),()),((v2.1,v2.2.1.1,v2.2.1.2,v2.2.2.1,v2.2.2.2.1,v2.2.2.2.2.1,v2.2.2.2.2.2.1,v2.2.2.2.2.2.2.1,v2.2.2.2.2.2.2.2.1,v2.2.2.2.2.2.2.2.2.1,v2.2.2.2.2.2.2.2.2.2.1,v2.2.2.2.2.2.2.2.2.2.2.1,v2.2.2.2.2.2.2.2.2.2.2.2,()),(v3.1,v3.2.1,(),()),()),())
abbrev yOw (v0:Int) (v1:dA) (v2:dN):(ygy).X:=(((v0,()),((),()),((),()),((),()),()),((v1.1,v1.2.1.1,v1.2.1.2,v1.2.2.1,v1.2.2.2.1,v1.2.2.2.2.1,v1.2.2.2.2.2.1,v1.2.2.2.2.2.2.1,v1.2.2.2.2.2.2.2.1,v1.2.2.2.2.2.2.2.2.1,v1.2.2.2.2.2.2.2.2.2.1,v1.2.2.2.2.2.2.2.2.2.2.1,v1.2.2.2.2.2.2.2.2.2.2.2,()),(v2.1,v2.2.1,(),()),()),())
abbrev yOi (v0:dN):(ygj).X:=((((),()),()),((v0.1,v0.2.1,(),()),()),())
abbrev yOF (v0:Bool) (v1:dN):(ygH).X:=((((),()),(v0,()),()),((v1.1,v1.2.1,(),()),()),(v1.2.2,()))
def ypp (v0 v1 v2 v3 v4:Int) (v5:List dM) (v6 v7 v8 v9 v10:Int) (v11:List dW) (v12:Int) (v13 v14:Bool) (v15 v16:Int):Option ((yb3).X ⊕ ((ygj).X ⊕ (ygH).X)) :=bif(ltb v1 (v5.length:Int))then bif(inb v1 v5.length)then let r5:=yl v0;let r6:=ybJ ((nth v5 v1 ([],[],false,[])).1,((nth v5 v1 ([],[],false,[])).2).1,(((nth v5 v1 ([],[],false,[])).2).2)) r5;let r7:=ymv r6.1;bif r6.2 then bif r7.2 then bif(r7.1.1==v0)then let r8:=ya r7.1.2.1 0 (i64.wrap (v4-1));bif r8 then bif((r7.1.2.2.length:Int)==(i64.wrap (v3-1)))then some (.inr (.inr ((((),()),(true,()),()),((r7.1.1,r7.1.2.1,(),()),()),(r7.1.2.2,())))) else some (.inl (((v0,()),((),()),((),()),((i64.wrap (v1+1)),()),()),((v2,v3,v4,v5,v6,v7,v8,v9,v10,v11,v12,v13,v14,()),(v15,v16,(),()),()),())) else some (.inl (((v0,()),((),()),((),()),((i64.wrap (v1+1)),()),()),((v2,v3,v4,v5,v6,v7,v8,v9,v10,v11,v12,v13,v14,()),(v15,v16,(),()),()),())) else some (.inl (((v0,()),((),()),((),()),((i64.wrap (v1+1)),()),()),((v2,v3,v4,v5,v6,v7,v8,v9,v10,v11,v12,v13,v14,()),(v15,v16,(),()),()),())) else some (.inl (((v0,()),((),()),((),()),((i64.wrap (v1+1)),()),()),((v2,v3,v4,v5,v6,v7,v8,v9,v10,v11,v12,v13,v14,()),(v15,v16,(),()),()),())) else some (.inl (((v0,()),((),()),((),()),((i64.wrap (v1+1)),()),()),((v2,v3,v4,v5,v6,v7,v8,v9,v10,v11,v12,v13,v14,()),(v15,v16,(),()),()),())) else none else some (.inr (.inl ((((),()),()),((v15,v16,(),()),()),())))
def ycq (x:(yb3).X):=ypp x.1.1.1 x.1.2.2.2.1.1 x.2.1.1.1 x.2.1.1.2.1 x.2.1.1.2.2.1 x.2.1.1.2.2.2.1 x.2.1.1.2.2.2.2.1 x.2.1.1.2.2.2.2.2.1 x.2.1.1.2.2.2.2.2.2.1 x.2.1.1.2.2.2.2.2.2.2.1 x.2.1.1.2.2.2.2.2.2.2.2.1 x.2.1.1.2.2.2.2.2.2.2.2.2.1 x.2.1.1.2.2.2.2.2.2.2.2.2.2.1 x.2.1.1.2.2.2.2.2.2.2.2.2.2.2.1 x.2.1.1.2.2.2.2.2.2.2.2.2.2.2.2.1 x.2.1.2.1.1 x.2.1.2.1.2.1
def yAw (x:(ygy).X):(yb3).X:=(((x.1.1.1,()),((),()),((),()),(0,()),()),((x.2.1.1.1,x.2.1.1.2.1,x.2.1.1.2.2.1,x.2.1.1.2.2.2.1,x.2.1.1.2.2.2.2.1,x.2.1.1.2.2.2.2.2.1,x.2.1.1.2.2.2.2.2.2.1,x.2.1.1.2.2.2.2.2.2.2.1,x.2.1.1.2.2.2.2.2.2.2.2.1,x.2.1.1.2.2.2.2.2.2.2.2.2.1,x.2.1.1.2.2.2.2.2.2.2.2.2.2.1,x.2.1.1.2.2.2.2.2.2.2.2.2.2.2.1,x.2.1.1.2.2.2.2.2.2.2.2.2.2.2.2.1,()),(x.2.1.2.1.1,x.2.1.2.1.2.1,(),()),()),())
def yDj:Code:=(zd7 ypE 64 52).getD .skip
theorem yPW:zd7 ypE 64 13=some (.block 0 (.loop yDj)):=by kernel_rfl
theorem yR6 (x:(yb3).X):zhu ⟨yyq,65,yEP⟩ 0 yDj 52 yb3 ygj ygH x=ycq x:=by kernel_rfl
def yAO (x:(ygy).X):Nat:=18446744073709551616
def yqz (x:(ygy).X):Option ((ygj).X ⊕ (ygH).X):=zF ycq (yAO x) (yAw x)
def yBi:Seg:=⟨ygy,ygj,ygH,yqz⟩
def ySC:Nat→Option Seg:=fun q=>bif Nat.beq q 13 then some yBi else yEP q
theorem yQw:FrOk prog ⟨yyq,65,ySC⟩ ypE:=(yQv).loop (sg:=yBi) yb3 yAw (by decide) yPW ycq yAO (by decide) (fun _=>rfl) (fun x r _ h=>h) yR6
abbrev ykk:List Par:= [.rd tA,.rd tI]
abbrev ypX:List OT:= [⟨false,tN,(.pr .fz (.pr .fz (.ow .fz)))⟩,⟨false,tB,.fz⟩]
def ytD (a0:dA) (a1:Int):Option (zaY ypX×zak ykk) :=zkt (yqz (((a1,()),((),()),((),()),((),()),()),((a0.1,a0.2.1.1,a0.2.1.2,a0.2.2.1,a0.2.2.2.1,a0.2.2.2.2.1,a0.2.2.2.2.2.1,a0.2.2.2.2.2.2.1,a0.2.2.2.2.2.2.2.1,a0.2.2.2.2.2.2.2.2.1,a0.2.2.2.2.2.2.2.2.2.1,a0.2.2.2.2.2.2.2.2.2.2.1,a0.2.2.2.2.2.2.2.2.2.2.2,()),(0,0,(),()),()),())) (fun y8 =>some (((0,0,[]),false,()),())) (fun y8 =>some (((y8.2.1.1.1,y8.2.1.1.2.1,y8.2.2.1),y8.1.2.1.1,()),()))
theorem yVf:ConOk prog 24 ⟨ykk,ypX,fun x=>ytD x.1 x.2.1⟩:=zkI (yQw) func24 ntmps24.symm fun x=>by kernel_rfl
def yg3 (a0:dA) (a1:Int):dN×Bool:=yU a0 a1
def yk4 (a0:dA) (a1:Int):Bool:=yf a0.2.1||yX3 a0.2.1
theorem yYw (a0:dA) (a1:Int) (hk:zjx ykk (a0,a1,())) (hq:yk4 a0 a1=true):ytD a0 a1=(fun n=>some ((n.1,n.2,()),())) (yg3 a0 a1):=by
 have hb:a0.2.2.1.length*80≤2^47:=hk.1.2.2.1.1;have hg:=y2Z hq
 have h1:=yII (step:=ycq) (List.range a0.2.2.1.length) 0 (fun i=>yoV a1 i a0 yIN) (ymC a0 a1) (fun k=> .inr (yOF true (yzV a0 a1 k.toNat))) (.inl (yOi yIN)) (fun i hi=>by
  rw[List.length_range]at hi;rw[yLD hi];simp only[ycq,yoV,ypp,zky (show(i:Int)<a0.2.2.1.length by omega),cond_true,wq ((i:Int)+1) (by omega) (by omega),Int.natCast_add,Int.natCast_one,Int.toNat_natCast,zkR hi,zkX,ybJ,ymv,ybm,wq (a0.2.1.2-1) (by omega) (by omega),wq (a0.2.1.1-1) (by omega) (by omega),ymC,yzV,yPj,yc]
  cases(yr (nth a0.2.2.1 i ([],[],false,[])) (yl a1)).2<;>cases(yba (yr (nth a0.2.2.1 i ([],[],false,[])) (yl a1)).1).2<;>cases((yba (yr (nth a0.2.2.1 i ([],[],false,[])) (yl a1)).1).1.1==a1)<;>cases(leb 0 (yba (yr (nth a0.2.2.1 i ([],[],false,[])) (yl a1)).1).1.2.1&&leb (yba (yr (nth a0.2.2.1 i ([],[],false,[])) (yl a1)).1).1.2.1 (a0.2.1.2-1))<;>cases(((yba (yr (nth a0.2.2.1 i ([],[],false,[])) (yl a1)).1).1.2.2.length:Int)==a0.2.1.1-1)<;>rfl) (by
   rw[List.length_range]; simp only[ycq,yoV,ypp,zk3 (Int.le_refl _),cond_false]) 18446744073709551616 (by rw[List.length_range]; omega)
 unfold ytD yg3 yU;rw[show yqz (yOw a1 a0 yIN)=_ from h1];cases leb 0 (yR (ymC a0 a1) (List.range a0.2.2.1.length))<;>rfl
def ykY (a0:dA) (a1:Int):Option (zaY ypX×zak ykk):=bif yk4 a0 a1 then(fun n=>some ((n.1,n.2,()),())) (yg3 a0 a1)else none
theorem yIZ (a0:dA) (a1:Int) (h:yk4 a0 a1=true):ykY a0 a1=(fun n=>some ((n.1,n.2,()),())) (yg3 a0 a1):=by unfold ykY; rw[h]; rfl
def ys3:Con:=⟨ykk,ypX,fun x=>ykY x.1 x.2.1⟩
theorem yIS:ConOk prog 24 ys3:=(yVf).mono (fun x r hk h=>zkY h (fun hq=>yYw x.1 x.2.1 hk hq))
def ynt:Code:=(f101.body).getD .skip
def yuH:Env:=zkw TT [(24,ys3),(169,yzh),(170,yv0),(171,ylJ)] []
theorem yOc:FrOk prog ⟨yuH,56,fun _=>none⟩ ynt:=zkA mixed yd ⟨yIS,yLW,yKD,ywF,trivial⟩
def yC9:Nat→Option Seg:=fun _=>none
def yb9:Shape:=⟨[(0,false,[.ptr 1000000000 0]),(2,false,[.int .i64])],[(1000000000,[.int .i64,.int .i64,.int .i64,.at 800000000,.int .i64,.int .i64,.int .i64,.int .i64,.int .i64,.at 800000001,.int .i64,.bool,.bool])],[(800000000,tM,(.pr (.ow .fz) (.pr (.ow (.pr .fz .fz)) (.pr .fz (.ow .fz))))),(800000001,tW,(.pr .fz .fz))]⟩
def ygE:Shape:=⟨[(0,false,[.ptr 1000000000 0]),(2,false,[.ci .i64 0])],[(1000000000,[.int .i64,.int .i64,.int .i64,.at 800000000,.int .i64,.int .i64,.int .i64,.int .i64,.int .i64,.at 800000001,.int .i64,.bool,.bool])],[(800000000,tM,(.pr (.ow .fz) (.pr (.ow (.pr .fz .fz)) (.pr .fz (.ow .fz))))),(800000001,tW,(.pr .fz .fz))]⟩
def ygp:Shape:=⟨[(0,false,[.ptr 1000000000 0])],[(1000000000,[.int .i64,.int .i64,.int .i64,.at 800000000,.int .i64,.int .i64,.int .i64,.int .i64,.int .i64,.at 800000001,.int .i64,.bool,.bool])],[(800000000,tM,(.pr (.ow .fz) (.pr (.ow (.pr .fz .fz)) (.pr .fz (.ow .fz))))),(800000001,tW,(.pr .fz .fz))]⟩
def ygK:Shape:=⟨[],[(1000000000,[.int .i64,.int .i64,.int .i64,.at 800000000,.int .i64,.int .i64,.int .i64,.int .i64,.int .i64,.at 800000001,.int .i64,.bool,.bool])],[(800000000,tM,(.pr (.ow .fz) (.pr (.ow (.pr .fz .fz)) (.pr .fz (.ow .fz))))),(800000001,tW,(.pr .fz .fz))]⟩
abbrev yjj (v0:Int) (v1:dA):(yb9).X:=((((),()),(v0,()),()),((v1.1,v1.2.1.1,v1.2.1.2,(),v1.2.2.2.1,v1.2.2.2.2.1,v1.2.2.2.2.2.1,v1.2.2.2.2.2.2.1,v1.2.2.2.2.2.2.2.1,(),v1.2.2.2.2.2.2.2.2.2.1,v1.2.2.2.2.2.2.2.2.2.2.1,v1.2.2.2.2.2.2.2.2.2.2.2,()),()),(v1.2.2.1,v1.2.2.2.2.2.2.2.2.1,()))
abbrev yOC (v0:dA):(ygE).X:=((((),()),((),()),()),((v0.1,v0.2.1.1,v0.2.1.2,(),v0.2.2.2.1,v0.2.2.2.2.1,v0.2.2.2.2.2.1,v0.2.2.2.2.2.2.1,v0.2.2.2.2.2.2.2.1,(),v0.2.2.2.2.2.2.2.2.2.1,v0.2.2.2.2.2.2.2.2.2.2.1,v0.2.2.2.2.2.2.2.2.2.2.2,()),()),(v0.2.2.1,v0.2.2.2.2.2.2.2.2.1,()))
abbrev yOn (v0:dA):(ygp).X:=((((),()),()),((v0.1,v0.2.1.1,v0.2.1.2,(),v0.2.2.2.1,v0.2.2.2.2.1,v0.2.2.2.2.2.1,v0.2.2.2.2.2.2.1,v0.2.2.2.2.2.2.2.1,(),v0.2.2.2.2.2.2.2.2.2.1,v0.2.2.2.2.2.2.2.2.2.2.1,v0.2.2.2.2.2.2.2.2.2.2.2,()),()),(v0.2.2.1,v0.2.2.2.2.2.2.2.2.1,()))
abbrev yo1 (v0:dA):(ygK).X:=((),((v0.1,v0.2.1.1,v0.2.1.2,(),v0.2.2.2.1,v0.2.2.2.2.1,v0.2.2.2.2.2.1,v0.2.2.2.2.2.2.1,v0.2.2.2.2.2.2.2.1,(),v0.2.2.2.2.2.2.2.2.2.1,v0.2.2.2.2.2.2.2.2.2.2.1,v0.2.2.2.2.2.2.2.2.2.2.2,()),()),(v0.2.2.1,v0.2.2.2.2.2.2.2.2.1,()))
def ypw (v0 v1 v2 v3 v4 v5 v6 v7 v8 v9:Int) (v10 v11:Bool) (v12:List dM) (v13:List dW):Option ((yb9).X ⊕ ((ygp).X ⊕ (ygK).X)) :=bif(ltb v0 4)then bnd (ykY (v1,(v2,v3),v12,v4,v5,v6,v7,v8,v13,v9,v10,v11) v6) fun r4 =>bif(!(!r4.1.2.1))then bif(leb 60000 v6)then some (.inr (.inl ((((),()),()),((v1,v2,v3,(),v4,v5,v6,v7,v8,(),v9,v10,v11,()),()),(v12,v13,())))) else let r5:=yfH (v1,(v2,v3),v12,v4,v5,v6,v7,v8,v13,v9,v10,v11) r4.1.1;bif r5.2.2.2.2.2.2.2.2.2.2.1 then some (.inr (.inr ((),((r5.1,r5.2.1.1,r5.2.1.2,(),r5.2.2.2.1,r5.2.2.2.2.1,r5.2.2.2.2.2.1,r5.2.2.2.2.2.2.1,r5.2.2.2.2.2.2.2.1,(),r5.2.2.2.2.2.2.2.2.2.1,r5.2.2.2.2.2.2.2.2.2.2.1,r5.2.2.2.2.2.2.2.2.2.2.2,()),()),(r5.2.2.1,r5.2.2.2.2.2.2.2.2.1,())))) else bnd (yeo (r5.1,r5.2.1,r5.2.2.1,r5.2.2.2.1,r5.2.2.2.2.1,(i64.wrap (r5.2.2.2.2.2.1+1)),r5.2.2.2.2.2.2) r4.1.1.2.1 r4.1.1.2.2) fun r6 =>bif r6.2.1.2.2.2.2.2.2.2.2.2.2.1 then some (.inr (.inr ((),((r6.2.1.1,r6.2.1.2.1.1,r6.2.1.2.1.2,(),r6.2.1.2.2.2.1,r6.2.1.2.2.2.2.1,r6.2.1.2.2.2.2.2.1,r6.2.1.2.2.2.2.2.2.1,r6.2.1.2.2.2.2.2.2.2.1,(),r6.2.1.2.2.2.2.2.2.2.2.2.1,r6.2.1.2.2.2.2.2.2.2.2.2.2.1,r6.2.1.2.2.2.2.2.2.2.2.2.2.2,()),()),(r6.2.1.2.2.1,r6.2.1.2.2.2.2.2.2.2.2.1,())))) else some (.inl ((((),()),((i64.wrap (v0+1)),()),()),((r6.2.1.1,r6.2.1.2.1.1,r6.2.1.2.1.2,(),r6.2.1.2.2.2.1,r6.2.1.2.2.2.2.1,r6.2.1.2.2.2.2.2.1,r6.2.1.2.2.2.2.2.2.1,r6.2.1.2.2.2.2.2.2.2.1,(),r6.2.1.2.2.2.2.2.2.2.2.2.1,r6.2.1.2.2.2.2.2.2.2.2.2.2.1,r6.2.1.2.2.2.2.2.2.2.2.2.2.2,()),()),(r6.2.1.2.2.1,r6.2.1.2.2.2.2.2.2.2.2.1,()))) else some (.inr (.inl ((((),()),()),((v1,v2,v3,(),v4,v5,v6,v7,v8,(),v9,v10,v11,()),()),(v12,v13,())))) else some (.inr (.inl ((((),()),()),((v1,v2,v3,(),v4,v5,v6,v7,v8,(),v9,v10,v11,()),()),(v12,v13,()))))
def ycx (x:(yb9).X):=ypw x.1.2.1.1 x.2.1.1.1 x.2.1.1.2.1 x.2.1.1.2.2.1 x.2.1.1.2.2.2.2.1 x.2.1.1.2.2.2.2.2.1 x.2.1.1.2.2.2.2.2.2.1 x.2.1.1.2.2.2.2.2.2.2.1 x.2.1.1.2.2.2.2.2.2.2.2.1 x.2.1.1.2.2.2.2.2.2.2.2.2.2.1 x.2.1.1.2.2.2.2.2.2.2.2.2.2.2.1 x.2.1.1.2.2.2.2.2.2.2.2.2.2.2.2.1 x.2.2.1 x.2.2.2.1
def yAD (x:(ygE).X):(yb9).X:=((((),()),(0,()),()),((x.2.1.1.1,x.2.1.1.2.1,x.2.1.1.2.2.1,(),x.2.1.1.2.2.2.2.1,x.2.1.1.2.2.2.2.2.1,x.2.1.1.2.2.2.2.2.2.1,x.2.1.1.2.2.2.2.2.2.2.1,x.2.1.1.2.2.2.2.2.2.2.2.1,(),x.2.1.1.2.2.2.2.2.2.2.2.2.2.1,x.2.1.1.2.2.2.2.2.2.2.2.2.2.2.1,x.2.1.1.2.2.2.2.2.2.2.2.2.2.2.2.1,()),()),(x.2.2.1,x.2.2.2.1,()))
def yDq:Code:=(zd7 ynt 64 20).getD .skip
theorem yP3:zd7 ynt 64 5=some (.block 0 (.loop yDq)):=by kernel_rfl
theorem ySd (x:(yb9).X):zhu ⟨yuH,56,yC9⟩ 0 yDq 20 yb9 ygp ygK x=ycx x:=by kernel_rfl
def yAV (x:(ygE).X):Nat:=18446744073709551616
def yqG (x:(ygE).X):Option ((ygp).X ⊕ (ygK).X):=zF ycx (yAV x) (yAD x)
def yBp:Seg:=⟨ygE,ygp,ygK,yqG⟩
def yPI:Nat→Option Seg:=fun q=>bif Nat.beq q 5 then some yBp else yC9 q
theorem yOd:FrOk prog ⟨yuH,56,yPI⟩ ynt:=(yOc).loop (sg:=yBp) yb9 yAD (by decide) yP3 ycx yAV (by decide) (fun _=>rfl) (fun x r _ h=>h) ySd
abbrev yit:List Par:= [.pt tA (.pr .fz (.pr (.pr .fz .fz) (.pr (.ow (.pr (.ow .fz) (.pr (.ow (.pr .fz .fz)) (.pr .fz (.ow .fz))))) (.pr .fz (.pr .fz (.pr .fz (.pr .fz (.pr .fz (.pr (.ow (.pr .fz .fz)) (.pr .fz (.pr .fz .fz)))))))))))]
abbrev ynT:List OT:= []
def yrA (a0:dA):Option (zaY ynT×zak yit) :=zkt (yqG ((((),()),((),()),()),((a0.1,a0.2.1.1,a0.2.1.2,(),a0.2.2.2.1,a0.2.2.2.2.1,a0.2.2.2.2.2.1,a0.2.2.2.2.2.2.1,a0.2.2.2.2.2.2.2.1,(),a0.2.2.2.2.2.2.2.2.2.1,a0.2.2.2.2.2.2.2.2.2.2.1,a0.2.2.2.2.2.2.2.2.2.2.2,()),()),(a0.2.2.1,a0.2.2.2.2.2.2.2.2.1,()))) (fun y6 =>let r8:=ye0 (y6.2.1.1.1,(y6.2.1.1.2.1,y6.2.1.1.2.2.1),y6.2.2.1,y6.2.1.1.2.2.2.2.1,y6.2.1.1.2.2.2.2.2.1,y6.2.1.1.2.2.2.2.2.2.1,y6.2.1.1.2.2.2.2.2.2.2.1,y6.2.1.1.2.2.2.2.2.2.2.2.1,y6.2.2.2.1,y6.2.1.1.2.2.2.2.2.2.2.2.2.2.1,y6.2.1.1.2.2.2.2.2.2.2.2.2.2.2.1,y6.2.1.1.2.2.2.2.2.2.2.2.2.2.2.2.1);some ((),(r8,()))) (fun y6 =>some ((),((y6.2.1.1.1,(y6.2.1.1.2.1,y6.2.1.1.2.2.1),y6.2.2.1,y6.2.1.1.2.2.2.2.1,y6.2.1.1.2.2.2.2.2.1,y6.2.1.1.2.2.2.2.2.2.1,y6.2.1.1.2.2.2.2.2.2.2.1,y6.2.1.1.2.2.2.2.2.2.2.2.1,y6.2.2.2.1,y6.2.1.1.2.2.2.2.2.2.2.2.2.2.1,y6.2.1.1.2.2.2.2.2.2.2.2.2.2.2.1,y6.2.1.1.2.2.2.2.2.2.2.2.2.2.2.2.1),())))
theorem yRO:ConOk prog 101 ⟨yit,ynT,fun x=>yrA x.1⟩:=zkI (yOd) func101 ntmps101.symm fun x=>by kernel_rfl
def yju (a0:dA):dA:=yPk a0
def yjz (a0:dA):Bool:=yf a0.2.1&&(a0.2.2.1.length:Int)==a0.2.1.1
theorem yUY (a0:dA) (hk:zjx yit (a0,())) (hq:yjz a0=true):yrA a0=(fun n=>some ((),(n,()))) (yju a0):=by
 simp only[yjz,Bool.and_eq_true,beq_iff_eq]at hq
 have h1:=zkC (step:=ycx) 4 (fun i s=>yjj i s) ytP (fun _ s=>s.2.1=a0.2.1∧s.2.2.1.length=a0.2.2.1.length) .inl
  (fun b=>match b with | .inl x=> .inl (yOn x) | .inr x=> .inr (yo1 x)) (fun i s hi hs=>by
   constructor
   ·simp only[ycx,yjj,ypw,zky (show(i:Int)<4 by omega),cond_true,wq ((i:Int)+1) (by omega) (by omega),Int.natCast_add,Int.natCast_one,Int.toNat_natCast,zkX]
    rw[yIZ s s.2.2.2.2.2.1 (by unfold yk4; rw[hs.1,hq.1]; rfl)];simp only[zkH,yg3,yfH];unfold ytP;cases hf:(yU s s.2.2.2.2.2.1).2
    ·rfl
    ·cases leb 60000 s.2.2.2.2.2.1
     ·have ho:=y6E (a:=s) (q:=s.2.2.2.2.2.1) (by rw[hs.1]; exact hq.1) hf
      have hd:yeo (yQ (ygW s)) (yU s s.2.2.2.2.2.1).1.2.1 (yU s s.2.2.2.2.2.1).1.2.2=some ((),(ype s,())):=yKG _ _ _ (by
       unfold yig;simp only[Bool.and_eq_true,beq_iff_eq];rw[show(yQ (ygW s)).2.1=s.2.1 from yV3 s]
       exact⟨ho.1,ho.2,by rw[show(yQ (ygW s)).2.2.1.length=s.2.2.1.length from yKP s _,hs.2,hq.2,hs.1]⟩)
      have h1:yc0 s (yU s s.2.2.2.2.2.1).1=ygW s:=rfl;rw[h1];generalize ype s=R2 at hd ⊢;generalize ygW s=R1 at hd ⊢;generalize yU s s.2.2.2.2.2.1=F at hd ⊢;unfold yQ at hd;simp only[Bool.not_true,Bool.not_false,cond_true,cond_false,Bool.or_self,hd,zkH];show(bif ye R1 then some (Sum.inr (Sum.inr (yo1 R1)))else bif ye R2 then some (Sum.inr (Sum.inr (yo1 R2)))else some (Sum.inl (yjj ((i:Int)+1) R2)))=_;cases ye R1
      ·cases ye R2<;>rfl
      ·rfl
     ·rfl
   ·intro s' h
    unfold ytP at h;cases hc:(!(yU s s.2.2.2.2.2.1).2||leb 60000 s.2.2.2.2.2.1)
    ·rw[hc]at h
     cases hd1:ye (ygW s)
     ·rw[hd1]at h
      cases hd2:ye (ype s)
      ·rw[hd2]at h
       simp only[cond_false,Sum.inl.injEq]at h;subst h;exact⟨(y50 s).trans hs.1,(y51 s).trans hs.2⟩
      ·rw[hd2]at h; cases h
     ·rw[hd1]at h; cases h
    ·rw[hc]at h; cases h) (fun s hs=>by simp only[ycx,yjj,ypw]; rfl) a0 ⟨rfl,rfl⟩ 18446744073709551616 (by omega)
 unfold yrA yju yPk;refine(congrArg (fun z=>zkt z _ _) (show yqG (yOC a0)=_ from h1)).trans ?_;cases goE ytP .inl 4 0 a0 with
 | inl b=>simp only[zkN,yCW]
 | inr b=>rfl
def yof (a0:dA):Option (zaY ynT×zak yit):=bif yjz a0 then(fun n=>some ((),(n,()))) (yju a0)else none
theorem yVO (a0:dA) (h:yjz a0=true):yof a0=(fun n=>some ((),(n,()))) (yju a0):=by unfold yof; rw[h]; rfl
def yDG:Con:=⟨yit,ynT,fun x=>yof x.1⟩
theorem yVK:ConOk prog 101 yDG:=(yRO).mono (fun x r hk h=>zkY h (fun hq=>yUY x.1 hk hq))
def y3C:Code:=(f29.body).getD .skip
def y4a:Env:=zkw TT [(78,ykE),(100,yvX),(101,yDG)] []
theorem yTr:FrOk prog ⟨y4a,25,fun _=>none⟩ y3C:=zkA mixed yd ⟨ysx,yKA,yVK,trivial⟩
abbrev ysi:List Par:= [.rd tA]
abbrev yCj:List OT:= [⟨false,tA,(.pr .fz (.pr (.pr .fz .fz) (.pr (.ow (.pr (.ow .fz) (.pr (.ow (.pr .fz .fz)) (.pr .fz (.ow .fz))))) (.pr .fz (.pr .fz (.pr .fz (.pr .fz (.pr .fz (.pr (.ow (.pr .fz .fz)) (.pr .fz (.pr .fz .fz)))))))))))⟩]
def ywS (a0:dA):Option (zaY yCj×zak ysi) :=let r1:=yf6 a0;let r2:=yaN a0;bif r2 then bif(!a0.2.2.2.2.2.2.2.2.2.2.1)then bif(!a0.2.2.2.2.2.2.2.2.2.2.2)then bif(ltb a0.2.2.2.2.2.2.2.1 60000)then bnd (yof r1) fun r3 =>some ((r3.2.1,()),()) else some ((r1,()),()) else some ((r1,()),()) else some ((r1,()),()) else some ((r1,()),())
theorem yY5:ConOk prog 29 ⟨ysi,yCj,fun x=>ywS x.1⟩:=zkI (yTr) func29 ntmps29.symm fun x=>by kernel_rfl
def yem (a0:dA):dA:=ymD a0
theorem y1w (a0:dA) (hk:zjx ysi (a0,())):ywS a0=(fun n=>some ((n,()),())) (yem a0):=by
 unfold ywS yem ymD;simp only[yf6,yaN];cases ha:yE a0
 ·rfl
 rw[yVO a0 (by unfold yjz; rw[yjf ha,yz3 ha]; simp)];unfold yju;generalize yPk a0=R;show(bif true then bif !(ye a0)then(bif !a0.2.2.2.2.2.2.2.2.2.2.2 then bif ltb a0.2.2.2.2.2.2.2.1 60000 then _ else _ else _)else _ else _)=_;cases ye a0<;>cases a0.2.2.2.2.2.2.2.2.2.2.2<;>cases ltb a0.2.2.2.2.2.2.2.1 60000<;>rfl
def yvU:Con:=⟨ysi,yCj,fun x=>(fun n=>some ((n,()),())) (yem x.1)⟩
theorem yKx:ConOk prog 29 yvU:=(yY5).mono (fun x r hk h=>(y1w x.1 hk).trans h)
def ypD:Code:=(f104.body).getD .skip
def yyp:Env:=zkw TT [(76,ycd),(82,yq),(160,yeV)] [(45056,(.pr .fz .fz))]
theorem yQt:FrOk prog ⟨yyp,51,fun _=>none⟩ ypD:=zkA mixed yd ⟨ye4,yy,yif,trivial⟩
def yEO:Nat→Option Seg:=fun _=>none
def ybu:Shape:=⟨[(1,false,[.int .i64]),(4,false,[.ptr 64 0]),(5,false,[.ptr 4224 0]),(6,false,[.int .i64])],[(64,[.nil,.nil,.bool,.nil]),(4224,[.at 800000000,.at 800000001,.bool,.at 800000002])],[(800000000,tL,.fz),(800000001,tW,(.pr .fz .fz)),(800000002,tI,.fz)]⟩
def yfx:Shape:=⟨[(1,false,[.int .i64]),(4,false,[.ptr 64 0]),(5,false,[.ptr 4224 0]),(6,false,[.int .i64])],[(64,[.nil,.nil,.bool,.nil]),(4224,[.at 800000000,.at 800000001,.bool,.at 800000002])],[(800000000,tL,.fz),(800000001,tW,(.pr .fz .fz)),(800000002,tI,.fz)]⟩
def yfm:Shape:=⟨[(4,false,[.ptr 64 0]),(5,false,[.ptr 4224 0])],[(64,[.nil,.nil,.bool,.nil]),(4224,[.at 800000000,.at 800000001,.bool,.at 800000002])],[(800000000,tL,.fz),(800000001,tW,(.pr .fz .fz)),(800000002,tI,.fz)]⟩
def yi8:Shape:=⟨[],[],[]⟩
abbrev ym2 (v0 v1:Int) (v2 v3:dM):(ybu).X:=(((v0,()),((),()),((),()),(v1,()),()),(((),(),v2.2.2.1,(),()),((),(),v3.2.2.1,(),()),()),(v3.1,v3.2.1,v3.2.2.2,()))
abbrev yMB (v0 v1:Int) (v2 v3:dM):(yfx).X:=(((v0,()),((),()),((),()),(v1,()),()),(((),(),v2.2.2.1,(),()),((),(),v3.2.2.1,(),()),()),(v3.1,v3.2.1,v3.2.2.2,()))
abbrev yxY (v0 v1:dM):(yfm).X:=((((),()),((),()),()),(((),(),v0.2.2.1,(),()),((),(),v1.2.2.1,(),()),()),(v1.1,v1.2.1,v1.2.2.2,()))
def ynh (v0 v1:Int) (v2 v3:Bool) (v4:List (List Int)) (v5:List dW) (v6:List Int):Option ((ybu).X ⊕ ((yfm).X ⊕ (yi8).X)) :=bif(ltb v1 (v5.length:Int))then bif(ltb v1 20)then bif(leb 0 (IntKind.u64.wrap v1))then bif((i64.wrap ((BitVec.ofInt IntKind.i64.bits (v0.fdiv (2^(min ((IntKind.u64.wrap v1)).toNat IntKind.i64.bits))) &&& BitVec.ofInt IntKind.i64.bits 1).toNat:Int))==1)then bif(inb v1 v5.length)then bif(inb v1 v5.length)then bif(inb ((nth v5 v1 (0,[])).1) v4.length)then let r5:=(v4.set ((nth v5 v1 (0,[])).1).toNat ((nth v5 v1 (0,[])).2));some (.inl (((v0,()),((),()),((),()),((i64.wrap (v1+1)),()),()),(((),(),v2,(),()),((),(),v3,(),()),()),(r5,v5,v6,()))) else none else none else none else some (.inl (((v0,()),((),()),((),()),((i64.wrap (v1+1)),()),()),(((),(),v2,(),()),((),(),v3,(),()),()),(v4,v5,v6,()))) else none else some (.inr (.inl ((((),()),((),()),()),(((),(),v2,(),()),((),(),v3,(),()),()),(v4,v5,v6,())))) else some (.inr (.inl ((((),()),((),()),()),(((),(),v2,(),()),((),(),v3,(),()),()),(v4,v5,v6,()))))
def ybS (x:(ybu).X):=ynh x.1.1.1 x.1.2.2.2.1.1 x.2.1.1.2.2.1 x.2.1.2.1.2.2.1 x.2.2.1 x.2.2.2.1 x.2.2.2.2.1
def yxE (x:(yfx).X):(ybu).X:=(((x.1.1.1,()),((),()),((),()),(x.1.2.2.2.1.1,()),()),(((),(),x.2.1.1.2.2.1,(),()),((),(),x.2.1.2.1.2.2.1,(),()),()),(x.2.2.1,x.2.2.2.1,x.2.2.2.2.1,()))
def yAc:Code:=(zd7 ypD 64 500).getD .skip
theorem yNk:zd7 ypD 64 125=some (.block 0 (.loop yAc)):=by kernel_rfl
theorem yPd (x:(ybu).X):zhu ⟨yyp,51,yEO⟩ 0 yAc 500 ybu yfm yi8 x=ybS x:=by kernel_rfl
def yxQ (x:(yfx).X):Nat:=18446744073709551616
def yil (x:(yfx).X):Option ((yfm).X ⊕ (yi8).X):=zF ybS (yxQ x) (yxE x)
def yyb:Seg:=⟨yfx,yfm,yi8,yil⟩
def ySB:Nat→Option Seg:=fun q=>bif Nat.beq q 125 then some yyb else yEO q
theorem yQu:FrOk prog ⟨yyp,51,ySB⟩ ypD:=(yQt).loop (sg:=yyb) ybu yxE (by decide) yNk ybS yxQ (by decide) (fun _=>rfl) (fun x r _ h=>h) yPd
abbrev ypQ:List Par:= [.rd tM,.rd tI]
abbrev yyY:List OT:= [⟨false,tM,(.pr (.ow .fz) (.pr (.ow (.pr .fz .fz)) (.pr .fz (.ow .fz))))⟩]
def ytC (a0:dM) (a1:Int):Option (zaY yyY×zak ypQ) :=let r1:=yD a0;let r2:=yab a0;bif(!r2)then some ((r1,()),()) else let r3:=ya a1 0 1048575;bif(!r3)then zkt (yil (((0,()),((),()),((),()),(0,()),()),(((),(),false,(),()),((),(),r1.2.2.1,(),()),()),(r1.1,r1.2.1,r1.2.2.2,()))) (fun y5 =>some (((y5.2.2.1,([]:List dW),y5.2.1.2.1.2.2.1,y5.2.2.2.2.1),()),())) (fun y5 =>none) else zkt (yil (((a1,()),((),()),((),()),(0,()),()),(((),(),false,(),()),((),(),r1.2.2.1,(),()),()),(r1.1,r1.2.1,r1.2.2.2,()))) (fun y6 =>some (((y6.2.2.1,([]:List dW),y6.2.1.2.1.2.2.1,y6.2.2.2.2.1),()),())) (fun y6 =>none)
theorem yVe:ConOk prog 104 ⟨ypQ,yyY,fun x=>ytC x.1 x.2.1⟩:=zkI (yQu) func104 ntmps104.symm fun x=>by kernel_rfl
def yg2 (a0:dM) (a1:Int):dM:=yfQ a0 a1
theorem yYv (a0:dM) (a1:Int) (hk:zjx ypQ (a0,a1,())):ytC a0 a1=(fun n=>some ((n,()),())) (yg2 a0 a1):=by
 have hb2:a0.2.1.length*32≤2^47:=hk.1.2.1.1;unfold ytC yg2 yfQ;simp only[yD,yab,ybm];cases hm:yu a0
 ·rfl
 have h1: ∀k,yil (yMB k 0 yc a0)=some (.inl (yxY yc (ybI (fun i=>decide (i<20)&&yKZ k i) a0.2.1 a0.1,a0.2))):=fun k=>by
  rw[y6l]
  exact zkD (step:=ybS) (min a0.2.1.length 20) (fun i s=>ym2 k i yc (s,a0.2)) (ybz (yKZ k) a0.2.1) (fun i s=>s.length=a0.1.length) (fun s=> .inl (yxY yc (s,a0.2))) (fun i s hi hs=>by
   have hu:IntKind.u64.wrap (i:Int)=i:=by simp only[IntKind.wrap,IntKind.bits,IntKind.signed,Bool.false_and,Bool.false_eq_true,if_false]; omega
   have hw:=(yLb hm (show i<a0.2.1.length by omega)).1;refine⟨?_,ywn.trans hs⟩;simp only[ybS,ym2,ynh,zky (show(i:Int)<a0.2.1.length by omega),cond_true,wq ((i:Int)+1) (by omega) (by omega),Int.natCast_add,Int.natCast_one,Int.toNat_natCast,zky (show(i:Int)<20 by omega),hu,zk2 (show(0:Int)≤i by omega),zkR (show i<a0.2.1.length by omega),hs,hw,ybz];rw[show yKZ k i=(i64.wrap ((BitVec.ofInt IntKind.i64.bits (k.fdiv (2^(min i IntKind.i64.bits))) &&& BitVec.ofInt IntKind.i64.bits 1).toNat:Int)==1)from rfl]
   cases(i64.wrap ((BitVec.ofInt IntKind.i64.bits (k.fdiv (2^(min i IntKind.i64.bits))) &&& BitVec.ofInt IntKind.i64.bits 1).toNat:Int)==1)<;>rfl) (fun s hs=>by
   simp only[ybS,ym2,ynh];by_cases h:a0.2.1.length≤20
   ·rw[zk3 (show(a0.2.1.length:Int)≤((min a0.2.1.length 20:Nat):Int)by omega)]; rfl
   ·rw[zky (show((min a0.2.1.length 20:Nat):Int)<(a0.2.1.length:Int)by omega),zk3 (show(20:Int)≤((min a0.2.1.length 20:Nat):Int)by omega)]; rfl) a0.1 rfl _ (by show _<18446744073709551616; omega)
 unfold y5I;rw[h1 0,h1 a1];cases(leb 0 a1&&leb a1 1048575)<;>rfl
def yF4:Con:=⟨ypQ,yyY,fun x=>(fun n=>some ((n,()),())) (yg2 x.1 x.2.1)⟩
theorem yZB:ConOk prog 104 yF4:=(yVe).mono (fun x r hk h=>(yYv x.1 x.2.1 hk).trans h)
def yzN:Code:=(f33.body).getD .skip
def yJq:Env:=zkw TT [(104,yF4)] [(4096,(.pr (.ow .fz) (.pr (.ow (.pr .fz .fz)) (.pr .fz (.ow .fz))))),(33216,(.pr (.ow .fz) (.pr (.ow (.pr .fz .fz)) (.pr .fz (.ow .fz)))))]
theorem y00:FrOk prog ⟨yJq,33,fun _=>none⟩ yzN:=zkA mixed yd ⟨yZB,trivial⟩
def yLK:Nat→Option Seg:=fun _=>none
def yeR:Shape:=⟨[(0,false,[.br tM]),(1,false,[.br tI]),(5,false,[.at 800000000]),(6,false,[.int .i64])],[],[(800000000,tM,(.pr (.ow .fz) (.pr (.ow (.pr .fz .fz)) (.pr .fz (.ow .fz)))))]⟩
def ykx:Shape:=⟨[(0,false,[.br tM]),(1,false,[.br tI]),(5,false,[.at 800000000]),(6,false,[.ci .i64 0])],[],[(800000000,tM,(.pr (.ow .fz) (.pr (.ow (.pr .fz .fz)) (.pr .fz (.ow .fz)))))]⟩
def ykt:Shape:=⟨[(5,false,[.at 800000000])],[],[(800000000,tM,(.pr (.ow .fz) (.pr (.ow (.pr .fz .fz)) (.pr .fz (.ow .fz)))))]⟩
def yp6:Shape:=⟨[],[],[]⟩
abbrev ywp (v0:List dM) (v1:List Int) (v2:Int) (v3:List dM):(yeR).X:=(((v0,()),(v1,()),((),()),(v2,()),()),(),(v3,()))
abbrev yYe (v0:List dM) (v1:List Int) (v2:List dM):(ykx).X:=(((v0,()),(v1,()),((),()),((),()),()),(),(v2,()))
abbrev yIL (v0:List dM):(ykt).X:=((((),()),()),(),(v0,()))
def yxd (v0:List dM) (v1:List Int) (v2:Int) (v3:List dM):Option ((yeR).X ⊕ ((ykt).X ⊕ (yp6).X)) :=bif(ltb v2 (v0.length:Int))then bif(ltb v2 (v1.length:Int))then bif(inb v2 v1.length)then bif(inb v2 v0.length)then let r3:=yg2 ((nth v0 v2 ([],[],false,[])).1,((nth v0 v2 ([],[],false,[])).2).1,(((nth v0 v2 ([],[],false,[])).2).2)) (nth v1 v2 0);bif(zkl v3.length ([r3]:List dM).length 80)then some (.inl (((v0,()),(v1,()),((),()),((i64.wrap (v2+1)),()),()),(),((v3++([r3]:List dM)),()))) else none else none else none else bif(inb v2 v0.length)then let r4:=yg2 ((nth v0 v2 ([],[],false,[])).1,((nth v0 v2 ([],[],false,[])).2).1,(((nth v0 v2 ([],[],false,[])).2).2)) 0;bif(zkl v3.length ([r4]:List dM).length 80)then some (.inl (((v0,()),(v1,()),((),()),((i64.wrap (v2+1)),()),()),(),((v3++([r4]:List dM)),()))) else none else none else some (.inr (.inl ((((),()),()),(),(v3,()))))
def yfa (x:(yeR).X):=yxd x.1.1.1 x.1.2.1.1 x.1.2.2.2.1.1 x.2.2.1
def yIy (x:(ykx).X):(yeR).X:=(((x.1.1.1,()),(x.1.2.1.1,()),((),()),(0,()),()),(),(x.2.2.1,()))
def yJ2:Code:=(zd7 yzN 64 116).getD .skip
theorem y0Q:zd7 yzN 64 29=some (.block 0 (.loop yJ2)):=by kernel_rfl
theorem y2F (x:(yeR).X):zhu ⟨yJq,33,yLK⟩ 0 yJ2 116 yeR ykt yp6 x=yfa x:=by kernel_rfl
def yID (x:(ykx).X):Nat:=18446744073709551616
def yyx (x:(ykx).X):Option ((ykt).X ⊕ (yp6).X):=zF yfa (yID x) (yIy x)
def yJk:Seg:=⟨ykx,ykt,yp6,yyx⟩
def y3Q:Nat→Option Seg:=fun q=>bif Nat.beq q 29 then some yJk else yLK q
theorem y01:FrOk prog ⟨yJq,33,y3Q⟩ yzN:=(y00).loop (sg:=yJk) yeR yIy (by decide) y0Q yfa yID (by decide) (fun _=>rfl) (fun x r _ h=>h) y2F
abbrev yzQ:List Par:= [.rd tMs,.rd tL]
abbrev yJv:List OT:= [⟨false,tMs,(.ow (.pr (.ow .fz) (.pr (.ow (.pr .fz .fz)) (.pr .fz (.ow .fz)))))⟩]
def yCU (a0:List dM) (a1:List Int):Option (zaY yJv×zak yzQ) :=zkt (yyx (((a0,()),(a1,()),((),()),((),()),()),(),(([]:List dM),()))) (fun y4 =>some ((y4.2.2.1,()),())) (fun y4 =>none)
theorem y4L:ConOk prog 33 ⟨yzQ,yJv,fun x=>yCU x.1 x.2.1⟩:=zkI (y01) func33 ntmps33.symm fun x=>by kernel_rfl
def yjJ (a0:List dM) (a1:List Int):List dM:=ybc a0 a1
theorem y5S (a0:List dM) (a1:List Int) (hk:zjx yzQ (a0,a1,())):yCU a0 a1=(fun n=>some ((n,()),())) (yjJ a0 a1):=by
 have hb:a0.length*80≤2^47:=hk.1.1
 have h1:yyx (yYe a0 a1 [])=some (.inl (yIL ((List.range a0.length).foldl (fun s (i:Nat)=>s++ [yfQ (nth a0 i yc) (yGJ a1 i)]) []))) :=
  zkD (step:=yfa) a0.length (fun i s=>ywp a0 a1 i s) (fun s (i:Nat)=>s++ [yfQ (nth a0 i yc) (yGJ a1 i)]) (fun i s=>s.length=i) (fun s=> .inl (yIL s)) (fun i s hi hs=>⟨by
   simp only[yfa,ywp,yxd,zky (show(i:Int)<a0.length by omega),cond_true,wq ((i:Int)+1) (by omega) (by omega),Int.natCast_add,Int.natCast_one,Int.toNat_natCast,zkR hi,zkX,yg2,yGJ];rw[zkF.2 (show(s.length+ [yfQ (nth a0 i ([],[],false,[])) (nth a1 i 0)].length)*80≤140737488355328 by simp only[List.length_cons,List.length_nil]; omega),zkF.2 (show(s.length+ [yfQ (nth a0 i ([],[],false,[])) 0].length)*80≤140737488355328 by simp only[List.length_cons,List.length_nil]; omega)];by_cases h:i<a1.length
   ·rw[zky (show(i:Int)<a1.length by omega),zkR h,decide_eq_true h]; rfl
   ·rw[zk3 (show(a1.length:Int)≤i by omega),decide_eq_false h]; rfl,by simp[hs]⟩) (fun s hs=>by simp only[yfa,ywp,yxd,zk3 (Int.le_refl _),cond_false]) [] rfl _ (by show _<18446744073709551616; omega)
 unfold yCU yjJ ybc;rw[h1,ywc]; rfl
def yCF:Con:=⟨yzQ,yJv,fun x=>(fun n=>some ((n,()),())) (yjJ x.1 x.2.1)⟩
theorem yO0:ConOk prog 33 yCF:=(y4L).mono (fun x r hk h=>(y5S x.1 x.2.1 hk).trans h)
def y0d:Code:=(f20.body).getD .skip
def y0G:Env:=zkw TT [(17,yj7),(29,yvU),(33,yCF),(82,yq)] []
theorem yQA:FrOk prog ⟨y0G,29,fun _=>none⟩ y0d:=zkA mixed yd ⟨ytq,yKx,yO0,yy,trivial⟩
abbrev ypT:List Par:= [.rd tMs,.rd tL,.rd tI,.rd tI]
abbrev yy1:List OT:= [⟨false,tA,(.pr .fz (.pr (.pr .fz .fz) (.pr (.ow (.pr (.ow .fz) (.pr (.ow (.pr .fz .fz)) (.pr .fz (.ow .fz))))) (.pr .fz (.pr .fz (.pr .fz (.pr .fz (.pr .fz (.pr (.ow (.pr .fz .fz)) (.pr .fz (.pr .fz .fz)))))))))))⟩,⟨false,tB,.fz⟩]
def ytG (a0:List dM) (a1:List Int) (a2 a3:Int):Option (zaY yy1×zak ypT) :=let r1:=yjJ a0 a1;let r2:=ybb r1 a2;bif(!r2.2)then some ((r2.1,false,()),()) else let r3:=ya a3 (-1) 1000;bif r3 then let r4:=yem (r2.1.1,r2.1.2.1,r2.1.2.2.1,r2.1.2.2.2.1,r2.1.2.2.2.2.1,r2.1.2.2.2.2.2.1,r2.1.2.2.2.2.2.2.1,r2.1.2.2.2.2.2.2.2.1,r2.1.2.2.2.2.2.2.2.2.1,a3,r2.1.2.2.2.2.2.2.2.2.2.2);some ((r4,true,()),()) else let r5:=yem r2.1;some ((r5,true,()),())
theorem yVi:ConOk prog 20 ⟨ypT,yy1,fun x=>ytG x.1 x.2.1 x.2.2.1 x.2.2.2.1⟩:=zkI (yQA) func20 ntmps20.symm fun x=>by kernel_rfl
def ykS (a0:List dM) (a1:List Int) (a2 a3:Int):dA×Bool:=yzL a0 a1 a2 a3
theorem yYz (a0:List dM) (a1:List Int) (a2 a3:Int) (hk:zjx ypT (a0,a1,a2,a3,())):ytG a0 a1 a2 a3=(fun n=>some ((n.1,n.2,()),())) (ykS a0 a1 a2 a3):=by
 unfold ytG ykS yzL;simp only[yjJ,ybb,ybm,yem];cases h:(yca (ybc a0 a1) a2).2
 ·have:(yca (ybc a0 a1) a2).1=yK:=by
   unfold yca at h ⊢;cases hc:((yan (ybc a0 a1) a2).2&&(((ybc a0 a1).length:Int)==(yan (ybc a0 a1) a2).1.2.2.2.1&&yE (yJ0 (ybc a0 a1) a2)))
   ·rfl
   ·rw[hc]at h; cases h
  rw[this]; rfl
 ·cases(leb (-1) a3&&leb a3 1000)<;>rfl
def yF6:Con:=⟨ypT,yy1,fun x=>(fun n=>some ((n.1,n.2,()),())) (ykS x.1 x.2.1 x.2.2.1 x.2.2.2.1)⟩
theorem yZD:ConOk prog 20 yF6:=(yVi).mono (fun x r hk h=>(yYz x.1 x.2.1 x.2.2.1 x.2.2.2.1 hk).trans h)
def y3O:Code:=(f85.body).getD .skip
def y4m:Env:=zkw TT [(72,ym),(83,yji)] []
theorem yTT:FrOk prog ⟨y4m,16,fun _=>none⟩ y3O:=zkA mixed yd ⟨yv,yqj,trivial⟩
abbrev yBW:List Par:= [.pt tU .fz,.kp tA (.pr .fz (.pr (.pr .fz .fz) (.pr (.ow (.pr (.ow .fz) (.pr (.ow (.pr .fz .fz)) (.pr .fz (.ow .fz))))) (.pr .fz (.pr .fz (.pr .fz (.pr .fz (.pr .fz (.pr (.ow (.pr .fz .fz)) (.pr .fz (.pr .fz .fz)))))))))))]
abbrev yCy:List OT:= [⟨false,tA,(.pr .fz (.pr (.pr .fz .fz) (.pr (.ow (.pr (.ow .fz) (.pr (.ow (.pr .fz .fz)) (.pr .fz (.ow .fz))))) (.pr .fz (.pr .fz (.pr .fz (.pr .fz (.pr .fz (.pr (.ow (.pr .fz .fz)) (.pr .fz (.pr .fz .fz)))))))))))⟩]
def yfY (a0:dU) (a1:dA):Option (zaY yCy×zak yBW) :=bnd (yal a0 2) fun r1 =>bif r1.1.1 then bif(a1.2.2.2.2.2.2.2.2.2.1==(-1))then bnd (yb r1.2.1 14) fun r2 =>some (((a1.1,a1.2.1,a1.2.2.1,a1.2.2.2.1,a1.2.2.2.2.1,a1.2.2.2.2.2.1,a1.2.2.2.2.2.2.1,a1.2.2.2.2.2.2.2.1,a1.2.2.2.2.2.2.2.2.1,r2.1.1,a1.2.2.2.2.2.2.2.2.2.2),()),(r2.2.1,())) else some ((a1,()),(r1.2.1,())) else some ((a1,()),(r1.2.1,()))
theorem yZo:ConOk prog 85 ⟨yBW,yCy,fun x=>yfY x.1 x.2.1⟩:=zkI (yTT) func85 ntmps85.symm fun x=>by kernel_rfl
def yv1:Con:=⟨yBW,yCy,fun x=>yfY x.1 x.2.1⟩
theorem yKE:ConOk prog 85 yv1:=yZo
theorem y6C (u:dU) (a:dA) (h:yA u) (ha:yfO a): ∃(a':dA) (u':dU),yfY u a=some ((a',()),(u',()))∧yfO a'∧yA u':=by
 unfold yfY;obtain⟨r,u1,e1,d1⟩:=yKc u 2 h;simp only[e1,zkH];cases r
 ·exact⟨_,_,rfl,ha,d1⟩
 ·cases(a.2.2.2.2.2.2.2.2.2.1== -1)
  ·exact⟨_,_,rfl,ha,d1⟩
  ·obtain⟨x,u2,e2,_,d2⟩:=yo u1 14 d1
   simp only[cond_true,e2,zkH];exact⟨_,_,rfl,ha,d2⟩
def y5c:Code:=(f155.body).getD .skip
def y5r:Env:=zkw TT [(72,ym),(80,yae),(196,yzg)] []
theorem yXR:FrOk prog ⟨y5r,21,fun _=>none⟩ y5c:=zkA mixed yd ⟨yv,yaR,yLV,trivial⟩
abbrev yFf:List Par:= [.pt tU .fz]
abbrev yFB:List OT:= [⟨false,tG,(.pr .fz .fz)⟩]
def yk8 (a0:dU):Option (zaY yFB×zak yFf) :=bnd (yg8 a0) fun r1 =>bnd (yb r1.2.1 8) fun r2 =>bif(r2.1.1==0)then bnd (yp r2.2.1 ([0,2,6,(-1)]:List Int)) fun r3 =>some (((r3.1.1,r1.1.1.2),()),(r3.2.1,())) else bif(r2.1.1==1)then bnd (yp r2.2.1 ([0,9,(-1)]:List Int)) fun r4 =>some (((r1.1.1.1,r4.1.1),()),(r4.2.1,())) else some ((r1.1.1,()),(r2.2.1,()))
theorem y16:ConOk prog 155 ⟨yFf,yFB,fun x=>yk8 x.1⟩:=zkI (yXR) func155 ntmps155.symm fun x=>by kernel_rfl
def yJ7:Con:=⟨yFf,yFB,fun x=>yk8 x.1⟩
theorem y4R:ConOk prog 155 yJ7:=y16
def GS (g:dG):Prop:=(-1000≤g.1∧g.1≤1000)∧ -1000≤g.2∧g.2≤1000
theorem y8b {g:dG} (h:yf g=true):GS g:=by
 have:=yk.1 h;unfold GS;omega
theorem y7n (u:dU) (h:yA u): ∃(g:dG) (u':dU),yk8 u=some ((g,()),(u',()))∧GS g∧yA u':=by
 unfold yk8;obtain⟨g,u1,e1,q1,d1⟩:=y7l u h;obtain⟨r,u2,e2,_,d2⟩:=yo u1 8 d1;have hq:=y8b q1;simp only[e1,e2,zkH];cases(r==0)
 ·cases(r==1)
  ·exact⟨_,_,rfl,hq,d2⟩
  ·obtain⟨r3,u3,e3,q3,d3⟩:=yeJ u2 [0,9,(-1)] d2 (by simp)
   simp only[cond_true,cond_false,e3,zkH];simp only[List.mem_cons,List.not_mem_nil,or_false]at q3;exact⟨_,_,rfl,⟨hq.1,by show -1000≤r3∧r3≤1000; omega⟩,d3⟩
 ·obtain⟨r3,u3,e3,q3,d3⟩:=yeJ u2 [0,2,6,(-1)] d2 (by simp)
  simp only[cond_true,e3,zkH];simp only[List.mem_cons,List.not_mem_nil,or_false]at q3;exact⟨_,_,rfl,⟨by show -1000≤r3∧r3≤1000; omega,hq.2⟩,d3⟩
def y5e:Code:=(f86.body).getD .skip
def y5t:Env:=zkw TT [(72,ym),(80,yae),(113,ydN),(124,yvY),(146,yze),(153,yzd),(154,yqa),(155,yJ7)] [(61952,(.pr .fz .fz))]
theorem yXT:FrOk prog ⟨y5t,92,fun _=>none⟩ y5e:=zkA mixed yd ⟨yv,yaR,yg6,yKB,yLT,yLS,yCO,y4R,trivial⟩
abbrev yFh:List Par:= [.pt tU .fz,.rd tI]
abbrev yFD:List OT:= [⟨false,tA,(.pr .fz (.pr (.pr .fz .fz) (.pr (.ow (.pr (.ow .fz) (.pr (.ow (.pr .fz .fz)) (.pr .fz (.ow .fz))))) (.pr .fz (.pr .fz (.pr .fz (.pr .fz (.pr .fz (.pr (.ow (.pr .fz .fz)) (.pr .fz (.pr .fz .fz)))))))))))⟩]
def yde (a0:dU) (a1:Int):Option (zaY yFD×zak yFh) :=bnd (ydY a0 a1) fun r1 =>bnd (yb r1.2.1 (r1.1.1.2.2.1.length:Int)) fun r2 =>bnd (yb r2.2.1 20) fun r3 =>bif(r3.1.1==0)then bnd (yg7 r3.2.1) fun r4 =>bif(inb r2.1.1 r1.1.1.2.2.1.length)then some (((r1.1.1.1,r1.1.1.2.1,(r1.1.1.2.2.1.set (r2.1.1).toNat r4.1.1),r1.1.1.2.2.2),()),(r4.2.1,())) else none else bif(r3.1.1==1)then bnd (yp r3.2.1 ([(-2),(-1),0,5]:List Int)) fun r5 =>some (((r1.1.1.1,r1.1.1.2.1,r1.1.1.2.2.1,r5.1.1,r1.1.1.2.2.2.2),()),(r5.2.1,())) else bif(r3.1.1==2)then bnd (yp r3.2.1 ([(-1),1,9]:List Int)) fun r6 =>some (((r1.1.1.1,r1.1.1.2.1,r1.1.1.2.2.1,r1.1.1.2.2.2.1,r6.1.1,r1.1.1.2.2.2.2.2),()),(r6.2.1,())) else bif(r3.1.1==3)then bnd (yp r3.2.1 ([(-1),0,9,60000]:List Int)) fun r7 =>some (((r1.1.1.1,r1.1.1.2.1,r1.1.1.2.2.1,r1.1.1.2.2.2.1,r1.1.1.2.2.2.2.1,r7.1.1,r1.1.1.2.2.2.2.2.2),()),(r7.2.1,())) else bif(r3.1.1==4)then bnd (yp r3.2.1 ([(-1),60000,59990,60001]:List Int)) fun r8 =>some (((r1.1.1.1,r1.1.1.2.1,r1.1.1.2.2.1,r1.1.1.2.2.2.1,r1.1.1.2.2.2.2.1,r1.1.1.2.2.2.2.2.1,r1.1.1.2.2.2.2.2.2.1,r8.1.1,r1.1.1.2.2.2.2.2.2.2.2),()),(r8.2.1,())) else bif(r3.1.1==5)then bnd (yb r3.2.1 5) fun r9 =>bnd (ye5 r9.2.1) fun r10 =>bif(zkl r1.1.1.2.2.2.2.2.2.2.2.1.length ([((i64.wrap (r9.1.1-1)),r10.1.1)]:List dW).length 32)then some (((r1.1.1.1,r1.1.1.2.1,r1.1.1.2.2.1,r1.1.1.2.2.2.1,r1.1.1.2.2.2.2.1,r1.1.1.2.2.2.2.2.1,r1.1.1.2.2.2.2.2.2.1,r1.1.1.2.2.2.2.2.2.2.1,(r1.1.1.2.2.2.2.2.2.2.2.1++([((i64.wrap (r9.1.1-1)),r10.1.1)]:List dW)),r1.1.1.2.2.2.2.2.2.2.2.2),()),(r10.2.1,())) else none else bif(r3.1.1==6)then some (((r1.1.1.1,r1.1.1.2.1,r1.1.1.2.2.1,r1.1.1.2.2.2.1,r1.1.1.2.2.2.2.1,r1.1.1.2.2.2.2.2.1,r1.1.1.2.2.2.2.2.2.1,r1.1.1.2.2.2.2.2.2.2.1,r1.1.1.2.2.2.2.2.2.2.2.1,r1.1.1.2.2.2.2.2.2.2.2.2.1,r1.1.1.2.2.2.2.2.2.2.2.2.2.1,true),()),(r3.2.1,())) else bif(r3.1.1==7)then bnd (yp r3.2.1 ([(-2),0,1,2,5,1001]:List Int)) fun r11 =>some (((r1.1.1.1,r1.1.1.2.1,r1.1.1.2.2.1,r1.1.1.2.2.2.1,r1.1.1.2.2.2.2.1,r1.1.1.2.2.2.2.2.1,r1.1.1.2.2.2.2.2.2.1,r1.1.1.2.2.2.2.2.2.2.1,r1.1.1.2.2.2.2.2.2.2.2.1,r11.1.1,r1.1.1.2.2.2.2.2.2.2.2.2.2),()),(r11.2.1,())) else bif(r3.1.1==8)then some (((r1.1.1.1,r1.1.1.2.1,r1.1.1.2.2.1,r1.1.1.2.2.2.1,r1.1.1.2.2.2.2.1,r1.1.1.2.2.2.2.2.1,r1.1.1.2.2.2.2.2.2.1,r1.1.1.2.2.2.2.2.2.2.1,r1.1.1.2.2.2.2.2.2.2.2.1,r1.1.1.2.2.2.2.2.2.2.2.2.1,true,r1.1.1.2.2.2.2.2.2.2.2.2.2.2),()),(r3.2.1,())) else bif(r3.1.1==9)then bif(inb r2.1.1 r1.1.1.2.2.1.length)then let r12:=yaO 0;bnd (ye6 r3.2.1) fun r13 =>bif(inb r12 ((nth r1.1.1.2.2.1 r2.1.1 ([],[],false,[])).1).length)then let r14:=(r1.1.1.2.2.1.set (r2.1.1).toNat ((((nth r1.1.1.2.2.1 r2.1.1 ([],[],false,[])).1).set (r12).toNat r13.1.1),((nth r1.1.1.2.2.1 r2.1.1 ([],[],false,[])).2).1,(((nth r1.1.1.2.2.1 r2.1.1 ([],[],false,[])).2).2).1,(((nth r1.1.1.2.2.1 r2.1.1 ([],[],false,[])).2).2).2));some (((r1.1.1.1,r1.1.1.2.1,r14,r1.1.1.2.2.2),()),(r13.2.1,())) else none else none else bif(r3.1.1==10)then bnd (yk8 r3.2.1) fun r15 =>some (((r1.1.1.1,r15.1.1,r1.1.1.2.2),()),(r15.2.1,())) else some ((r1.1.1,()),(r3.2.1,()))
theorem y2a:ConOk prog 86 ⟨yFh,yFD,fun x=>yde x.1 x.2.1⟩:=zkI (yXT) func86 ntmps86.symm fun x=>by kernel_rfl
def yqb:Con:=⟨yFh,yFD,fun x=>yde x.1 x.2.1⟩
theorem yCP:ConOk prog 86 yqb:=y2a
theorem y2V (u:dU) (most:Int) (h:yA u) (h0:0≤most) (h1:most≤1000): ∃(a:dA) (u':dU),yde u most=some ((a,()),(u',()))∧yfO a∧GS a.2.1∧yA u':=by
 unfold yde;obtain⟨a,u1,e1,q1,d1⟩:=y2W u most h h0 h1;have hg:=yk.1 q1.1.1;have hG:GS a.2.1:=y8b q1.1.1;have hl:=q1.2.1.1.2;have hd:=yoK q1.1.2.2.1 q1.1.1;have hA:yfO a:=y5N (yUw (y7C q1)) (by omega);have hL: ∀b:dA,b.2.2.1=a.2.2.1→b.2.2.2.2.2.2.2.2.1=a.2.2.2.2.2.2.2.2.1→yfO b:=fun b e1 e2=>by unfold yfO; rw[e1,e2]; exact hA
 have hS: ∀(m:dM) (k:Nat),m.1.length≤1000000000→m.2.1.length≤1000000000→yfO (a.1,a.2.1,a.2.2.1.set k m,a.2.2.2):=fun m k g1 g2=>⟨by show(a.2.2.1.set k m).length≤_; rw[List.length_set]; exact hA.1,fun x hx=>by
  rcases List.mem_or_eq_of_mem_set hx with h1 | rfl
  ·exact hA.2.1 x h1
  ·exact⟨g1,g2⟩,hA.2.2⟩
 obtain⟨m,u2,e2,q2,d2⟩:=yo u1 (a.2.2.1.length:Int) d1;obtain⟨r,u3,e3,_,d3⟩:=yo u2 20 d2;have hm:inb m a.2.2.1.length=true:=zj6.2 ⟨q2.1,q2.2.1 (by omega)⟩;simp only[e1,e2,e3,zkH,hm];cases(r==0)
 ·cases(r==1)
  ·cases(r==2)
   ·cases(r==3)
    ·cases(r==4)
     ·cases(r==5)
      ·cases(r==6)
       ·cases(r==7)
        ·cases(r==8)
         ·cases(r==9)
          ·cases(r==10)
           ·exact⟨_,_,rfl,hL _ rfl rfl,hG,d3⟩
           ·obtain⟨g,u4,e4,hG4,d4⟩:=y7n u3 d3
            simp only[cond_true,cond_false,e4,zkH];exact⟨_,_,rfl,hL _ rfl rfl,hG4,d4⟩
          ·obtain⟨l,u4,e4,_,d4⟩:=yS0 u3 d3
           have hmi:=zj6.1 hm;have hs:=(q1.2.1.1.1 m.toNat (by omega)).2.1;rw[Int.toNat_of_nonneg hmi.1]at hs;simp only[cond_true,cond_false,e4,zkH,ye8];rw[show ycA 0=6 from rfl,zj6.2 (show(0:Int)≤6∧(6:Int)<((nth a.2.2.1 m yc).1.length:Int)by omega)];have hnm:=ye1 (P:=fun x:dM=>x.1.length≤1000000000∧x.2.1.length≤1000000000) (d:=yc) hm hA.2.1;exact⟨_,_,rfl,hS _ _ (by show((nth a.2.2.1 m yc).1.set _ _).length≤_; rw[List.length_set]; exact hnm.1) hnm.2,hG,d4⟩
         ·exact⟨_,_,rfl,hL _ rfl rfl,hG,d3⟩
        ·obtain⟨x,u4,e4,_,d4⟩:=yeJ u3 [(-2),0,1,2,5,1001] d3 (by simp)
         simp only[cond_true,cond_false,e4,zkH];exact⟨_,_,rfl,hL _ rfl rfl,hG,d4⟩
       ·exact⟨_,_,rfl,hL _ rfl rfl,hG,d3⟩
      ·obtain⟨x,u4,e4,_,d4⟩:=yo u3 5 d3
       obtain⟨l,u5,e5,_,d5⟩:=ySZ u4 d4;simp only[cond_true,cond_false,e4,zkH,e5];rw[zkF.2 (show(a.2.2.2.2.2.2.2.2.1.length+ [(i64.wrap (x-1),l)].length)*32≤140737488355328 by simp only[List.length_cons,List.length_nil]; omega)];exact⟨_,_,rfl,⟨hA.1,hA.2.1,by show(a.2.2.2.2.2.2.2.2.1++ [(i64.wrap (x-1),l)]).length≤1000000000; rw[List.length_append]; simp only[List.length_cons,List.length_nil]; omega⟩,hG,d5⟩
     ·obtain⟨x,u4,e4,_,d4⟩:=yeJ u3 [(-1),60000,59990,60001] d3 (by simp)
      simp only[cond_true,cond_false,e4,zkH];exact⟨_,_,rfl,hL _ rfl rfl,hG,d4⟩
    ·obtain⟨x,u4,e4,_,d4⟩:=yeJ u3 [(-1),0,9,60000] d3 (by simp)
     simp only[cond_true,cond_false,e4,zkH];exact⟨_,_,rfl,hL _ rfl rfl,hG,d4⟩
   ·obtain⟨x,u4,e4,_,d4⟩:=yeJ u3 [(-1),1,9] d3 (by simp)
    simp only[cond_true,cond_false,e4,zkH];exact⟨_,_,rfl,hL _ rfl rfl,hG,d4⟩
  ·obtain⟨x,u4,e4,_,d4⟩:=yeJ u3 [(-2),(-1),0,5] d3 (by simp)
   simp only[cond_true,cond_false,e4,zkH];exact⟨_,_,rfl,hL _ rfl rfl,hG,d4⟩
 ·obtain⟨x,u4,e4,q4,d4⟩:=y5F u3 d3
  simp only[cond_true,e4,zkH];exact⟨_,_,rfl,hS _ _ (by omega) (by omega),hG,d4⟩
theorem y5G (u:dU) (most:Int) (h:yA u) (h0:0≤most) (h1:most≤1000): ∃(a:dA) (u':dU),yde u most=some ((a,()),(u',()))∧yfO a∧yA u':=by
 obtain⟨a,u',e,q,_,d⟩:=y2V u most h h0 h1;exact⟨a,u',e,q,d⟩
def yWg:Code:=(f84.body).getD .skip
def yWN:Env:=zkw TT [(69,yc7),(71,ycc),(85,yv1),(86,yqb)] []
theorem yNW:FrOk prog ⟨yWN,14,fun _=>none⟩ yWg:=zkA mixed yd ⟨yf7,ye3,yKE,yCP,trivial⟩
abbrev yu5:List Par:= [.kp tYs .fz]
abbrev yvt:List OT:= [⟨false,tA,(.pr .fz (.pr (.pr .fz .fz) (.pr (.ow (.pr (.ow .fz) (.pr (.ow (.pr .fz .fz)) (.pr .fz (.ow .fz))))) (.pr .fz (.pr .fz (.pr .fz (.pr .fz (.pr .fz (.pr (.ow (.pr .fz .fz)) (.pr .fz (.pr .fz .fz)))))))))))⟩]
def ygQ (a0:List Int):Option (zaY yvt×zak yu5) :=let r1:=yaP a0;let r2:=yas a0 12;bnd (yde r1 r2) fun r3 =>bnd (yfY r3.2.1 r3.1.1) fun r4 =>some ((r4.1.1,()),())
theorem yRB:ConOk prog 84 ⟨yu5,yvt,fun x=>ygQ x.1⟩:=zkI (yNW) func84 ntmps84.symm fun x=>by kernel_rfl
def yDA:Con:=⟨yu5,yvt,fun x=>ygQ x.1⟩
theorem yVE:ConOk prog 84 yDA:=yRB
theorem y6i (a0:List Int) (hb:a0.length≤140737488355328): ∃a:dA,ygQ a0=some ((a,()),())∧yfO a:=by
 unfold ygQ;obtain⟨h1,h2⟩:=yzj a0 12 (by omega) hb;obtain⟨a,u1,e1,q1,d1⟩:=y5G _ _ (yGc a0 hb) h1 (by omega);obtain⟨a',u2,e2,q2,d2⟩:=y6C u1 a d1 q1;simp only[e1,e2,zkH];exact⟨a',rfl,q2⟩
def yPv:Code:=(f21.body).getD .skip
def yPL:Env:=zkw TT [(17,yj7),(69,yc7),(70,yob),(71,ycc),(83,yji),(84,yDA),(85,yv1)] []
theorem yK7:FrOk prog ⟨yPL,23,fun _=>none⟩ yPv:=zkA mixed yd ⟨ytq,yf7,yzs,ye3,yqj,yVE,yKE,trivial⟩
abbrev yqJ:List Par:= [.kp tYs .fz]
abbrev yqN:List OT:= [⟨false,tA,(.pr .fz (.pr (.pr .fz .fz) (.pr (.ow (.pr (.ow .fz) (.pr (.ow (.pr .fz .fz)) (.pr .fz (.ow .fz))))) (.pr .fz (.pr .fz (.pr .fz (.pr .fz (.pr .fz (.pr (.ow (.pr .fz .fz)) (.pr .fz (.pr .fz .fz)))))))))))⟩]
def yeL (a0:List Int):Option (zaY yqN×zak yqJ) :=let r1:=yaP a0;bnd (yal r1 8) fun r2 =>bif r2.1.1 then bnd (ygQ a0) fun r3 =>some ((r3.1.1,()),()) else let r4:=yas a0 12;bnd (ydZ r2.2.1 r4) fun r5 =>let r6:=ybb r5.1.1 1;bnd (yfY r5.2.1 r6.1) fun r7 =>some ((r7.1.1,()),())
theorem yML:ConOk prog 21 ⟨yqJ,yqN,fun x=>yeL x.1⟩:=zkI (yK7) func21 ntmps21.symm fun x=>by kernel_rfl
def yxu:Con:=⟨yqJ,yqN,fun x=>yeL x.1⟩
theorem yOZ:ConOk prog 21 yxu:=yML
theorem y4n (a0:List Int) (hb:a0.length≤140737488355328): ∃a:dA,yeL a0=some ((a,()),())∧yfO a:=by
 unfold yeL;obtain⟨h1,h2⟩:=yzj a0 12 (by omega) hb;obtain⟨r,u1,e1,d1⟩:=yKc _ 8 (yGc a0 hb);obtain⟨b,e2,q2⟩:=y6i a0 hb;simp only[e1,zkH];cases r
 ·obtain⟨l,u2,e3,q3,d3⟩:=yNs u1 _ d1 h1 (by omega)
  obtain⟨a',u3,e4,q4,d4⟩:=y6C u2 (yca l 1).1 d3 (y1a 1 q3);simp only[cond_false,e3,zkH,ybb,e4];exact⟨a',rfl,q4⟩
 ·simp only[cond_true,e2,zkH]
  exact⟨b,rfl,q2⟩
def yM2:Code:=(f22.body).getD .skip
def yNa:Env:=zkw TT [(69,yc7),(71,ycc),(80,yae),(86,yqb)] []
theorem yKg:FrOk prog ⟨yNa,14,fun _=>none⟩ yM2:=zkA mixed yd ⟨yf7,ye3,yaR,yCP,trivial⟩
abbrev yow:List Par:= [.kp tYs .fz]
abbrev yoE:List OT:= [⟨false,tA,(.pr .fz (.pr (.pr .fz .fz) (.pr (.ow (.pr (.ow .fz) (.pr (.ow (.pr .fz .fz)) (.pr .fz (.ow .fz))))) (.pr .fz (.pr .fz (.pr .fz (.pr .fz (.pr .fz (.pr (.ow (.pr .fz .fz)) (.pr .fz (.pr .fz .fz)))))))))))⟩,⟨false,tI,.fz⟩]
def ydW (a0:List Int):Option (zaY yoE×zak yow) :=let r1:=yaP a0;let r2:=yas a0 12;bnd (yde r1 r2) fun r3 =>bnd (yp r3.2.1 ([0,1,2,3,5,(-1)]:List Int)) fun r4 =>some ((r3.1.1,r4.1.1,()),())
theorem yLu:ConOk prog 22 ⟨yow,yoE,fun x=>ydW x.1⟩:=zkI (yKg) func22 ntmps22.symm fun x=>by kernel_rfl
def yvQ:Con:=⟨yow,yoE,fun x=>ydW x.1⟩
theorem yMP:ConOk prog 22 yvQ:=yLu
theorem y0V (a0:List Int) (hb:a0.length≤140737488355328): ∃(a:dA) (q:Int),ydW a0=some ((a,q,()),())∧GS a.2.1:=by
 unfold ydW;obtain⟨h1,h2⟩:=yzj a0 12 (by omega) hb;obtain⟨a,u1,e1,_,q1,d1⟩:=y2V _ _ (yGc a0 hb) h1 (by omega);obtain⟨x,u2,e2,_,d2⟩:=yeJ u1 [0,1,2,3,5,(-1)] d1 (by simp);simp only[e1,e2,zkH];exact⟨a,x,rfl,q1⟩
def yWf:Code:=(f25.body).getD .skip
def yWM:Env:=zkw TT [(69,yc7),(71,ycc),(79,ys7),(80,yae),(93,yqY)] []
theorem yNV:FrOk prog ⟨yWM,20,fun _=>none⟩ yWf:=zkA mixed yd ⟨yf7,ye3,yIW,yaR,yG7,trivial⟩
abbrev yu4:List Par:= [.kp tYs .fz]
abbrev yvs:List OT:= [⟨false,tMs,(.ow (.pr (.ow .fz) (.pr (.ow (.pr .fz .fz)) (.pr .fz (.ow .fz)))))⟩,⟨false,tL,(.ow .fz)⟩]
def ygP (a0:List Int):Option (zaY yvs×zak yu4) :=let r1:=yaP a0;bnd (ye7 r1) fun r2 =>let r3:=yas a0 12;bnd (yd4 r2.2.1 r3) fun r4 =>bnd (yp r4.2.1 ([5,5,2,0]:List Int)) fun r5 =>bif(zj0 0 r5.1.1 r2.1.1.length)then some ((r4.1.1.2.2.1,((r2.1.1.drop (0:Int).toNat).take (r5.1.1-0).toNat),()),()) else none
theorem yRA:ConOk prog 25 ⟨yu4,yvs,fun x=>ygP x.1⟩:=zkI (yNV) func25 ntmps25.symm fun x=>by kernel_rfl
def yDz:Con:=⟨yu4,yvs,fun x=>ygP x.1⟩
theorem yVD:ConOk prog 25 yDz:=yRA
theorem y6h (a0:List Int) (hb:a0.length≤140737488355328): ∃(l:List dM) (ks:List Int),ygP a0=some ((l,ks,()),())∧l.length≤5∧yap l:=by
 unfold ygP;obtain⟨h1,h2⟩:=yzj a0 12 (by omega) hb;obtain⟨ks,u1,e1,q1,d1⟩:=yXj _ (yGc a0 hb);obtain⟨a,u2,e2,q2,_,d2⟩:=ySh u1 _ d1 h1 (by omega);obtain⟨x,u3,e3,q3,d3⟩:=yeJ u2 [5,5,2,0] d2 (by simp);simp only[List.mem_cons,List.not_mem_nil,or_false]at q3;simp only[e1,e2,e3,zkH];rw[zkz.2 (show(0:Int)≤0∧0≤x∧x≤(ks.length:Int)by omega)];exact⟨_,_,rfl,q2.1.1,q2.1.2.1⟩
def yL0:Code:=(f26.body).getD .skip
def yL3:Env:=zkw TT [(69,yc7),(71,ycc),(86,yqb)] []
theorem yJA:FrOk prog ⟨yL3,10,fun _=>none⟩ yL0:=zkA mixed yd ⟨yf7,ye3,yCP,trivial⟩
abbrev ymS:List Par:= [.kp tYs .fz]
abbrev ymU:List OT:= [⟨false,tA,(.pr .fz (.pr (.pr .fz .fz) (.pr (.ow (.pr (.ow .fz) (.pr (.ow (.pr .fz .fz)) (.pr .fz (.ow .fz))))) (.pr .fz (.pr .fz (.pr .fz (.pr .fz (.pr .fz (.pr (.ow (.pr .fz .fz)) (.pr .fz (.pr .fz .fz)))))))))))⟩]
def ydd (a0:List Int):Option (zaY ymU×zak ymS) :=let r1:=yaP a0;let r2:=yas a0 8;bnd (yde r1 r2) fun r3 =>some ((r3.1.1,()),())
theorem yKr:ConOk prog 26 ⟨ymS,ymU,fun x=>ydd x.1⟩:=zkI (yJA) func26 ntmps26.symm fun x=>by kernel_rfl
def yt7:Con:=⟨ymS,ymU,fun x=>ydd x.1⟩
theorem yLy:ConOk prog 26 yt7:=yKr
theorem yXi (a0:List Int) (hb:a0.length≤140737488355328): ∃a:dA,ydd a0=some ((a,()),())∧yfO a:=by
 unfold ydd;obtain⟨h1,h2⟩:=yzj a0 8 (by omega) hb;obtain⟨a,u1,e1,q1,d1⟩:=y5G _ _ (yGc a0 hb) h1 (by omega);simp only[e1,zkH];exact⟨a,rfl,q1⟩
def ynn:Code:=(f49.body).getD .skip
def yuB:Env:=zkw TT [] []
theorem yNP:FrOk prog ⟨yuB,26,fun _=>none⟩ ynn:=zkA mixed yd trivial
def yC3:Nat→Option Seg:=fun _=>none
def yc1:Shape:=⟨[(0,false,[.br tI]),(1,false,[.br tI]),(5,false,[.int .i64])],[],[]⟩
def yiO:Shape:=⟨[(0,false,[.br tI]),(1,false,[.br tI]),(5,false,[.ci .i64 0])],[],[]⟩
def yiz:Shape:=⟨[],[],[]⟩
def yi6:Shape:=⟨[(4,false,[.bool])],[],[]⟩
def ynf (v0 v1:List Int) (v2:Int):Option ((yc1).X ⊕ ((yiz).X ⊕ (yi6).X)) :=bif(ltb v2 (v0.length:Int))then bif(inb v2 v0.length)then bif(inb v2 v1.length)then bif((nth v0 v2 0) !=(nth v1 v2 0))then some (.inr (.inr (((false,()),()),(),()))) else some (.inl (((v0,()),(v1,()),((i64.wrap (v2+1)),()),()),(),())) else none else none else some (.inr (.inl ((),(),())))
def ybQ (x:(yc1).X):=ynf x.1.1.1 x.1.2.1.1 x.1.2.2.1.1
def yxC (x:(yiO).X):(yc1).X:=(((x.1.1.1,()),(x.1.2.1.1,()),(0,()),()),(),())
def yAa:Code:=(zd7 ynn 64 116).getD .skip
theorem yNi:zd7 ynn 64 29=some (.block 0 (.loop yAa)):=by kernel_rfl
theorem yPb (x:(yc1).X):zhu ⟨yuB,26,yC3⟩ 0 yAa 116 yc1 yiz yi6 x=ybQ x:=by kernel_rfl
def yxO (x:(yiO).X):Nat:=18446744073709551616
def yor (x:(yiO).X):Option ((yiz).X ⊕ (yi6).X):=zF ybQ (yxO x) (yxC x)
def yx9:Seg:=⟨yiO,yiz,yi6,yor⟩
def yPC:Nat→Option Seg:=fun q=>bif Nat.beq q 29 then some yx9 else yC3 q
theorem yNQ:FrOk prog ⟨yuB,26,yPC⟩ ynn:=(yNP).loop (sg:=yx9) yc1 yxC (by decide) yNi ybQ yxO (by decide) (fun _=>rfl) (fun x r _ h=>h) yPb
abbrev ynE:List Par:= [.rd tL,.rd tL]
abbrev yvp:List OT:= [⟨false,tB,.fz⟩]
def yrp (a0 a1:List Int):Option (zaY yvp×zak ynE) :=bif((a0.length:Int) !=(a1.length:Int))then some ((false,()),()) else zkt (yor (((a0,()),(a1,()),((),()),()),(),())) (fun y0 =>some ((true,()),())) (fun y0 =>some ((y0.1.1.1,()),()))
theorem yRx:ConOk prog 49 ⟨ynE,yvp,fun x=>yrp x.1 x.2.1⟩:=zkI (yNQ) func49 ntmps49.symm fun x=>by kernel_rfl
def yak (a0 a1:List Int):Bool:=decide (a0=a1)
theorem yUL (a0 a1:List Int) (hk:zjx ynE (a0,a1,())):yrp a0 a1=(fun n=>some ((n,()),())) (yak a0 a1):=by
 have hb:a0.length*8≤2^47:=hk.1.1
 have hl:a0.length=a1.length→yor (((a0,()),(a1,()),((),()),()),(),())=some (bif(List.range a0.length).any (fun i=>a0.getD i 0 !=a1.getD i 0)then .inr (((false,()),()),(),())else .inl ((),(),())):=fun hL =>
  zji (step:=ybQ) (fun i=>(((a0,()),(a1,()),((i:Int),()),()),(),())) a0.length (fun i=>a0.getD i 0 !=a1.getD i 0) _ _ (fun i hi=>by
   simp only[ybQ,ynf,zkR hi,zkR (hL ▸ hi),zkS,zky (show(i:Int)<a0.length by omega),cond_true,wq ((i:Int)+1) (by omega) (by omega),Int.natCast_add,Int.natCast_one]
   cases(a0.getD i 0 !=a1.getD i 0)<;>rfl) (by simp only[ybQ,ynf,zk3 (Int.le_refl _),cond_false]) _ (by show _<18446744073709551616; omega)
 unfold yrp yak;by_cases h:a0.length=a1.length
 ·rw[show((a0.length:Int) !=(a1.length:Int))=false by simp[h],zkZ,hl h]
  by_cases e:a0=a1
  ·subst e
   have:(List.range a0.length).any (fun i=>a0.getD i 0 !=a0.getD i 0)=false:=by simp
   rw[this,decide_eq_true rfl];rfl
  ·have:(List.range a0.length).any (fun i=>a0.getD i 0 !=a1.getD i 0)=true:=by
    rcases Bool.eq_false_or_eq_true ((List.range a0.length).any (fun i=>a0.getD i 0 !=a1.getD i 0))with h2 | h2
    ·exact h2
    ·refine absurd (List.ext_getElem h fun i h3 h4=> ?_) e
     rw[List.any_eq_false]at h2;have:=h2 i (List.mem_range.2 h3);simpa [h3,h4]using this
   rw[this,decide_eq_false e];rfl
 ·rw[show((a0.length:Int) !=(a1.length:Int))=true from bne_iff_ne.2 (by omega),zk0,decide_eq_false (fun e=>h (congrArg _ e))]
theorem ymE (a:List Int):yak a a=true:=by unfold yak; simp
def yj6:Con:=⟨ynE,yvp,fun x=>(fun n=>some ((n,()),())) (yak x.1 x.2.1)⟩
theorem ytp:ConOk prog 49 yj6:=(yRx).mono (fun x r hk h=>(yUL x.1 x.2.1 hk).trans h)
def yeP:Code:=(f102.body).getD .skip
def ykf:Env:=zkw TT [(49,yj6)] []
theorem yQo:FrOk prog ⟨ykf,93,fun _=>none⟩ yeP:=zkA mixed yd ⟨ytp,trivial⟩
def yEM:Nat→Option Seg:=fun _=>none
def yb1:Shape:=⟨[(2,false,[.ptr 0 0]),(3,false,[.ptr 64 0]),(5,false,[.int .i64])],[(0,[.br tL,.br tW,.bool,.br tI]),(64,[.br tL,.br tW,.bool,.br tI])],[]⟩
def ygw:Shape:=⟨[(2,false,[.ptr 0 0]),(3,false,[.ptr 64 0]),(5,false,[.ci .i64 0])],[(0,[.br tL,.br tW,.bool,.br tI]),(64,[.br tL,.br tW,.bool,.br tI])],[]⟩
def ygh:Shape:=⟨[(2,false,[.ptr 0 0]),(3,false,[.ptr 64 0])],[(0,[.br tL,.br tW,.bool,.br tI]),(64,[.br tL,.br tW,.bool,.br tI])],[]⟩
def yjZ:Shape:=⟨[(4,false,[.bool])],[],[]⟩
abbrev yoT (v0:Int) (v1 v2:dM):(yb1).X:=((((),()),((),()),(v0,()),()),((v1.1,v1.2.1,v1.2.2.1,v1.2.2.2,()),(v2.1,v2.2.1,v2.2.2.1,v2.2.2.2,()),()),())
abbrev yOu (v0 v1:dM):(ygw).X:=((((),()),((),()),((),()),()),((v0.1,v0.2.1,v0.2.2.1,v0.2.2.2,()),(v1.1,v1.2.1,v1.2.2.1,v1.2.2.2,()),()),())
abbrev yA1 (v0 v1:dM):(ygh).X:=((((),()),((),()),()),((v0.1,v0.2.1,v0.2.2.1,v0.2.2.2,()),(v1.1,v1.2.1,v1.2.2.1,v1.2.2.2,()),()),())
def ypn (v0:Int) (v1:List (List Int)) (v2:List dW) (v3:Bool) (v4:List Int) (v5:List (List Int)) (v6:List dW) (v7:Bool) (v8:List Int):Option ((yb1).X ⊕ ((ygh).X ⊕ (yjZ).X)) :=bif(ltb v0 (v1.length:Int))then bif(inb v0 v1.length)then bif(inb v0 v5.length)then let r3:=yak (nth v1 v0 []) (nth v5 v0 []);bif(!r3)then some (.inr (.inr (((false,()),()),(),()))) else some (.inl ((((),()),((),()),((i64.wrap (v0+1)),()),()),((v1,v2,v3,v4,()),(v5,v6,v7,v8,()),()),())) else none else none else some (.inr (.inl ((((),()),((),()),()),((v1,v2,v3,v4,()),(v5,v6,v7,v8,()),()),())))
def yco (x:(yb1).X):=ypn x.1.2.2.1.1 x.2.1.1.1 x.2.1.1.2.1 x.2.1.1.2.2.1 x.2.1.1.2.2.2.1 x.2.1.2.1.1 x.2.1.2.1.2.1 x.2.1.2.1.2.2.1 x.2.1.2.1.2.2.2.1
def yAu (x:(ygw).X):(yb1).X:=((((),()),((),()),(0,()),()),((x.2.1.1.1,x.2.1.1.2.1,x.2.1.1.2.2.1,x.2.1.1.2.2.2.1,()),(x.2.1.2.1.1,x.2.1.2.1.2.1,x.2.1.2.1.2.2.1,x.2.1.2.1.2.2.2.1,()),()),())
def yDh:Code:=(zd7 yeP 64 116).getD .skip
theorem yPU:zd7 yeP 64 29=some (.block 0 (.loop yDh)):=by kernel_rfl
theorem yR4 (x:(yb1).X):zhu ⟨ykf,93,yEM⟩ 0 yDh 116 yb1 ygh yjZ x=yco x:=by kernel_rfl
def yAM (x:(ygw).X):Nat:=18446744073709551616
def yqx (x:(ygw).X):Option ((ygh).X ⊕ (yjZ).X):=zF yco (yAM x) (yAu x)
def yBg:Seg:=⟨ygw,ygh,yjZ,yqx⟩
def ysB:Nat→Option Seg:=fun q=>bif Nat.beq q 29 then some yBg else yEM q
theorem yQp:FrOk prog ⟨ykf,93,ysB⟩ yeP:=(yQo).loop (sg:=yBg) yb1 yAu (by decide) yPU yco yAM (by decide) (fun _=>rfl) (fun x r _ h=>h) yR4
def yb2:Shape:=⟨[(2,false,[.ptr 0 0]),(3,false,[.ptr 64 0]),(6,false,[.int .i64])],[(0,[.br tL,.br tW,.bool,.br tI]),(64,[.br tL,.br tW,.bool,.br tI])],[]⟩
def ygx:Shape:=⟨[(2,false,[.ptr 0 0]),(3,false,[.ptr 64 0]),(6,false,[.ci .i64 0])],[(0,[.br tL,.br tW,.bool,.br tI]),(64,[.br tL,.br tW,.bool,.br tI])],[]⟩
def ygi:Shape:=⟨[],[],[]⟩
def yj0:Shape:=⟨[(4,false,[.bool])],[],[]⟩
abbrev yoU (v0:Int) (v1 v2:dM):(yb2).X:=((((),()),((),()),(v0,()),()),((v1.1,v1.2.1,v1.2.2.1,v1.2.2.2,()),(v2.1,v2.2.1,v2.2.2.1,v2.2.2.2,()),()),())
abbrev yOv (v0 v1:dM):(ygx).X:=((((),()),((),()),((),()),()),((v0.1,v0.2.1,v0.2.2.1,v0.2.2.2,()),(v1.1,v1.2.1,v1.2.2.1,v1.2.2.2,()),()),())
abbrev yA2  :(ygi).X:=((),(),())
def ypo (v0:Int) (v1:List (List Int)) (v2:List dW) (v3:Bool) (v4:List Int) (v5:List (List Int)) (v6:List dW) (v7:Bool) (v8:List Int):Option ((yb2).X ⊕ ((ygi).X ⊕ (yj0).X)) :=bif(ltb v0 (v2.length:Int))then bif(inb v0 v2.length)then bif(inb v0 v6.length)then bif(!((nth v2 v0 (0,[])).1 !=(nth v6 v0 (0,[])).1))then bif(inb v0 v2.length)then bif(inb v0 v6.length)then let r6:=yak ((nth v2 v0 (0,[])).2) ((nth v6 v0 (0,[])).2);bif(!r6)then some (.inr (.inr (((false,()),()),(),()))) else some (.inl ((((),()),((),()),((i64.wrap (v0+1)),()),()),((v1,v2,v3,v4,()),(v5,v6,v7,v8,()),()),())) else none else none else some (.inr (.inr (((false,()),()),(),()))) else none else none else some (.inr (.inl ((),(),())))
def ycp (x:(yb2).X):=ypo x.1.2.2.1.1 x.2.1.1.1 x.2.1.1.2.1 x.2.1.1.2.2.1 x.2.1.1.2.2.2.1 x.2.1.2.1.1 x.2.1.2.1.2.1 x.2.1.2.1.2.2.1 x.2.1.2.1.2.2.2.1
def yAv (x:(ygx).X):(yb2).X:=((((),()),((),()),(0,()),()),((x.2.1.1.1,x.2.1.1.2.1,x.2.1.1.2.2.1,x.2.1.1.2.2.2.1,()),(x.2.1.2.1.1,x.2.1.2.1.2.1,x.2.1.2.1.2.2.1,x.2.1.2.1.2.2.2.1,()),()),())
def yDi:Code:=(zd7 yeP 64 244).getD .skip
theorem yPV:zd7 yeP 64 61=some (.block 2 (.loop yDi)):=by kernel_rfl
theorem yR5 (x:(yb2).X):zhu ⟨ykf,93,ysB⟩ 2 yDi 244 yb2 ygi yj0 x=ycp x:=by kernel_rfl
def yAN (x:(ygx).X):Nat:=18446744073709551616
def yqy (x:(ygx).X):Option ((ygi).X ⊕ (yj0).X):=zF ycp (yAN x) (yAv x)
def yBh:Seg:=⟨ygx,ygi,yj0,yqy⟩
def ySA:Nat→Option Seg:=fun q=>bif Nat.beq q 61 then some yBh else ysB q
theorem yQq:FrOk prog ⟨ykf,93,ySA⟩ yeP:=(yQp).loop (sg:=yBh) yb2 yAv (by decide) yPV ycp yAN (by decide) (fun _=>rfl) (fun x r _ h=>h) yR5
abbrev yyE:List Par:= [.rd tM,.rd tM]
abbrev yyV:List OT:= [⟨false,tB,.fz⟩]
def yhU (a0 a1:dM):Option (zaY yyV×zak yyE) :=bif(!((a0.1.length:Int) !=(a1.1.length:Int)))then bif(!((a0.2.1.length:Int) !=(a1.2.1.length:Int)))then bif(!(!(a0.2.2.1==a1.2.2.1)))then let r1:=yak a0.2.2.2 a1.2.2.2;bif(!r1)then some ((false,()),()) else zkt (yqx ((((),()),((),()),((),()),()),((a0.1,a0.2.1,a0.2.2.1,a0.2.2.2,()),(a1.1,a1.2.1,a1.2.2.1,a1.2.2.2,()),()),())) (fun y3 =>zkt (yqy ((((),()),((),()),((),()),()),((y3.2.1.1.1,y3.2.1.1.2.1,y3.2.1.1.2.2.1,y3.2.1.1.2.2.2.1,()),(y3.2.1.2.1.1,y3.2.1.2.1.2.1,y3.2.1.2.1.2.2.1,y3.2.1.2.1.2.2.2.1,()),()),())) (fun y6 =>some ((true,()),())) (fun y6 =>some ((y6.1.1.1,()),()))) (fun y3 =>some ((y3.1.1.1,()),())) else some ((false,()),()) else some ((false,()),()) else some ((false,()),())
theorem yVb:ConOk prog 102 ⟨yyE,yyV,fun x=>yhU x.1 x.2.1⟩:=zkI (yQq) func102 ntmps102.symm fun x=>by kernel_rfl
def yF2:Con:=⟨yyE,yyV,fun x=>yhU x.1 x.2.1⟩
theorem yZz:ConOk prog 102 yF2:=yVb
theorem y73 (m:dM) (h1:m.1.length≤1000000000) (h2:m.2.1.length≤1000000000):yhU m m=some ((true,()),()):=by
 have l1:yqx (yOu m m)=some (.inl (yA1 m m)) :=
  zkD (step:=yco) m.1.length (fun i (_:Unit)=>yoT i m m) (fun _ _=>()) (fun _ _=>True) (fun _=> .inl (yA1 m m)) (fun i s hi _=>⟨by
   simp only[yco,yoT,ypn,zky (show(i:Int)<m.1.length by omega),cond_true,wq ((i:Int)+1) (by omega) (by omega),Int.natCast_add,Int.natCast_one,Int.toNat_natCast,zkR hi,ymE,Bool.not_true,cond_false],trivial⟩) (fun s _=>by simp only[yco,yoT,ypn,zk3 (Int.le_refl _),cond_false]) () trivial 18446744073709551616 (by omega)
 have l2:yqy (yOv m m)=some (.inl yA2) :=
  zkD (step:=ycp) m.2.1.length (fun i (_:Unit)=>yoU i m m) (fun _ _=>()) (fun _ _=>True) (fun _=> .inl yA2) (fun i s hi _=>⟨by
   simp only[ycp,yoU,ypo,zky (show(i:Int)<m.2.1.length by omega),cond_true,wq ((i:Int)+1) (by omega) (by omega),Int.natCast_add,Int.natCast_one,Int.toNat_natCast,zkR hi,ymE,bne_self_eq_false,Bool.not_true,Bool.not_false,cond_true,cond_false],trivial⟩) (fun s _=>by simp only[ycp,yoU,ypo,zk3 (Int.le_refl _),cond_false]) () trivial 18446744073709551616 (by omega)
 unfold yhU;simp only[bne_self_eq_false,beq_self_eq_true,ymE,Bool.not_true,Bool.not_false,cond_true,cond_false];refine(congrArg (fun z=>zkt z _ _) l1).trans ?_;rw[zkN];exact(congrArg (fun z=>zkt z _ _) l2).trans rfl
def yno:Code:=(f31.body).getD .skip
def yuC:Env:=zkw TT [(102,yF2)] []
theorem yNR:FrOk prog ⟨yuC,27,fun _=>none⟩ yno:=zkA mixed yd ⟨yZz,trivial⟩
def yC4:Nat→Option Seg:=fun _=>none
def ybt:Shape:=⟨[(0,false,[.br tM]),(1,false,[.br tM]),(5,false,[.int .i64])],[],[]⟩
def yfw:Shape:=⟨[(0,false,[.br tM]),(1,false,[.br tM]),(5,false,[.ci .i64 0])],[],[]⟩
def yfl:Shape:=⟨[],[],[]⟩
def yi7:Shape:=⟨[(4,false,[.bool])],[],[]⟩
abbrev ym1 (v0 v1:List dM) (v2:Int):(ybt).X:=(((v0,()),(v1,()),(v2,()),()),(),())
abbrev yMA (v0 v1:List dM):(yfw).X:=(((v0,()),(v1,()),((),()),()),(),())
abbrev yxX  :(yfl).X:=((),(),())
def yng (v0 v1:List dM) (v2:Int):Option ((ybt).X ⊕ ((yfl).X ⊕ (yi7).X)) :=bif(ltb v2 (v0.length:Int))then bif(inb v2 v0.length)then bif(inb v2 v1.length)then bnd (yhU ((nth v0 v2 ([],[],false,[])).1,((nth v0 v2 ([],[],false,[])).2).1,(((nth v0 v2 ([],[],false,[])).2).2)) ((nth v1 v2 ([],[],false,[])).1,((nth v1 v2 ([],[],false,[])).2).1,(((nth v1 v2 ([],[],false,[])).2).2))) fun r2 =>bif(!r2.1.1)then some (.inr (.inr (((false,()),()),(),()))) else some (.inl (((v0,()),(v1,()),((i64.wrap (v2+1)),()),()),(),())) else none else none else some (.inr (.inl ((),(),())))
def ybR (x:(ybt).X):=yng x.1.1.1 x.1.2.1.1 x.1.2.2.1.1
def yxD (x:(yfw).X):(ybt).X:=(((x.1.1.1,()),(x.1.2.1.1,()),(0,()),()),(),())
def yAb:Code:=(zd7 yno 64 116).getD .skip
theorem yNj:zd7 yno 64 29=some (.block 0 (.loop yAb)):=by kernel_rfl
theorem yPc (x:(ybt).X):zhu ⟨yuC,27,yC4⟩ 0 yAb 116 ybt yfl yi7 x=ybR x:=by kernel_rfl
def yxP (x:(yfw).X):Nat:=18446744073709551616
def yos (x:(yfw).X):Option ((yfl).X ⊕ (yi7).X):=zF ybR (yxP x) (yxD x)
def yya:Seg:=⟨yfw,yfl,yi7,yos⟩
def yPD:Nat→Option Seg:=fun q=>bif Nat.beq q 29 then some yya else yC4 q
theorem yNS:FrOk prog ⟨yuC,27,yPD⟩ yno:=(yNR).loop (sg:=yya) ybt yxD (by decide) yNj ybR yxP (by decide) (fun _=>rfl) (fun x r _ h=>h) yPc
abbrev yu2:List Par:= [.rd tMs,.rd tMs]
abbrev yvq:List OT:= [⟨false,tB,.fz⟩]
def ycb (a0 a1:List dM):Option (zaY yvq×zak yu2) :=bif((a0.length:Int) !=(a1.length:Int))then some ((false,()),()) else zkt (yos (((a0,()),(a1,()),((),()),()),(),())) (fun y2 =>some ((true,()),())) (fun y2 =>some ((y2.1.1.1,()),()))
theorem yRy:ConOk prog 31 ⟨yu2,yvq,fun x=>ycb x.1 x.2.1⟩:=zkI (yNS) func31 ntmps31.symm fun x=>by kernel_rfl
def yqS:Con:=⟨yu2,yvq,fun x=>ycb x.1 x.2.1⟩
theorem yG0:ConOk prog 31 yqS:=yRy
theorem y3c (l:List dM) (h:l.length≤1000000000) (hm: ∀m∈l,m.1.length≤1000000000∧m.2.1.length≤1000000000):ycb l l=some ((true,()),()):=by
 have l1:yos (yMA l l)=some (.inl yxX) :=
  zkD (step:=ybR) l.length (fun i (_:Unit)=>ym1 l l i) (fun _ _=>()) (fun _ _=>True) (fun _=> .inl yxX) (fun i s hi _=>⟨by
   have hn:=ye1 (P:=fun m:dM=>m.1.length≤1000000000∧m.2.1.length≤1000000000) (d:=yc) (zkR hi) hm;simp only[ybR,ym1,yng,zky (show(i:Int)<l.length by omega),cond_true,wq ((i:Int)+1) (by omega) (by omega),Int.natCast_add,Int.natCast_one,Int.toNat_natCast,zkR hi,zkX]
   rw[y73 _ hn.1 hn.2]; rfl,trivial⟩) (fun s _=>by simp only[ybR,ym1,yng,zk3 (Int.le_refl _),cond_false]) () trivial 18446744073709551616 (by omega)
 unfold ycb;rw[bne_self_eq_false,cond_false];exact(congrArg (fun z=>zkt z _ _) l1).trans rfl
def ylj:Code:=(f94.body).getD .skip
def ysD:Env:=zkw TT [(49,yj6)] []
theorem yMl:FrOk prog ⟨ysD,42,fun _=>none⟩ ylj:=zkA mixed yd ⟨ytp,trivial⟩
def yzY:Nat→Option Seg:=fun _=>none
def ya1:Shape:=⟨[(0,false,[.br tW]),(1,false,[.br tW]),(5,false,[.int .i64])],[],[]⟩
def yeD:Shape:=⟨[(0,false,[.br tW]),(1,false,[.br tW]),(5,false,[.ci .i64 0])],[],[]⟩
def yeu:Shape:=⟨[],[],[]⟩
def yhZ:Shape:=⟨[(4,false,[.bool])],[],[]⟩
abbrev ylO (v0 v1:List dW) (v2:Int):(ya1).X:=(((v0,()),(v1,()),(v2,()),()),(),())
abbrev yLk (v0 v1:List dW):(yeD).X:=(((v0,()),(v1,()),((),()),()),(),())
abbrev ywu  :(yeu).X:=((),(),())
def yl5 (v0 v1:List dW) (v2:Int):Option ((ya1).X ⊕ ((yeu).X ⊕ (yhZ).X)) :=bif(ltb v2 (v0.length:Int))then bif(inb v2 v0.length)then bif(inb v2 v1.length)then bif(!((nth v0 v2 (0,[])).1 !=(nth v1 v2 (0,[])).1))then bif(inb v2 v0.length)then bif(inb v2 v1.length)then let r2:=yak ((nth v0 v2 (0,[])).2) ((nth v1 v2 (0,[])).2);bif(!r2)then some (.inr (.inr (((false,()),()),(),()))) else some (.inl (((v0,()),(v1,()),((i64.wrap (v2+1)),()),()),(),())) else none else none else some (.inr (.inr (((false,()),()),(),()))) else none else none else some (.inr (.inl ((),(),())))
def ybg (x:(ya1).X):=yl5 x.1.1.1 x.1.2.1.1 x.1.2.2.1.1
def yv5 (x:(yeD).X):(ya1).X:=(((x.1.1.1,()),(x.1.2.1.1,()),(0,()),()),(),())
def yxm:Code:=(zd7 ylj 64 116).getD .skip
theorem yL7:zd7 ylj 64 29=some (.block 0 (.loop yxm)):=by kernel_rfl
theorem yMV (x:(ya1).X):zhu ⟨ysD,42,yzY⟩ 0 yxm 116 ya1 yeu yhZ x=ybg x:=by kernel_rfl
def ywg (x:(yeD).X):Nat:=18446744073709551616
def ymL (x:(yeD).X):Option ((yeu).X ⊕ (yhZ).X):=zF ybg (ywg x) (yv5 x)
def yw6:Seg:=⟨yeD,yeu,yhZ,ymL⟩
def yM6:Nat→Option Seg:=fun q=>bif Nat.beq q 29 then some yw6 else yzY q
theorem yMm:FrOk prog ⟨ysD,42,yM6⟩ ylj:=(yMl).loop (sg:=yw6) ya1 yv5 (by decide) yL7 ybg ywg (by decide) (fun _=>rfl) (fun x r _ h=>h) yMV
abbrev ysT:List Par:= [.rd tWs,.rd tWs]
abbrev ysW:List OT:= [⟨false,tB,.fz⟩]
def yfK (a0 a1:List dW):Option (zaY ysW×zak ysT) :=bif((a0.length:Int) !=(a1.length:Int))then some ((false,()),()) else zkt (ymL (((a0,()),(a1,()),((),()),()),(),())) (fun y2 =>some ((true,()),())) (fun y2 =>some ((y2.1.1.1,()),()))
theorem yOS:ConOk prog 94 ⟨ysT,ysW,fun x=>yfK x.1 x.2.1⟩:=zkI (yMm) func94 ntmps94.symm fun x=>by kernel_rfl
def yAj:Con:=⟨ysT,ysW,fun x=>yfK x.1 x.2.1⟩
theorem yRS:ConOk prog 94 yAj:=yOS
theorem y67 (l:List dW) (h:l.length≤1000000000):yfK l l=some ((true,()),()):=by
 have l1:ymL (yLk l l)=some (.inl ywu) :=
  zkD (step:=ybg) l.length (fun i (_:Unit)=>ylO l l i) (fun _ _=>()) (fun _ _=>True) (fun _=> .inl ywu) (fun i s hi _=>⟨by
   simp only[ybg,ylO,yl5,zky (show(i:Int)<l.length by omega),cond_true,wq ((i:Int)+1) (by omega) (by omega),Int.natCast_add,Int.natCast_one,Int.toNat_natCast,zkR hi,ymE,bne_self_eq_false,Bool.not_true,Bool.not_false,cond_true,cond_false],trivial⟩) (fun s _=>by simp only[ybg,ylO,yl5,zk3 (Int.le_refl _),cond_false]) () trivial 18446744073709551616 (by omega)
 unfold yfK;rw[bne_self_eq_false,cond_false];exact(congrArg (fun z=>zkt z _ _) l1).trans rfl
def yZ9:Code:=(f27.body).getD .skip
def y0C:Env:=zkw TT [(31,yqS),(94,yAj)] []
theorem yQn:FrOk prog ⟨y0C,87,fun _=>none⟩ yZ9:=zkA mixed yd ⟨yG0,yRS,trivial⟩
abbrev yyD:List Par:= [.rd tA,.rd tA]
abbrev yyU:List OT:= [⟨false,tB,.fz⟩]
def ybC (a0 a1:dA):Option (zaY yyU×zak yyD) :=bif(a0.1==a1.1)then bif((a0.2.1.1==a1.2.1.1)&&((a0.2.1.2==a1.2.1.2)&&true))then bnd (ycb a0.2.2.1 a1.2.2.1) fun r1 =>bif r1.1.1 then bif(a0.2.2.2.1==a1.2.2.2.1)then bif(a0.2.2.2.2.1==a1.2.2.2.2.1)then bif(a0.2.2.2.2.2.1==a1.2.2.2.2.2.1)then bif(a0.2.2.2.2.2.2.1==a1.2.2.2.2.2.2.1)then bif(a0.2.2.2.2.2.2.2.1==a1.2.2.2.2.2.2.2.1)then bnd (yfK a0.2.2.2.2.2.2.2.2.1 a1.2.2.2.2.2.2.2.2.1) fun r2 =>bif r2.1.1 then bif(a0.2.2.2.2.2.2.2.2.2.1==a1.2.2.2.2.2.2.2.2.2.1)then bif(a0.2.2.2.2.2.2.2.2.2.2.1==a1.2.2.2.2.2.2.2.2.2.2.1)then some (((a0.2.2.2.2.2.2.2.2.2.2.2==a1.2.2.2.2.2.2.2.2.2.2.2),()),()) else some ((false,()),()) else some ((false,()),()) else some ((false,()),()) else some ((false,()),()) else some ((false,()),()) else some ((false,()),()) else some ((false,()),()) else some ((false,()),()) else some ((false,()),()) else some ((false,()),()) else some ((false,()),())
theorem yVa:ConOk prog 27 ⟨yyD,yyU,fun x=>ybC x.1 x.2.1⟩:=zkI (yQn) func27 ntmps27.symm fun x=>by kernel_rfl
def yF1:Con:=⟨yyD,yyU,fun x=>ybC x.1 x.2.1⟩
theorem yZy:ConOk prog 27 yF1:=yVa
theorem yLE (a:dA) (h:yfO a):ybC a a=some ((true,()),()):=by
 unfold ybC;rw[y3c _ h.1 h.2.1,y67 _ h.2.2];simp only[beq_self_eq_true,Bool.and_self,zkH,cond_true]
def y0a:Code:=(f30.body).getD .skip
def y0D:Env:=zkw TT [(49,yj6)] []
theorem yQr:FrOk prog ⟨y0D,24,fun _=>none⟩ y0a:=zkA mixed yd ⟨ytp,trivial⟩
abbrev yyF:List Par:= [.rd tN,.rd tN]
abbrev yyW:List OT:= [⟨false,tB,.fz⟩]
def yHf (a0 a1:dN):Option (zaY yyW×zak yyF) :=bif(a0.1==a1.1)then bif(a0.2.1==a1.2.1)then let r1:=yak a0.2.2 a1.2.2;some ((r1,()),()) else some ((false,()),()) else some ((false,()),())
theorem yVc:ConOk prog 30 ⟨yyF,yyW,fun x=>yHf x.1 x.2.1⟩:=zkI (yQr) func30 ntmps30.symm fun x=>by kernel_rfl
def ykQ (a0 a1:dN):Bool :=bif(a0.1==a1.1)then bif(a0.2.1==a1.2.1)then let r1:=yak a0.2.2 a1.2.2;r1 else false else false
def yF3:Con:=⟨yyF,yyW,fun x=>(fun n=>some ((n,()),())) (ykQ x.1 x.2.1)⟩
theorem yYt (a0 a1:dN):yHf a0 a1=(fun n=>some ((n,()),())) (ykQ a0 a1):=zkV (p:=fun(n:Bool)=>((n,()),())) (zkG (p:=fun(n:Bool)=>((n,()),())) (zkG (p:=fun(n:Bool)=>((n,()),())) rfl rfl) rfl)
theorem yZA:ConOk prog 30 yF3:=(yVc).mono (fun x r _ h=>(yYt x.1 x.2.1).trans h)
def yV9:Code:=(f34.body).getD .skip
def yWG:Env:=zkw TT [(55,yp8),(95,ys2)] []
theorem yNH:FrOk prog ⟨yWG,11,fun _=>none⟩ yV9:=zkA mixed yd ⟨yCM,yIR,trivial⟩
abbrev ynz:List Par:= [.rd tA]
abbrev yvi:List OT:= [⟨false,tA,(.pr .fz (.pr (.pr .fz .fz) (.pr (.ow (.pr (.ow (.ow .fz)) (.pr (.ow (.pr .fz (.ow .fz))) (.pr .fz (.ow .fz))))) (.pr .fz (.pr .fz (.pr .fz (.pr .fz (.pr .fz (.pr (.ow (.pr .fz (.ow .fz))) (.pr .fz (.pr .fz .fz)))))))))))⟩]
def yrk (a0:dA):Option (zaY yvi×zak ynz) :=let r1:=yeZ a0;let r2:=ybA a0;bif r2 then some (((r1.1,r1.2.1,r1.2.2.1,r1.2.2.2.1,r1.2.2.2.2.1,r1.2.2.2.2.2.1,r1.2.2.2.2.2.2.1,r1.2.2.2.2.2.2.2.1,r1.2.2.2.2.2.2.2.2.1,(-1),true,r1.2.2.2.2.2.2.2.2.2.2.2),()),()) else some ((r1,()),())
theorem yRq:ConOk prog 34 ⟨ynz,yvi,fun x=>yrk x.1⟩:=zkI (yNH) func34 ntmps34.symm fun x=>by kernel_rfl
def yjn (a0:dA):dA:=bif yE a0 then y70 a0 else a0
theorem yUE (a0:dA) (hk:zjx ynz (a0,())):yrk a0=(fun n=>some ((n,()),())) (yjn a0):=by
 unfold yrk yjn ybA yeZ;cases yE a0<;>rfl
def yDu:Con:=⟨ynz,yvi,fun x=>(fun n=>some ((n,()),())) (yjn x.1)⟩
theorem yVy:ConOk prog 34 yDu:=(yRq).mono (fun x r hk h=>(yUE x.1 hk).trans h)
end
end Go.Tf
