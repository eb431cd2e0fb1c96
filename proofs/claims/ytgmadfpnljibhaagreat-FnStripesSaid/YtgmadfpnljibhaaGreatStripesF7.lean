/- Functions of the program, and what they come to. -/
import Derived.Test.YtgmadfpnljibhaaGreatStripesF6
namespace Go.Tf
noncomputable section
open Go.Proofs
set_option synthInstance.maxHeartbeats 400000
set_option synthInstance.maxSize 10000
set_option linter.unusedVariables false
set_option linter.unusedSimpArgs false
set_option maxRecDepth 100000
section
def yo9:Code:=(Tryz.f246.body).getD .skip
def yuw:Env:=zki TT [] [(4096,(.pr .fz .fz)),(28800,(.pr .fz .fz)),(41472,(.pr .fz .fz)),(49280,(.pr .fz .fz))]
theorem yS0:FrOk Tryz.prog ⟨yuw,67,fun _=>none⟩ yo9:=zkp yb yd trivial
def yFI:Nat→Option Seg:=fun _=>none
def ydj:Shape:=⟨[(0,false,[.ptr 1000000000 0]),(3,false,[.ptr 0 0]),(4,false,[.at 800000000]),(5,false,[.bool]),(6,false,[.int .i64])],[(0,[.int .i64,.fz tI]),(1000000000,[.int .i64,.int .i64,.int .i64,.at 800000001,.int .i64,.int .i64,.int .i64,.int .i64,.int .i64,.at 800000002,.int .i64,.bool,.bool])],[(800000000,tW,(.pr .fz .fz)),(800000001,tM,(.pr (.ow .fz) (.pr (.ow (.pr .fz .fz)) (.pr .fz (.ow .fz))))),(800000002,tW,(.pr .fz .fz))]⟩
def yiR:Shape:=⟨[(0,false,[.ptr 1000000000 0]),(3,false,[.ptr 0 0]),(4,false,[.at 800000000]),(5,false,[.cb false]),(6,false,[.ci .i64 0])],[(0,[.int .i64,.fz tI]),(1000000000,[.int .i64,.int .i64,.int .i64,.at 800000001,.int .i64,.int .i64,.int .i64,.int .i64,.int .i64,.at 800000002,.int .i64,.bool,.bool])],[(800000000,tW,(.pr .fz .fz)),(800000001,tM,(.pr (.ow .fz) (.pr (.ow (.pr .fz .fz)) (.pr .fz (.ow .fz))))),(800000002,tW,(.pr .fz .fz))]⟩
def yiC:Shape:=⟨[(0,false,[.ptr 1000000000 0]),(3,false,[.ptr 0 0]),(4,false,[.at 800000000]),(5,false,[.bool])],[(0,[.int .i64,.fz tI]),(1000000000,[.int .i64,.int .i64,.int .i64,.at 800000001,.int .i64,.int .i64,.int .i64,.int .i64,.int .i64,.at 800000002,.int .i64,.bool,.bool])],[(800000000,tW,(.pr .fz .fz)),(800000001,tM,(.pr (.ow .fz) (.pr (.ow (.pr .fz .fz)) (.pr .fz (.ow .fz))))),(800000002,tW,(.pr .fz .fz))]⟩
def yot:Shape:=⟨[],[],[]⟩
abbrev ytt (v0:Bool) (v1:Int) (v2:dW) (v3:dA) (v4:List dW):(ydj).X:=((((),()),((),()),((),()),(v0,()),(v1,()),()),((v2.1,v2.2,()),(v3.1,v3.2.1.1,v3.2.1.2,(),v3.2.2.2.1,v3.2.2.2.2.1,v3.2.2.2.2.2.1,v3.2.2.2.2.2.2.1,v3.2.2.2.2.2.2.2.1,(),v3.2.2.2.2.2.2.2.2.2.1,v3.2.2.2.2.2.2.2.2.2.2.1,v3.2.2.2.2.2.2.2.2.2.2.2,()),()),(v4,v3.2.2.1,v3.2.2.2.2.2.2.2.2.1,()))
abbrev yPX (v0:dW) (v1:dA) (v2:List dW):(yiR).X:=((((),()),((),()),((),()),((),()),((),()),()),((v0.1,v0.2,()),(v1.1,v1.2.1.1,v1.2.1.2,(),v1.2.2.2.1,v1.2.2.2.2.1,v1.2.2.2.2.2.1,v1.2.2.2.2.2.2.1,v1.2.2.2.2.2.2.2.1,(),v1.2.2.2.2.2.2.2.2.2.1,v1.2.2.2.2.2.2.2.2.2.2.1,v1.2.2.2.2.2.2.2.2.2.2.2,()),()),(v2,v1.2.2.1,v1.2.2.2.2.2.2.2.2.1,()))
abbrev yPJ (v0:Bool) (v1:dW) (v2:dA) (v3:List dW):(yiC).X:=((((),()),((),()),((),()),(v0,()),()),((v1.1,v1.2,()),(v2.1,v2.2.1.1,v2.2.1.2,(),v2.2.2.2.1,v2.2.2.2.2.1,v2.2.2.2.2.2.1,v2.2.2.2.2.2.2.1,v2.2.2.2.2.2.2.2.1,(),v2.2.2.2.2.2.2.2.2.2.1,v2.2.2.2.2.2.2.2.2.2.2.1,v2.2.2.2.2.2.2.2.2.2.2.2,()),()),(v3,v2.2.2.1,v2.2.2.2.2.2.2.2.2.1,()))
def ytR (v0:Bool) (v1 v2:Int) (v3:List Int) (v4 v5 v6 v7 v8 v9 v10 v11 v12:Int) (v13 v14:Bool) (v15:List dW) (v16:List dM) (v17:List dW):Option ((ydj).X ⊕ ((yiC).X ⊕ (yot).X)) :=
 bif (ltb v1 (v17.length:Int)) then
 bif (!v0) then
 bif (inb v1 v17.length) then
 bif (leb v2 ((nth v17 v1 (0,[])).1)) then
 bif (zj4 v15.length ([(v2,v3)]:List dW).length 32) then
 bif (inb v1 v17.length) then
 bif ((nth v17 v1 (0,[])).1 !=v2) then
 bif (inb v1 v17.length) then
 bif (zj4 (v15++([(v2,v3)]:List dW)).length ([(nth v17 v1 (0,[]))]:List dW).length 32) then
 some (.inl ((((),()),((),()),((),()),(true,()),((IntKind.i64.wrap (v1+1)),()),()),((v2,v3,()),(v4,v5,v6,(),v7,v8,v9,v10,v11,(),v12,v13,v14,()),()),(((v15++([(v2,v3)]:List dW))++([(nth v17 v1 (0,[]))]:List dW)),v16,v17,())))
 else none
 else none
 else
 some (.inl ((((),()),((),()),((),()),(true,()),((IntKind.i64.wrap (v1+1)),()),()),((v2,v3,()),(v4,v5,v6,(),v7,v8,v9,v10,v11,(),v12,v13,v14,()),()),((v15++([(v2,v3)]:List dW)),v16,v17,())))
 else none
 else none
 else
 bif (inb v1 v17.length) then
 bif ((nth v17 v1 (0,[])).1 !=v2) then
 bif (inb v1 v17.length) then
 bif (zj4 v15.length ([(nth v17 v1 (0,[]))]:List dW).length 32) then
 some (.inl ((((),()),((),()),((),()),(v0,()),((IntKind.i64.wrap (v1+1)),()),()),((v2,v3,()),(v4,v5,v6,(),v7,v8,v9,v10,v11,(),v12,v13,v14,()),()),((v15++([(nth v17 v1 (0,[]))]:List dW)),v16,v17,())))
 else none
 else none
 else
 some (.inl ((((),()),((),()),((),()),(v0,()),((IntKind.i64.wrap (v1+1)),()),()),((v2,v3,()),(v4,v5,v6,(),v7,v8,v9,v10,v11,(),v12,v13,v14,()),()),(v15,v16,v17,())))
 else none
 else none
 else
 bif (inb v1 v17.length) then
 bif ((nth v17 v1 (0,[])).1 !=v2) then
 bif (inb v1 v17.length) then
 bif (zj4 v15.length ([(nth v17 v1 (0,[]))]:List dW).length 32) then
 some (.inl ((((),()),((),()),((),()),(v0,()),((IntKind.i64.wrap (v1+1)),()),()),((v2,v3,()),(v4,v5,v6,(),v7,v8,v9,v10,v11,(),v12,v13,v14,()),()),((v15++([(nth v17 v1 (0,[]))]:List dW)),v16,v17,())))
 else none
 else none
 else
 some (.inl ((((),()),((),()),((),()),(v0,()),((IntKind.i64.wrap (v1+1)),()),()),((v2,v3,()),(v4,v5,v6,(),v7,v8,v9,v10,v11,(),v12,v13,v14,()),()),(v15,v16,v17,())))
 else none
 else
 some (.inr (.inl ((((),()),((),()),((),()),(v0,()),()),((v2,v3,()),(v4,v5,v6,(),v7,v8,v9,v10,v11,(),v12,v13,v14,()),()),(v15,v16,v17,()))))
def ydR (x:(ydj).X):=ytR x.1.2.2.2.1.1 x.1.2.2.2.2.1.1 x.2.1.1.1 x.2.1.1.2.1 x.2.1.2.1.1 x.2.1.2.1.2.1 x.2.1.2.1.2.2.1 x.2.1.2.1.2.2.2.2.1 x.2.1.2.1.2.2.2.2.2.1 x.2.1.2.1.2.2.2.2.2.2.1 x.2.1.2.1.2.2.2.2.2.2.2.1 x.2.1.2.1.2.2.2.2.2.2.2.2.1 x.2.1.2.1.2.2.2.2.2.2.2.2.2.2.1 x.2.1.2.1.2.2.2.2.2.2.2.2.2.2.2.1 x.2.1.2.1.2.2.2.2.2.2.2.2.2.2.2.2.1 x.2.2.1 x.2.2.2.1 x.2.2.2.2.1
def yB5 (x:(yiR).X):(ydj).X:=((((),()),((),()),((),()),(false,()),(0,()),()),((x.2.1.1.1,x.2.1.1.2.1,()),(x.2.1.2.1.1,x.2.1.2.1.2.1,x.2.1.2.1.2.2.1,(),x.2.1.2.1.2.2.2.2.1,x.2.1.2.1.2.2.2.2.2.1,x.2.1.2.1.2.2.2.2.2.2.1,x.2.1.2.1.2.2.2.2.2.2.2.1,x.2.1.2.1.2.2.2.2.2.2.2.2.1,(),x.2.1.2.1.2.2.2.2.2.2.2.2.2.2.1,x.2.1.2.1.2.2.2.2.2.2.2.2.2.2.2.1,x.2.1.2.1.2.2.2.2.2.2.2.2.2.2.2.2.1,()),()),(x.2.2.1,x.2.2.2.1,x.2.2.2.2.1,()))
def yD8:Code:=(zdI yo9 64 244).getD .skip
theorem yRY:zdI yo9 64 61=some (.block 0 (.loop yD8)):=by kernel_rfl
theorem yUQ (x:(ydj).X):zg7 ⟨yuw,67,yFI⟩ 0 yD8 244 ydj yiC yot x=ydR x:=by kernel_rfl
def yCl (x:(yiR).X):Nat:=18446744073709551616
def yuL (x:(yiR).X):Option ((yiC).X ⊕ (yot).X):=zr ydR (yCl x) (yB5 x)
def yCY:Seg:=⟨yiR,yiC,yot,yuL⟩
def yFJ:Nat→Option Seg:=fun q=>bif Nat.beq q 61 then some yCY else yFI q
theorem yS1:FrOk Tryz.prog ⟨yuw,67,yFJ⟩ yo9:=(yS0).loop (sg:=yCY) ydj yB5 (by decide) yRY ydR yCl (by decide) (fun _=>rfl) (fun x r _ h=>h) yUQ
abbrev yg1:List Par:= [.pt tA (.pr .fz (.pr (.pr .fz .fz) (.pr (.ow (.pr (.ow .fz) (.pr (.ow (.pr .fz .fz)) (.pr .fz (.ow .fz))))) (.pr .fz (.pr .fz (.pr .fz (.pr .fz (.pr .fz (.pr (.ow (.pr .fz .fz)) (.pr .fz (.pr .fz .fz))))))))))),.kp tW .fz]
abbrev ypv:List OT:= []
def yq4 (a0:dA) (a1:dW):Option (ResD ypv×MutD yg1) :=
 zjw (yuL ((((),()),((),()),((),()),((),()),((),()),()),((a1.1,a1.2,()),(a0.1,a0.2.1.1,a0.2.1.2,(),a0.2.2.2.1,a0.2.2.2.2.1,a0.2.2.2.2.2.1,a0.2.2.2.2.2.2.1,a0.2.2.2.2.2.2.2.1,(),a0.2.2.2.2.2.2.2.2.2.1,a0.2.2.2.2.2.2.2.2.2.2.1,a0.2.2.2.2.2.2.2.2.2.2.2,()),()),(([]:List dW),a0.2.2.1,a0.2.2.2.2.2.2.2.2.1,()))) (fun y0 =>
 bif (!y0.1.2.2.2.1.1) then
 bif (zj4 y0.2.2.1.length ([(y0.2.1.1.1,y0.2.1.1.2.1)]:List dW).length 32) then
 some ((),((y0.2.1.2.1.1,(y0.2.1.2.1.2.1,y0.2.1.2.1.2.2.1),y0.2.2.2.1,y0.2.1.2.1.2.2.2.2.1,y0.2.1.2.1.2.2.2.2.2.1,y0.2.1.2.1.2.2.2.2.2.2.1,y0.2.1.2.1.2.2.2.2.2.2.2.1,y0.2.1.2.1.2.2.2.2.2.2.2.2.1,(y0.2.2.1++([(y0.2.1.1.1,y0.2.1.1.2.1)]:List dW)),y0.2.1.2.1.2.2.2.2.2.2.2.2.2.2.1,y0.2.1.2.1.2.2.2.2.2.2.2.2.2.2.2.1,y0.2.1.2.1.2.2.2.2.2.2.2.2.2.2.2.2.1),()))
 else none
 else
 some ((),((y0.2.1.2.1.1,(y0.2.1.2.1.2.1,y0.2.1.2.1.2.2.1),y0.2.2.2.1,y0.2.1.2.1.2.2.2.2.1,y0.2.1.2.1.2.2.2.2.2.1,y0.2.1.2.1.2.2.2.2.2.2.1,y0.2.1.2.1.2.2.2.2.2.2.2.1,y0.2.1.2.1.2.2.2.2.2.2.2.2.1,y0.2.2.1,y0.2.1.2.1.2.2.2.2.2.2.2.2.2.2.1,y0.2.1.2.1.2.2.2.2.2.2.2.2.2.2.2.1,y0.2.1.2.1.2.2.2.2.2.2.2.2.2.2.2.2.1),()))) (fun y0 =>
 none)
theorem yZJ (x:InD yg1):zjH ⟨yuw,67,yFJ⟩ Tryz.f246.results.toList yo9 yg1 ypv x=yq4 x.1 x.2.1:=by kernel_rfl
theorem yWF:ConOk Tryz.prog 246 ⟨yg1,ypv,fun x=>yq4 x.1 x.2.1⟩:=zkh (yS1) Tryz.func246 (by kernel_rfl) (by kernel_rfl) Tryz.ntmps246.symm (by decide) (fun x r h=>(yZJ x).trans h)
def yvJ (a0:dA) (a1:dW):dA:=yCJ a0 (yLj a0.2.2.2.2.2.2.2.2.1 a1)
def yCH (a0:dA) (a1:dW):Bool:=decide (a0.2.2.2.2.2.2.2.2.1.length≤1000)
theorem yYO (a0:dA) (a1:dW) (hk:zi9 yg1 (a0,a1,())) (hq:yCH a0 a1=true):yq4 a0 a1=(fun n=>some ((),(n,()))) (yvJ a0 a1):=by
 have hq:=of_decide_eq_true hq
 have h1:=zkk (step:=ydR) a0.2.2.2.2.2.2.2.2.1 (0,[]) (fun i s=>ytt s.1 i a1 a0 s.2) (yca a1) (fun i s=>s.2.length≤i * 2) (fun s=> .inl (yPJ s.1 a1 a0 s.2)) (fun i s hi hs=>by
  constructor
  ·simp only [ydR,ytt,ytR,zjI (show (i:Int) < a0.2.2.2.2.2.2.2.2.1.length by omega),cond_true,wr (show -9223372036854775808≤(i:Int)+1 by omega) (by omega),Int.natCast_add,Int.natCast_one,Int.toNat_natCast,zkO hi,zkV,zjW,yca,zkw.2 (show (s.2.length+ [a1].length) * 32≤140737488355328 by simp only [List.length_cons,List.length_nil]; omega),
    show ∀ x:dW,zj4 s.2.length [x].length 32=true from fun x=>zkw.2 (by simp only [List.length_cons,List.length_nil]; omega),show ∀ x:dW,zj4 (s.2++ [a1]).length [x].length 32=true from fun x=>zkw.2 (by simp only [List.length_append,List.length_cons,List.length_nil]; omega)]
   cases s.1<;>cases leb a1.1 (a0.2.2.2.2.2.2.2.2.1.getD i (0,[])).1<;>cases ((a0.2.2.2.2.2.2.2.2.1.getD i (0,[])).1 !=a1.1)<;>simp
  ·unfold yca
   have: ∀ (b c:Bool) (x:dW),((bif b then s.2++ [a1] else s.2)++(bif c then [x] else [])).length≤(i+1) * 2:=fun b c x=>by
    cases b<;>cases c<;>simp<;>omega
   exact this _ _ _) (fun s hs=>by simp only [ydR,ytt,ytR,zkm (Int.le_refl _),cond_false]) (false,[]) (Nat.zero_le _) 18446744073709551616 (by omega)
 have hl:((a0.2.2.2.2.2.2.2.2.1.foldl (yca a1) (false,[])).2).length≤2000:=by
  have: ∀ (l:List dW) (s:Bool×List dW),((l.foldl (yca a1) s).2).length≤s.2.length+l.length * 2:=by
   intro l
   induction l with
   | nil=>intro s; simp
   | cons x t ih =>
    intro s
    rw [List.foldl_cons]
    have:=ih (yca a1 s x)
    have h2:(yca a1 s x).2.length≤s.2.length+2:=by
     unfold yca
     cases (!s.1&&leb a1.1 x.1)<;>cases (x.1 !=a1.1)<;>simp
    simp only [List.length_cons]; omega
  have:=this a0.2.2.2.2.2.2.2.2.1 (false,[])
  simp only [List.length_nil]at this
  omega
 unfold yq4 yvJ yLj
 refine (congrArg (fun z=>zjw z _ _) (show yuL (yPX a1 a0 [])=_ from h1)).trans ?_
 generalize a0.2.2.2.2.2.2.2.2.1.foldl (yca a1) (false,[])=R at hl
 simp only [zkJ,zkV]
 cases hr:R.1
 ·rw [zkw.2 (show (R.2.length+ [a1].length) * 32≤140737488355328 by simp only [List.length_cons,List.length_nil]; omega)]; rfl
 ·rfl
def yvL (a0:dA) (a1:dW):Option (ResD ypv×MutD yg1):=bif yCH a0 a1 then (fun n=>some ((),(n,()))) (yvJ a0 a1) else none
theorem yY8 (a0:dA) (a1:dW) (h:yCH a0 a1=true):yvL a0 a1=(fun n=>some ((),(n,()))) (yvJ a0 a1):=by unfold yvL; rw [h]; rfl
def yGf:Con:=⟨yg1,ypv,fun x=>yvL x.1 x.2.1⟩
theorem yY5:ConOk Tryz.prog 246 yGf:=(yWF).mono (fun x r hk h=>zkW h (fun hq=>yYO x.1 x.2.1 hk hq))
end
section
def yJy:Code:=(Tryz.f182.body).getD .skip
def yJM:Env:=zki TT [(176,yzY),(177,yzV),(178,yBK),(246,yGf)] []
theorem yS2:FrOk Tryz.prog ⟨yJM,40,fun _=>none⟩ yJy:=zkp yb yd ⟨yQZ,yQW,yUs,yY5,trivial⟩
def yU8:Nat→Option Seg:=fun _=>none
abbrev yg2:List Par:= [.pt tA (.pr .fz (.pr (.pr .fz .fz) (.pr (.ow (.pr (.ow .fz) (.pr (.ow (.pr .fz .fz)) (.pr .fz (.ow .fz))))) (.pr .fz (.pr .fz (.pr .fz (.pr .fz (.pr .fz (.pr (.ow (.pr .fz .fz)) (.pr .fz (.pr .fz .fz))))))))))),.rd tI,.rd tI]
abbrev ypw:List OT:= [⟨false,tI,.fz⟩]
def yq5 (a0:dA) (a1 a2:Int):Option (ResD ypw×MutD yg2) :=
 let r1:=yjk a0.2.1 a1
 bnd (yoF a0 r1) fun r2 =>
 bif (!r2.1.2.1) then
 some ((5,()),(a0,()))
 else
 let r3:=ylp a0.2.1 a1
 bif (inb r3 r2.1.1.length) then
 bnd (yvL a0 (r1,(r2.1.1.set (r3).toNat a2))) fun r4 =>
 some ((0,()),(r4.2.1,()))
 else none
theorem yZK (x:InD yg2):zjH ⟨yJM,40,yU8⟩ Tryz.f182.results.toList yJy yg2 ypw x=yq5 x.1 x.2.1 x.2.2.1:=by kernel_rfl
theorem yWG:ConOk Tryz.prog 182 ⟨yg2,ypw,fun x=>yq5 x.1 x.2.1 x.2.2.1⟩:=zkh (yS2) Tryz.func182 (by kernel_rfl) (by kernel_rfl) Tryz.ntmps182.symm (by decide) (fun x r h=>(yZK x).trans h)
def setOne (a:dA) (b n:Int):Int×dA:=bif (ybk a (ybO a.2.1 b)).2 then (0,yCJ a (yLj a.2.2.2.2.2.2.2.2.1 (ybO a.2.1 b,(ybk a (ybO a.2.1 b)).1.set (yt7 a.2.1 b).toNat n))) else (5,a)
def yvK (a0:dA) (a1 a2:Int):Int×dA:=setOne a0 a1 a2
def ypY (a0:dA) (a1 a2:Int):Bool:=yw a0&&(blkOk a0.2.1 a1&&decide (a0.2.2.2.2.2.2.2.2.1.length≤1000))
theorem yYP (a0:dA) (a1 a2:Int) (hk:zi9 yg2 (a0,a1,a2,())) (hq:ypY a0 a1 a2=true):yq5 a0 a1 a2=(fun n=>some ((n.1,()),(n.2,()))) (yvK a0 a1 a2):=by
 simp only [ypY,Bool.and_eq_true]at hq
 have hs:=yE7 hq.2.1
 obtain ⟨hg,_,hi⟩:=yDS hq.2.1
 unfold yq5 yvK setOne
 simp only [yjk,ylp]
 rw [yQ2 a0 (ybO a0.2.1 a1) hs]
 simp only [zky,yjm]
 cases hn:(ybk a0 (ybO a0.2.1 a1)).2
 ·rfl
 ·have hl:=yy9 hq.1 hs hn
  have hx:yt7 a0.2.1 a1=a1.tmod (a0.2.1.1 - 1):=by unfold yt7; rw [hq.2.1]; rfl
  rw [zjP.2 (show 0≤yt7 a0.2.1 a1∧yt7 a0.2.1 a1 < (ybk a0 (ybO a0.2.1 a1)).1.length by omega),yY8 _ _ hq.2.2]
  rfl
def yfb (a0:dA) (a1 a2:Int):Option (ResD ypw×MutD yg2):=bif ypY a0 a1 a2 then (fun n=>some ((n.1,()),(n.2,()))) (yvK a0 a1 a2) else none
theorem yY9 (a0:dA) (a1 a2:Int) (h:ypY a0 a1 a2=true):yfb a0 a1 a2=(fun n=>some ((n.1,()),(n.2,()))) (yvK a0 a1 a2):=by unfold yfb; rw [h]; rfl
def yGg:Con:=⟨yg2,ypw,fun x=>yfb x.1 x.2.1 x.2.2.1⟩
theorem yY6:ConOk Tryz.prog 182 yGg:=(yWG).mono (fun x r hk h=>zkW h (fun hq=>yYP x.1 x.2.1 x.2.2.1 hk hq))
end
section
def yJw:Code:=(Tryz.f209.body).getD .skip
def yJK:Env:=zki TT [(150,yew)] []
theorem ySU:FrOk Tryz.prog ⟨yJK,10,fun _=>none⟩ yJw:=zkp yb yd ⟨yjp,trivial⟩
def yU6:Nat→Option Seg:=fun _=>none
abbrev yps:List Par:= [.pt tU .fz]
abbrev yu5:List OT:= [⟨false,tG,(.pr .fz .fz)⟩]
def ygS (a0:dU):Option (ResD yu5×MutD yps) :=
 bnd (yg a0 3) fun r1 =>
 bnd (yg r1.2.1 4) fun r2 =>
 some ((((IntKind.i64.wrap (3+r1.1.1)),(IntKind.i64.wrap (1+r2.1.1))),()),(r2.2.1,()))
theorem yZF (x:InD yps):zjH ⟨yJK,10,yU6⟩ Tryz.f209.results.toList yJw yps yu5 x=ygS x.1:=by kernel_rfl
theorem yWB:ConOk Tryz.prog 209 ⟨yps,yu5,fun x=>ygS x.1⟩:=zkh (ySU) Tryz.func209 (by kernel_rfl) (by kernel_rfl) Tryz.ntmps209.symm (by decide) (fun x r h=>(yZF x).trans h)
def yGc:Con:=⟨yps,yu5,fun x=>ygS x.1⟩
theorem yY2:ConOk Tryz.prog 209 yGc:=yWB
theorem y2e (u:dU) (h:yd3 u): ∃ (g:dG) (u':dU),ygS u=some ((g,()),(u',()))∧yc g=true∧yd3 u':=by
 unfold ygS
 obtain ⟨r1,u1,e1,q1,d1⟩:=yfF u 3 h
 obtain ⟨r2,u2,e2,q2,d2⟩:=yfF u1 4 d1
 simp only [e1,e2,zky]
 refine ⟨_,_,rfl,?_,d2⟩
 have:=q1.2.1 (by omega); have:=q2.2.1 (by omega); have:=q1.1; have:=q2.1
 rw [wr (by omega) (by omega),wr (by omega) (by omega)]
 exact yi.2 ⟨⟨by show 3≤3+r1; omega,by show 3+r1≤5; omega⟩,by show 1≤1+r2; omega,by show 1+r2≤8; omega⟩
end
section
def yNS:Code:=(Tryz.f263.body).getD .skip
def yNU:Env:=zki TT [] []
theorem yVF:FrOk Tryz.prog ⟨yNU,31,fun _=>none⟩ yNS:=zkp yb yd trivial
def yXO:Nat→Option Seg:=fun _=>none
abbrev yrR:List Par:= [.pt tA (.pr .fz (.pr (.pr .fz .fz) (.pr (.ow (.pr (.ow .fz) (.pr (.ow (.pr .fz .fz)) (.pr .fz (.ow .fz))))) (.pr .fz (.pr .fz (.pr .fz (.pr .fz (.pr .fz (.pr (.ow (.pr .fz .fz)) (.pr .fz (.pr .fz .fz)))))))))))]
abbrev yxm:List OT:= [⟨false,tB,.fz⟩]
def yy8 (a0:dA):Option (ResD yxm×MutD yrR) :=
 bif a0.2.2.2.2.2.2.2.2.2.2.1 then
 some ((false,()),(a0,()))
 else
 bif (a0.2.2.2.2.2.2.2.2.2.1==0) then
 some ((false,()),((a0.1,a0.2.1,a0.2.2.1,a0.2.2.2.1,a0.2.2.2.2.1,a0.2.2.2.2.2.1,a0.2.2.2.2.2.2.1,a0.2.2.2.2.2.2.2.1,a0.2.2.2.2.2.2.2.2.1,(-1),true,a0.2.2.2.2.2.2.2.2.2.2.2),()))
 else
 bif (ltb 0 a0.2.2.2.2.2.2.2.2.2.1) then
 some ((true,()),((a0.1,a0.2.1,a0.2.2.1,a0.2.2.2.1,a0.2.2.2.2.1,a0.2.2.2.2.2.1,a0.2.2.2.2.2.2.1,a0.2.2.2.2.2.2.2.1,a0.2.2.2.2.2.2.2.2.1,(IntKind.i64.wrap (a0.2.2.2.2.2.2.2.2.2.1 - 1)),a0.2.2.2.2.2.2.2.2.2.2),()))
 else
 some ((true,()),(a0,()))
theorem y0t (x:InD yrR):zjH ⟨yNU,31,yXO⟩ Tryz.f263.results.toList yNS yrR yxm x=yy8 x.1:=by kernel_rfl
theorem yYS:ConOk Tryz.prog 263 ⟨yrR,yxm,fun x=>yy8 x.1⟩:=zkh (yVF) Tryz.func263 (by kernel_rfl) (by kernel_rfl) Tryz.ntmps263.symm (by decide) (fun x r h=>(y0t x).trans h)
def yr1 (a0:dA):Bool×dA :=
 bif a0.2.2.2.2.2.2.2.2.2.2.1 then
 (false,a0)
 else
 bif (a0.2.2.2.2.2.2.2.2.2.1==0) then
 (false,(a0.1,a0.2.1,a0.2.2.1,a0.2.2.2.1,a0.2.2.2.2.1,a0.2.2.2.2.2.1,a0.2.2.2.2.2.2.1,a0.2.2.2.2.2.2.2.1,a0.2.2.2.2.2.2.2.2.1,(-1),true,a0.2.2.2.2.2.2.2.2.2.2.2))
 else
 bif (ltb 0 a0.2.2.2.2.2.2.2.2.2.1) then
 (true,(a0.1,a0.2.1,a0.2.2.1,a0.2.2.2.1,a0.2.2.2.2.1,a0.2.2.2.2.2.1,a0.2.2.2.2.2.2.1,a0.2.2.2.2.2.2.2.1,a0.2.2.2.2.2.2.2.2.1,(IntKind.i64.wrap (a0.2.2.2.2.2.2.2.2.2.1 - 1)),a0.2.2.2.2.2.2.2.2.2.2))
 else
 (true,a0)
def yyS:Con:=⟨yrR,yxm,fun x=>(fun n=>some ((n.1,()),(n.2,()))) (yr1 x.1)⟩
theorem yZ6 (a0:dA):yy8 a0=(fun n=>some ((n.1,()),(n.2,()))) (yr1 a0):=zkS (p:=fun (n:Bool×dA)=>((n.1,()),(n.2,()))) (zkx (p:=fun (n:Bool×dA)=>((n.1,()),(n.2,()))) rfl (zkx (p:=fun (n:Bool×dA)=>((n.1,()),(n.2,()))) rfl (zkx (p:=fun (n:Bool×dA)=>((n.1,()),(n.2,()))) rfl rfl)))
theorem yLf:ConOk Tryz.prog 263 yyS:=(yYS).mono (fun x r _ h=>(yZ6 x.1).trans h)
theorem yUT (a:dA):yr1 a=yY a:=by kernel_rfl
end
section
def ydT:Code:=(Tryz.f152.body).getD .skip
def yhN:Env:=zki TT [] [(21056,.fz),(21120,.fz),(37952,(.pr .fz .fz)),(38016,(.pr .fz .fz))]
theorem yPb:FrOk Tryz.prog ⟨yhN,60,fun _=>none⟩ ydT:=zkp yb yd trivial
def yDp:Nat→Option Seg:=fun _=>none
def ycm:Shape:=⟨[(1,false,[.ptr 0 0]),(2,false,[.ptr 64 0]),(3,false,[.ptr 4544 0]),(4,false,[.int .i64])],[(0,[.br tL,.br tW,.bool,.br tI]),(64,[.nil,.nil,.bool,.nil]),(4544,[.at 800000001,.nil,.bool,.at 800000000])],[(800000001,tL,.fz),(800000000,tI,.fz)]⟩
def yhi:Shape:=⟨[(1,false,[.ptr 0 0]),(2,false,[.ptr 64 0]),(3,false,[.ptr 4544 0]),(4,false,[.ci .i64 0])],[(0,[.br tL,.br tW,.bool,.br tI]),(64,[.nil,.nil,.bool,.nil]),(4544,[.at 800000001,.nil,.bool,.at 800000000])],[(800000001,tL,.fz),(800000000,tI,.fz)]⟩
def yg7:Shape:=⟨[(1,false,[.ptr 0 0]),(2,false,[.ptr 64 0]),(3,false,[.ptr 4544 0])],[(0,[.br tL,.br tW,.bool,.br tI]),(64,[.nil,.nil,.bool,.nil]),(4544,[.at 800000000,.nil,.bool,.at 800000001])],[(800000000,tL,.fz),(800000001,tI,.fz)]⟩
def yl0:Shape:=⟨[],[],[]⟩
abbrev yrs (v0:Int) (v1 v2 v3:dM):(ycm).X:=((((),()),((),()),((),()),(v0,()),()),((v1.1,v1.2.1,v1.2.2.1,v1.2.2.2,()),((),(),v2.2.2.1,(),()),((),(),v3.2.2.1,(),()),()),(v3.1,v3.2.2.2,()))
abbrev yMZ (v0 v1 v2:dM):(yhi).X:=((((),()),((),()),((),()),((),()),()),((v0.1,v0.2.1,v0.2.2.1,v0.2.2.2,()),((),(),v1.2.2.1,(),()),((),(),v2.2.2.1,(),()),()),(v2.1,v2.2.2.2,()))
abbrev yAm (v0 v1 v2:dM):(yg7).X:=((((),()),((),()),((),()),()),((v0.1,v0.2.1,v0.2.2.1,v0.2.2.2,()),((),(),v1.2.2.1,(),()),((),(),v2.2.2.1,(),()),()),(v2.1,v2.2.2.2,()))
def yrI (v0:Int) (v1:List (List Int)) (v2:List dW) (v3:Bool) (v4:List Int) (v5 v6:Bool) (v7:List (List Int)) (v8:List Int):Option ((ycm).X ⊕ ((yg7).X ⊕ (yl0).X)) :=
 bif (ltb v0 (v1.length:Int)) then
 bif (inb v0 v1.length) then
 bif (zj4 ([]:List Int).length (nth v1 v0 []).length 8) then
 bif (zj4 v7.length ([(([]:List Int)++(nth v1 v0 []))]:List (List Int)).length 24) then
 some (.inl ((((),()),((),()),((),()),((IntKind.i64.wrap (v0+1)),()),()),((v1,v2,v3,v4,()),((),(),v5,(),()),((),(),v6,(),()),()),((v7++([(([]:List Int)++(nth v1 v0 []))]:List (List Int))),v8,())))
 else none
 else none
 else none
 else
 some (.inr (.inl ((((),()),((),()),((),()),()),((v1,v2,v3,v4,()),((),(),v5,(),()),((),(),v6,(),()),()),(v7,v8,()))))
def ycT (x:(ycm).X):=yrI x.1.2.2.2.1.1 x.2.1.1.1 x.2.1.1.2.1 x.2.1.1.2.2.1 x.2.1.1.2.2.2.1 x.2.1.2.1.2.2.1 x.2.1.2.2.1.2.2.1 x.2.2.1 x.2.2.2.1
def yz3 (x:(yhi).X):(ycm).X:=((((),()),((),()),((),()),(0,()),()),((x.2.1.1.1,x.2.1.1.2.1,x.2.1.1.2.2.1,x.2.1.1.2.2.2.1,()),((),(),x.2.1.2.1.2.2.1,(),()),((),(),x.2.1.2.2.1.2.2.1,(),()),()),(x.2.2.1,x.2.2.2.1,()))
def yBt:Code:=(zdI ydT 64 116).getD .skip
theorem yOr:zdI ydT 64 29=some (.block 0 (.loop yBt)):=by kernel_rfl
theorem yQ7 (x:(ycm).X):zg7 ⟨yhN,60,yDp⟩ 0 yBt 116 ycm yg7 yl0 x=ycT x:=by kernel_rfl
def yAe (x:(yhi).X):Nat:=18446744073709551616
def ys1 (x:(yhi).X):Option ((yg7).X ⊕ (yl0).X):=zr ycT (yAe x) (yz3 x)
def yAv:Seg:=⟨yhi,yg7,yl0,ys1⟩
def yul:Nat→Option Seg:=fun q=>bif Nat.beq q 29 then some yAv else yDp q
theorem yPc:FrOk Tryz.prog ⟨yhN,60,yul⟩ ydT:=(yPb).loop (sg:=yAv) ycm yz3 (by decide) yOr ycT yAe (by decide) (fun _=>rfl) (fun x r _ h=>h) yQ7
def ycn:Shape:=⟨[(1,false,[.ptr 0 0]),(2,false,[.ptr 64 0]),(3,false,[.ptr 4544 0]),(5,false,[.int .i64])],[(0,[.br tL,.br tW,.bool,.br tI]),(64,[.nil,.nil,.bool,.nil]),(4544,[.at 800000000,.at 800000002,.bool,.at 800000001])],[(800000000,tL,.fz),(800000002,tW,(.pr .fz .fz)),(800000001,tI,.fz)]⟩
def yhj:Shape:=⟨[(1,false,[.ptr 0 0]),(2,false,[.ptr 64 0]),(3,false,[.ptr 4544 0]),(5,false,[.ci .i64 0])],[(0,[.br tL,.br tW,.bool,.br tI]),(64,[.nil,.nil,.bool,.nil]),(4544,[.at 800000000,.at 800000002,.bool,.at 800000001])],[(800000000,tL,.fz),(800000002,tW,(.pr .fz .fz)),(800000001,tI,.fz)]⟩
def yg8:Shape:=⟨[(2,false,[.ptr 64 0]),(3,false,[.ptr 4544 0])],[(64,[.nil,.nil,.bool,.nil]),(4544,[.at 800000000,.at 800000001,.bool,.at 800000002])],[(800000000,tL,.fz),(800000001,tW,(.pr .fz .fz)),(800000002,tI,.fz)]⟩
def yl1:Shape:=⟨[],[],[]⟩
abbrev yrt (v0:Int) (v1 v2 v3:dM):(ycn).X:=((((),()),((),()),((),()),(v0,()),()),((v1.1,v1.2.1,v1.2.2.1,v1.2.2.2,()),((),(),v2.2.2.1,(),()),((),(),v3.2.2.1,(),()),()),(v3.1,v3.2.1,v3.2.2.2,()))
abbrev yM0 (v0 v1 v2:dM):(yhj).X:=((((),()),((),()),((),()),((),()),()),((v0.1,v0.2.1,v0.2.2.1,v0.2.2.2,()),((),(),v1.2.2.1,(),()),((),(),v2.2.2.1,(),()),()),(v2.1,v2.2.1,v2.2.2.2,()))
abbrev yAn (v0 v1:dM):(yg8).X:=((((),()),((),()),()),(((),(),v0.2.2.1,(),()),((),(),v1.2.2.1,(),()),()),(v1.1,v1.2.1,v1.2.2.2,()))
def yrJ (v0:Int) (v1:List (List Int)) (v2:List dW) (v3:Bool) (v4:List Int) (v5 v6:Bool) (v7:List (List Int)) (v8:List dW) (v9:List Int):Option ((ycn).X ⊕ ((yg8).X ⊕ (yl1).X)) :=
 bif (ltb v0 (v2.length:Int)) then
 bif (inb v0 v2.length) then
 bif (inb v0 v2.length) then
 bif (zj4 ([]:List Int).length ((nth v2 v0 (0,[])).2).length 8) then
 bif (zj4 v8.length ([((nth v2 v0 (0,[])).1,(([]:List Int)++((nth v2 v0 (0,[])).2)))]:List dW).length 32) then
 some (.inl ((((),()),((),()),((),()),((IntKind.i64.wrap (v0+1)),()),()),((v1,v2,v3,v4,()),((),(),v5,(),()),((),(),v6,(),()),()),(v7,(v8++([((nth v2 v0 (0,[])).1,(([]:List Int)++((nth v2 v0 (0,[])).2)))]:List dW)),v9,())))
 else none
 else none
 else none
 else none
 else
 some (.inr (.inl ((((),()),((),()),()),(((),(),v5,(),()),((),(),v6,(),()),()),(v7,v8,v9,()))))
def ycU (x:(ycn).X):=yrJ x.1.2.2.2.1.1 x.2.1.1.1 x.2.1.1.2.1 x.2.1.1.2.2.1 x.2.1.1.2.2.2.1 x.2.1.2.1.2.2.1 x.2.1.2.2.1.2.2.1 x.2.2.1 x.2.2.2.1 x.2.2.2.2.1
def yz4 (x:(yhj).X):(ycn).X:=((((),()),((),()),((),()),(0,()),()),((x.2.1.1.1,x.2.1.1.2.1,x.2.1.1.2.2.1,x.2.1.1.2.2.2.1,()),((),(),x.2.1.2.1.2.2.1,(),()),((),(),x.2.1.2.2.1.2.2.1,(),()),()),(x.2.2.1,x.2.2.2.1,x.2.2.2.2.1,()))
def yBu:Code:=(zdI ydT 64 244).getD .skip
theorem yOs:zdI ydT 64 61=some (.block 2 (.loop yBu)):=by kernel_rfl
theorem yQ8 (x:(ycn).X):zg7 ⟨yhN,60,yul⟩ 2 yBu 244 ycn yg8 yl1 x=ycU x:=by kernel_rfl
def yAf (x:(yhj).X):Nat:=18446744073709551616
def ys2 (x:(yhj).X):Option ((yg8).X ⊕ (yl1).X):=zr ycU (yAf x) (yz4 x)
def yAw:Seg:=⟨yhj,yg8,yl1,ys2⟩
def yDq:Nat→Option Seg:=fun q=>bif Nat.beq q 61 then some yAw else yul q
theorem yPd:FrOk Tryz.prog ⟨yhN,60,yDq⟩ ydT:=(yPc).loop (sg:=yAw) ycn yz4 (by decide) yOs ycU yAf (by decide) (fun _=>rfl) (fun x r _ h=>h) yQ8
abbrev yhY:List Par:= [.rd tM]
abbrev ysD:List OT:= [⟨false,tM,(.pr (.ow .fz) (.pr (.ow (.pr .fz .fz)) (.pr .fz (.ow .fz))))⟩]
def yoR (a0:dM):Option (ResD ysD×MutD yhY) :=
 bif (zj4 ([]:List Int).length a0.2.2.2.length 8) then
 zjw (ys1 ((((),()),((),()),((),()),((),()),()),((a0.1,a0.2.1,a0.2.2.1,a0.2.2.2,()),((),(),false,(),()),((),(),a0.2.2.1,(),()),()),([],(([]:List Int)++a0.2.2.2),()))) (fun y0 =>
 zjw (ys2 ((((),()),((),()),((),()),((),()),()),((y0.2.1.1.1,y0.2.1.1.2.1,y0.2.1.1.2.2.1,y0.2.1.1.2.2.2.1,()),((),(),y0.2.1.2.1.2.2.1,(),()),((),(),y0.2.1.2.2.1.2.2.1,(),()),()),(y0.2.2.1,[],y0.2.2.2.1,()))) (fun y1 =>
 some (((y1.2.2.1,y1.2.2.2.1,y1.2.1.2.1.2.2.1,y1.2.2.2.2.1),()),())) (fun y1 =>
 none)) (fun y0 =>
 none)
 else none
theorem yYg (x:InD yhY):zjH ⟨yhN,60,yDq⟩ Tryz.f152.results.toList ydT yhY ysD x=yoR x.1:=by kernel_rfl
theorem yT6:ConOk Tryz.prog 152 ⟨yhY,ysD,fun x=>yoR x.1⟩:=zkh (yPd) Tryz.func152 (by kernel_rfl) (by kernel_rfl) Tryz.ntmps152.symm (by decide) (fun x r h=>(yYg x).trans h)
def yX (a0:dM):dM:=a0
theorem yV9 (a0:dM) (hk:zi9 yhY (a0,())):yoR a0=(fun n=>some ((n,()),())) (yX a0):=by
 have hb1:a0.1.length * 24≤2 ^ 47:=hk.1.1.1
 have hb2:a0.2.1.length * 32≤2 ^ 47:=hk.1.2.1.1
 have hb3:a0.2.2.2.length * 8≤2 ^ 47:=hk.1.2.2.2.1
 have hs: ∀ i,i < a0.1.length→(a0.1.getD i []).length * 8≤2 ^ 47:=fun i hi=>by rw [zcq hi]; exact (hk.1.1.2 _ (List.getElem_mem hi)).1
 have hc: ∀ i,i < a0.2.1.length→(a0.2.1.getD i (0,[])).2.length * 8≤2 ^ 47:=fun i hi=>by rw [zcq hi]; exact (hk.1.2.1.2 _ (List.getElem_mem hi)).2.1
 have h1:ys1 (yMZ a0 noMem ([],[],a0.2.2.1,a0.2.2.2))=some (.inl (yAm a0 noMem (a0.1,[],a0.2.2.1,a0.2.2.2))):=by
  have:=zkk (step:=ycT) a0.1 [] (fun i s=>yrs i a0 noMem (s,[],a0.2.2.1,a0.2.2.2)) (fun s x=>s++ [x]) (fun i s=>s.length=i) (fun s=> .inl (yAm a0 noMem (s,[],a0.2.2.1,a0.2.2.2))) (fun i s hi hs2=>⟨by
   have:=hs i hi
   simp only [ycT,yrs,yrI,zjI (show (i:Int) < a0.1.length by omega),cond_true,wr (show -9223372036854775808≤(i:Int)+1 by omega) (by omega),Int.natCast_add,Int.natCast_one,Int.toNat_natCast,zkO hi,zjW,List.nil_append]
   rw [zkw.2 (show (([]:List Int).length+(a0.1.getD i []).length) * 8≤140737488355328 by rw [List.length_nil]; omega),zkw.2 (show (s.length+ [a0.1.getD i []].length) * 24≤140737488355328 by simp only [List.length_cons,List.length_nil]; omega)]; rfl,by simp [hs2]⟩) (fun s _=>by simp only [ycT,yrs,yrI,zkm (Int.le_refl _),cond_false]) [] rfl 18446744073709551616 (by omega)
  rw [ytd]at this
  exact this
 have h2:ys2 (yM0 a0 noMem (a0.1,[],a0.2.2.1,a0.2.2.2))=some (.inl (yAn noMem a0)):=by
  have:=zkk (step:=ycU) a0.2.1 (0,[]) (fun i s=>yrt i a0 noMem (a0.1,s,a0.2.2.1,a0.2.2.2)) (fun s x=>s++ [x]) (fun i s=>s.length=i) (fun s=> .inl (yAn noMem (a0.1,s,a0.2.2.1,a0.2.2.2))) (fun i s hi hs2=>⟨by
   have:=hc i hi
   simp only [ycU,yrt,yrJ,zjI (show (i:Int) < a0.2.1.length by omega),cond_true,wr (show -9223372036854775808≤(i:Int)+1 by omega) (by omega),Int.natCast_add,Int.natCast_one,Int.toNat_natCast,zkO hi,zjW,List.nil_append,zkV]
   rw [zkw.2 (show (([]:List Int).length+(a0.2.1.getD i (0,[])).2.length) * 8≤140737488355328 by rw [List.length_nil]; omega),zkw.2 (show (s.length+ [a0.2.1.getD i (0,[])].length) * 32≤140737488355328 by simp only [List.length_cons,List.length_nil]; omega)]; rfl,by simp [hs2]⟩) (fun s _=>by simp only [ycU,yrt,yrJ,zkm (Int.le_refl _),cond_false]) [] rfl 18446744073709551616 (by omega)
  rw [ytd]at this
  exact this
 unfold yoR yX
 rw [zkw.2 (show (([]:List Int).length+a0.2.2.2.length) * 8≤140737488355328 by rw [List.length_nil]; omega)]
 simp only [cond_true,List.nil_append,h1,zkJ,h2]
def yfv:Con:=⟨yhY,ysD,fun x=>(fun n=>some ((n,()),())) (yX x.1)⟩
theorem ylD:ConOk Tryz.prog 152 yfv:=(yT6).mono (fun x r hk h=>(yV9 x.1 hk).trans h)
end
section
def ygV:Code:=(Tryz.f287.body).getD .skip
def ylP:Env:=zki TT [] []
theorem yIV:FrOk Tryz.prog ⟨ylP,28,fun _=>none⟩ ygV:=zkp yb yd trivial
def yxA:Nat→Option Seg:=fun _=>none
def yaS:Shape:=⟨[(0,false,[.br tI]),(1,false,[.int .i64]),(5,false,[.at 800000000]),(6,false,[.int .i64])],[],[(800000000,tI,.fz)]⟩
def yeh:Shape:=⟨[(0,false,[.br tI]),(1,false,[.int .i64]),(5,false,[.at 800000000]),(6,false,[.ci .i64 0])],[],[(800000000,tI,.fz)]⟩
def yec:Shape:=⟨[(5,false,[.at 800000000])],[],[(800000000,tI,.fz)]⟩
def yhI:Shape:=⟨[],[],[]⟩
abbrev ymd (v0:List Int) (v1 v2:Int) (v3:List Int):(yaS).X:=(((v0,()),(v1,()),((),()),(v2,()),()),(),(v3,()))
abbrev yHg (v0:List Int) (v1:Int) (v2:List Int):(yeh).X:=(((v0,()),(v1,()),((),()),((),()),()),(),(v2,()))
abbrev yHb (v0:List Int):(yec).X:=((((),()),()),(),(v0,()))
def ymA (v0:List Int) (v1 v2:Int) (v3:List Int):Option ((yaS).X ⊕ ((yec).X ⊕ (yhI).X)) :=
 bif (ltb v2 (v0.length:Int)) then
 bif (inb v2 v0.length) then
 bif ((nth v0 v2 0) !=v1) then
 bif (inb v2 v0.length) then
 bif (zj4 v3.length ([(nth v0 v2 0)]:List Int).length 8) then
 some (.inl (((v0,()),(v1,()),((),()),((IntKind.i64.wrap (v2+1)),()),()),(),((v3++([(nth v0 v2 0)]:List Int)),())))
 else none
 else none
 else
 some (.inl (((v0,()),(v1,()),((),()),((IntKind.i64.wrap (v2+1)),()),()),(),(v3,())))
 else none
 else
 some (.inr (.inl ((((),()),()),(),(v3,()))))
def ya3 (x:(yaS).X):=ymA x.1.1.1 x.1.2.1.1 x.1.2.2.2.1.1 x.2.2.1
def yvv (x:(yeh).X):(yaS).X:=(((x.1.1.1,()),(x.1.2.1.1,()),((),()),(0,()),()),(),(x.2.2.1,()))
def ywj:Code:=(zdI ygV 64 116).getD .skip
theorem yIJ:zdI ygV 64 29=some (.block 0 (.loop ywj)):=by kernel_rfl
theorem yJn (x:(yaS).X):zg7 ⟨ylP,28,yxA⟩ 0 ywj 116 yaS yec yhI x=ya3 x:=by kernel_rfl
def yvA (x:(yeh).X):Nat:=18446744073709551616
def ynB (x:(yeh).X):Option ((yec).X ⊕ (yhI).X):=zr ya3 (yvA x) (yvv x)
def yv9:Seg:=⟨yeh,yec,yhI,ynB⟩
def yxB:Nat→Option Seg:=fun q=>bif Nat.beq q 29 then some yv9 else yxA q
theorem yIW:FrOk Tryz.prog ⟨ylP,28,yxB⟩ ygV:=(yIV).loop (sg:=yv9) yaS yvv (by decide) yIJ ya3 yvA (by decide) (fun _=>rfl) (fun x r _ h=>h) yJn
abbrev yeo:List Par:= [.rd tL,.rd tI]
abbrev ylX:List OT:= [⟨false,tL,(.ow .fz)⟩]
def yjw (a0:List Int) (a1:Int):Option (ResD ylX×MutD yeo) :=
 zjw (ynB (((a0,()),(a1,()),((),()),((),()),()),(),(([]:List Int),()))) (fun y0 =>
 some ((y0.2.2.1,()),())) (fun y0 =>
 none)
theorem yOF (x:InD yeo):zjH ⟨ylP,28,yxB⟩ Tryz.f287.results.toList ygV yeo ylX x=yjw x.1 x.2.1:=by kernel_rfl
theorem yK9:ConOk Tryz.prog 287 ⟨yeo,ylX,fun x=>yjw x.1 x.2.1⟩:=zkh (yIW) Tryz.func287 (by kernel_rfl) (by kernel_rfl) Tryz.ntmps287.symm (by decide) (fun x r h=>(yOF x).trans h)
def yhB (a0:List Int) (a1:Int):List Int:=yHt a0 a1
theorem yJ7 {α:Type} (p:α→Bool): ∀ (l:List α) (s:List α),l.foldl (fun s x=>bif p x then s++ [x] else s) s=s++l.filter p
 | [],s=>by simp
 | x::l,s=>by
  rw [List.foldl_cons,yJ7 p l,List.filter_cons]
  cases p x<;>simp
theorem yNd (a0:List Int) (a1:Int) (hk:zi9 yeo (a0,a1,())):yjw a0 a1=(fun n=>some ((n,()),())) (yhB a0 a1):=by
 have hb:a0.length * 8≤2 ^ 47:=hk.1.1
 have h1:=zkk (step:=ya3) a0 0 (fun i s=>ymd a0 a1 i s) (fun s x=>bif x !=a1 then s++ [x] else s) (fun i s=>s.length≤i) (fun s=> .inl (yHb s)) (fun i s hi hs=>by
   constructor
   ·simp only [ya3,ymd,ymA,zjI (show (i:Int) < a0.length by omega),cond_true,wr (show -9223372036854775808≤(i:Int)+1 by omega) (by omega),Int.natCast_add,Int.natCast_one,Int.toNat_natCast,zkO hi,zjW]
    rw [zkw.2 (show (s.length+ [a0.getD i 0].length) * 8≤140737488355328 by simp only [List.length_cons,List.length_nil]; omega)]
    cases (a0.getD i 0 !=a1)<;>rfl
   ·cases (a0.getD i 0 !=a1)
    ·show s.length≤_; omega
    ·simp only [cond_true,List.length_append,List.length_cons,List.length_nil]; omega) (fun s _=>by simp only [ya3,ymd,ymA,zkm (Int.le_refl _),cond_false]) [] (Nat.le_refl _) 18446744073709551616 (by omega)
 unfold yjw yhB yHt
 rw [show ynB (yHg a0 a1 [])=_ from h1,yJ7]; rfl
def yxS:Con:=⟨yeo,ylX,fun x=>(fun n=>some ((n,()),())) (yhB x.1 x.2.1)⟩
theorem yNA:ConOk Tryz.prog 287 yxS:=(yK9).mono (fun x r hk h=>(yNd x.1 x.2.1 hk).trans h)
end
end
end Go.Tf
